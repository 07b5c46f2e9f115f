import PyProof.Rows.All
import Wide.All
import OpenK.AllK
import Wide.FinOn
import HandS.Base
import HandS.Call
import HandS.List
import HandS.Dict
import HandS.More
import HandS.Exc
import HandS.Defaults
import HandS.ClsMeth
import HandS.HeadHook1
import HandS.HeadHook2
import HandS.HeadHook3
import HandS.HeadHook4
import KE.KDictOf
import KE.KStateDown
import Lean
import HandS.Ends
import HandS.Words
import HandS.WordsExc
import HandS.Codes
import HandS.Head0
import HandS.Head1
import HandS.Head2
import HandS.HeadEnd
import PyProof.EqAt
import PyProof.EqKinds
import PyProof.InstEq
import PyProof.DictUpdate
import HandS.ForMost
import PyProof.ToksMono
import PyProof.StrReplace2
import HandS.Replace
import PyProof.NeKinds
import KE.SortData
import KE.SortLaws
import KE.OsSortAny
import HandS.SortKw
import KE.SortKeyHeap
import HandS.Walk
import PyProof.ReprRoads
import PyProof.MeetsStr3
import KE.KDictDisplayH
import HandS.TryOnly
import HandS.Flow
import HandS.Style
import HandS.IsInst
import HandS.StrMore
import PyProof.StrLawsFrom
import PyProof.StrOps2
import HandS.DeepEq
import PyProof.Rows.StrMeet
import PyProof.ReprLen
import PyProof.StrLawsRepr
import HandS.HeadWalk
import HandS.EndTab
import PySem.Challenge.RW_recordyard_k80_outcomes
set_option Elab.async false
set_option linter.all false
set_option maxRecDepth 100000
set_option maxHeartbeats 2000000
/-! A Hook over any list of addresses: the defs and classes that the module reaches, and the statics. -/
namespace RyH
open PySem PySem.Spec PyProof.Rows L2 He
/-- what is gathered: the module's names that are wanted; of a class its own dict and the methods that are wanted, of a def its code and its defaults -/
abbrev Need : Type := List (Str × List Str)
def keyStr : Value → Str
  | .str x _ => x
  | _ => ""
def fnAs (a : Addr) (fd : FuncData) : List Addr := a :: (refV fd.code ++ refV fd.defaults)
def methAs (g : Addr → Option Obj) (ms : List Str) (d : Addr) : List Addr := match g d with
  | some ⟨_, _, .dict es _, _⟩ => d :: es.toList.flatMap fun e => match ms.contains (keyStr e.key) with
    | true => (match e.val with
      | .ref b => (match g b with
        | some ⟨_, _, .func fd, _⟩ => fnAs b fd
        | _ => [])
      | _ => [])
    | false => []
  | _ => [d]
def oneAs (g : Addr → Option Obj) (ms : List Str) (a : Addr) : List Addr := match g a with
  | some ⟨_, _, .func fd, _⟩ => fnAs a fd
  | some ⟨_, _, .cls cd, _⟩ => a :: methAs g ms cd.ns
  | some _ => [a]
  | none => []
def asR (g : Addr → Option Obj) (n : Need) : List Addr := cStatics :: mainGlobals :: (match g mainGlobals with
  | some ⟨_, _, .dict es _, _⟩ => es.toList.flatMap fun e => match n.lookup (keyStr e.key) with
    | some ms => (match e.val with
      | .ref a => oneAs g ms a
      | _ => [])
    | none => []
  | _ => [])
def frR (n : Need) (g : Addr → Option Obj) : PySem.W.Frag := frT g (asR g n)
def obsR (n : Need) (fa : List Fa) (fn : List DefD) (ts : List Tab) (tf : List Defn) (ex : PySem.W.Frag → Bool) (g : Addr → Option Obj) : AlX := (obsT fa fn ts (frR n g), ex (frR n g) && tabsB g tf (frR n g))
theorem says_of {n : Need} {fa : List Fa} {fn : List DefD} {ts : List Tab} {tf : List Defn} {ex : PySem.W.Frag → Bool} {w : World} {h : Heap} (e : obsR n fa fn ts tf ex h.get? = valX fn ts w) : SaysX fa fn ts tf ex w h (frR n h.get?) := by
  have e1 : obsT fa fn ts (frR n h.get?) = valT fn ts w := congrArg (fun z : AlX => z.1) e
  have e2 : (ex (frR n h.get?) && tabsB h.get? tf (frR n h.get?)) = true := congrArg (fun z : AlX => z.2) e
  obtain ⟨h1, h2⟩ := ba e2
  have key : ∀ p ∈ tf, PySem.W.codeHdIn (frR n h.get?) (cT (frR n h.get?) p).1 (cT (frR n h.get?) p).2 = true ∧ ∃ o, h.get? (cT (frR n h.get?) p).2 = some o ∧ emptyTab o = true := fun p hp => by
    obtain ⟨h3, h4⟩ := ba (List.all_eq_true.mp h2 p hp)
    refine ⟨h3, ?_⟩
    cases q : h.get? (cT (frR n h.get?) p).2 with
    | none =>
      rw [q] at h4
      cases h4
    | some o =>
      rw [q] at h4
      exact ⟨o, rfl, h4⟩
  exact ⟨e1, h1, fun p hp => (key p hp).1, fun p hp => by
    obtain ⟨_, o, q, z⟩ := key p hp
    exact frT_none q z, fun p hp => by
    obtain ⟨_, o, q, z⟩ := key p hp
    rw [q, emptyTab_eq z]⟩
def hookR (n : Need) (fa : List Fa) (fn : List DefD) (ts : List Tab) (tf : List Defn) (ex : PySem.W.Frag → Bool) : PySem.W.Hook where
  α := AlX
  obs := fun s => obsR n fa fn ts tf ex s.heap.get?
  val := fun w => valX fn ts w
  says := fun w h => ∃ K : PySem.W.Frag, K.In h ∧ SaysX fa fn ts tf ex w h K
  of := fun _ _ e => ⟨_, frT_in, says_of e⟩
  keeps := fun _ _ _ ⟨K, hK, c⟩ k => ⟨K, PySem.W.Frag.In.keeps hK k, ⟨c.t, c.more, c.hd, c.out, fun p hp => k _ _ (c.empty p hp)⟩⟩
theorem obsR_eq {n : Need} {fa : List Fa} {fn : List DefD} {ts : List Tab} {tf : List Defn} {ex : PySem.W.Frag → Bool} {g : Addr → Option Obj} {s : Shared} (h : ∀ a, g a = s.heap.get? a) : obsR n fa fn ts tf ex g = (hookR n fa fn ts tf ex).obs s := by
  have e : g = s.heap.get? := funext h
  rw [e] <;> rfl
/-! ### a def of a class, called by the class's name -/
/-- C.m is the def at g, as it stands -/
structure CFn (K : PySem.W.Frag) (C : Addr) (m : Str) (g : Addr) : Prop where
  rd : PySem.W.readsIn K C (.type "type") = true
  ga : PySem.W.specialIn K (.ref C) "__getattribute__" = some (some (.builtin "type.__getattribute__"))
  at_ : PySem.W.findCls K (.ref C) (.type "type") m = some (.val (.ref g))
  kp : PySem.W.keepIn K (.ref g) = true
def cfnB (K : PySem.W.Frag) (x m : Str) : Bool :=
  PySem.W.readsIn K (ga K x) (.type "type") && (eqO (PySem.W.specialIn K (.ref (ga K x)) "__getattribute__") (some (some (.builtin "type.__getattribute__"))) && (PySem.W.keepIn K (.ref (ma K (ga K x) m)) &&
    (match PySem.W.findCls K (.ref (ga K x)) (.type "type") m with
      | some (.val (.ref g)) => decide (g = ma K (ga K x) m)
      | _ => false)))
theorem cfn_ok {K : PySem.W.Frag} {x m : Str} (h : cfnB K x m = true) : CFn K (ga K x) m (ma K (ga K x) m) := by
  obtain ⟨h1, h⟩ := ba h
  obtain ⟨h2, h⟩ := ba h
  obtain ⟨h3, h4⟩ := ba h
  refine ⟨h1, eqO_ok h2, ?_, h3⟩
  split at h4
  · rename_i g e
    rw [e, of_decide_eq_true h4]
  · cases h4
section
variable {X : Cx} {CX : CXT} {k : Nat} {C g : Addr} {sp : Sp} {E : XK} {fd : FuncData} {ps : List Str} {ds : List Value} {dvs : List V} {o e : Expr} {es : List Expr} {m : Str} {pos apos : Pos} {ta : TE} {t : TA} {pl : Sem Bool}
/-- C.m(..), C an own class, m a def of it: as a call of the def -/
def tCFn (C : Addr) (sp : Sp) (dvs : List V) (E : XK) (ta : TE) (t : TA) : TE := fun σ H Q => ta σ H fun x H1 => x = .ref C ∧ t σ H1 fun vs H2 => sp (vs ++ dvs) H2 Q E
theorem pe_cfn (he : PE X o ta) (c : CFn X.K C m g) (F : FnOk X.prog X.w X.K X.mg X.base CX k g fd ps sp) (hr : Room k X.A) (hb : Binds X.K fd ps ds) (hd : Vals dvs ds) (hx : Passes CX X E) (ha : PA X (e :: es) t)
    (hst : starEach (e :: es) X.env = (false, eval e X.env) :: starEach es X.env := by rfl) (hpl : (backTo pos (starEach es X.env)).any (·.1) = false := by rfl)
    (ht : eval (.Call (.Attribute o m apos) (e :: es) [] pos) X.env = (do
      let ov ← eval o X.env
      standAt apos.atName
      let (f, first) ← holding [ov] (getMethod ov m pl)
      callWith pos f first (backTo pos (starEach (e :: es) X.env)) (backToKw pos (keywordEach [] X.env))) := by rfl) :
    PE X (.Call (.Attribute o m apos) (e :: es) [] pos) (tCFn C sp dvs E ta t) := by
  refine ⟨fun pins s σ H Q I h => ?_⟩
  refine PySem.W.methodCall_KW (pl := pl) (thn (he.run pins s σ H _ I h) fun u s1 ⟨x, H1, I1, rx, ex, q⟩ => ?_) ht
  subst ex
  obtain rfl : u = Value.ref C := rx
  refine PySem.W.method_cls I1.kIn c.ga (PySem.W.cls_value I1.kIn c.rd c.at_ (by rfl) ?_)
  refine PySem.W.callWith_K (h₀ := X.base) I1.ok.mod.kin c.kp (thn (ha.run pos pins _ σ H1 _ (I1.tok _) q) fun us s2 ⟨vs, H2, I2, r, q2⟩ => ⟨I2.kIn, ?_⟩) hst hpl
  exact run_fn F hr hb hd hx I2 r q2
end
/-! ### what a law's ex tells besides -/
/-- an entry of a dict of ints and texts -/
def entB (e : DictEntry) (kv : Key × V) : Bool := (match e.key, kv.1 with
    | .int i _, .inl j => decide (i = j) && decide (e.hash = hashInt i)
    | .str x _, .inr y => decide (x = y)
    | _, _ => false) && (match e.val, kv.2 with
    | .int i _, .int j => decide (i = j)
    | .str x _, .str y => decide (x = y)
    | _, _ => false)
def entsB : List DictEntry → List (Key × V) → Bool
  | [], [] => true
  | e :: es, kv :: kvs => entB e kv && entsB es kvs
  | _, _ => false
def dicKB (K : PySem.W.Frag) (a : Addr) (kvs : List (Key × V)) : Bool := match K.lookup a with
  | some ⟨.type c, none, .dict es _, sl⟩ => decide (c = "dict") && (sl.isEmpty && (!(a == sysModules) && (entsB es.toList kvs && decide (kvs.map (·.1)).Nodup)))
  | _ => false
theorem entB_ok {w : World} {e : DictEntry} {kv : Key × V} (h : entB e kv = true) (hs : ∀ x t, e.key = .str x t → e.hash = hashStr w x) : keyIs kv.1 e.key = true ∧ e.hash = keyH w kv.1 ∧ RelV kv.2 e.val := by
  obtain ⟨h1, h2⟩ := ba h
  obtain ⟨k, v⟩ := kv
  have hk : keyIs k e.key = true ∧ e.hash = keyH w k := by
    split at h1
    · rename_i i t j q1 q2
      obtain ⟨a, b⟩ := ba h1
      dsimp only at q2
      subst q2
      rw [q1, ← of_decide_eq_true a]
      exact ⟨keyIs_int _ _, of_decide_eq_true b⟩
    · rename_i x t y q1 q2
      dsimp only at q2
      subst q2
      rw [← of_decide_eq_true h1, q1]
      exact ⟨keyIs_str _ _, hs x t q1⟩
    · cases h1
  refine ⟨hk.1, hk.2, ?_⟩
  split at h2
  · rename_i i t j q1 q2
    dsimp only at q2
    rw [q2, q1, ← of_decide_eq_true h2]
    exact ⟨t, rfl⟩
  · rename_i x t y q1 q2
    dsimp only at q2
    rw [q2, q1, ← of_decide_eq_true h2]
    exact ⟨t, rfl⟩
  · cases h2
theorem entsB_ok {P : Program} {w : World} : ∀ {es : List DictEntry} {kvs : List (Key × V)}, entsB es kvs = true → (∀ e ∈ es, ∀ x t, e.key = .str x t → e.hash = hashStr w x) →
    ∃ vs, KV kvs vs ∧ Pairs (mixKind P w) es vs ∧ vs.map (·.1) = kvs.map (·.1) ∧ ∀ e ∈ es, ∃ k, (mixKind P w).is k e.key = true ∧ e.hash = (mixKind P w).hash k
  | [], [], _, _ => ⟨[], .nil, .nil, rfl, fun e h => nomatch h⟩
  | e :: es, kv :: kvs, h, hs => by
    obtain ⟨h1, h2⟩ := ba h
    obtain ⟨a1, a2, a3⟩ := entB_ok (w := w) h1 (hs e (List.mem_cons_self ..))
    obtain ⟨vs, b1, b2, b3, b4⟩ := entsB_ok (P := P) (w := w) h2 fun e' he' => hs e' (List.mem_cons_of_mem _ he')
    refine ⟨(kv.1, e.val) :: vs, .cons ⟨rfl, a3⟩ b1, .cons a1 rfl b2, by rw [List.map_cons, List.map_cons, b3], fun e' he' => ?_⟩
    rcases List.mem_cons.mp he' with z | z
    · rw [z]
      exact ⟨kv.1, a1, a2⟩
    · exact b4 e' z
theorem entsB_noStr : ∀ {es : List DictEntry} {is : List (Int × V)}, entsB es (is.map fun p => (Sum.inl p.1, p.2)) = true → ∀ e ∈ es, ∀ x t, e.key ≠ .str x t
  | [], [], _, e, he, _, _, _ => nomatch he
  | [], _ :: _, h, _, _, _, _, _ => by cases h
  | _ :: _, [], h, _, _, _, _, _ => by cases h
  | e :: es, p :: is, h, e', he', x, t, hx => by
    obtain ⟨h1, h2⟩ := ba (show (entB e (Sum.inl p.1, p.2) && entsB es (is.map fun p => (Sum.inl p.1, p.2))) = true from h)
    rcases List.mem_cons.mp he' with z | z
    · rw [z] at hx
      obtain ⟨h1, _⟩ := ba h1
      rw [hx] at h1
      cases h1
    · exact entsB_noStr h2 e' z x t hx
theorem dicKB_ok {P : Program} {w : World} {K : PySem.W.Frag} {a : Addr} {kvs : List (Key × V)} {h : Heap} (c : dicKB K a kvs = true) (X : K.In h) (hs : ∀ oc od es n sl, K.lookup a = some ⟨oc, od, .dict es n, sl⟩ → ∀ e ∈ es.toList, ∀ x t, e.key = .str x t → e.hash = hashStr w x) :
    (a == sysModules) = false ∧ ∃ vs, KV kvs vs ∧ h.DictOf (mixKind P w) a vs := by
  unfold dicKB at c
  split at c
  · rename_i cl es n sl q
    obtain ⟨c1, c⟩ := ba c
    obtain ⟨c2, c⟩ := ba c
    obtain ⟨c3, c⟩ := ba c
    obtain ⟨c4, c5⟩ := ba c
    obtain ⟨vs, b1, b2, b3, b4⟩ := entsB_ok (P := P) (w := w) c4 (hs _ _ _ _ _ q)
    refine ⟨by simpa using c3, vs, b1, _, es, n, X _ _ q, ⟨?_, rfl, ?_⟩, rfl, fun e he => b4 e (Array.mem_toList_iff.mpr he), b2, ?_⟩
    · show Value.type cl = Value.type "dict"
      rw [of_decide_eq_true c1]
    · exact Array.isEmpty_iff.mp c2
    · rw [b3]
      exact of_decide_eq_true c5
  · cases c
/-- the same where all keys are ints -/
theorem dicKB_okI {P : Program} {w : World} {K : PySem.W.Frag} {a : Addr} {is : List (Int × V)} {h : Heap} (c : dicKB K a (is.map fun p => (Sum.inl p.1, p.2)) = true) (X : K.In h) :
    (a == sysModules) = false ∧ ∃ vs, KV (is.map fun p => (Sum.inl p.1, p.2)) vs ∧ h.DictOf (mixKind P w) a vs := by
  refine dicKB_ok c X fun oc od es n sl q e he x t hx => ?_
  unfold dicKB at c
  rw [q] at c
  split at c
  · rename_i z
    cases z
    obtain ⟨_, c⟩ := ba c
    obtain ⟨_, c⟩ := ba c
    obtain ⟨_, c⟩ := ba c
    obtain ⟨c4, _⟩ := ba c
    exact absurd hx (entsB_noStr c4 e he x t)
  · cases c
/-- dict(d), d a dict of the module -/
theorem call_dictK {X : Cx} {a : Addr} {kvs : List (Key × V)} (hz : kvs.length ≤ sizeLine) (c : ∀ h : Heap, X.K.In h → (a == sysModules) = false ∧ ∃ vs, KV kvs vs ∧ h.DictOf (mixKind X.prog X.w) a vs) :
    CallR X (.type "dict") (fun xs H Q => xs = [.ref a] ∧ ∀ p, H p = none → Q (.ref p) (upd H p (.dK kvs))) := by
  intro pins s σ H xs us Q I r h
  obtain ⟨ex, q⟩ := h
  subst ex
  obtain ⟨u, eu, rx⟩ := vals1 r
  subst eu
  cases rx
  obtain ⟨lo, vs, rel, dd⟩ := c s.heap I.kIn
  refine PySem.kt_call_dict lo dd (by rw [← rel.length]; exact hz) fun h' d' hs => ?_
  have hm : (s.heap.objs.size == sysModules) = false := beq_eq_false_iff_ne.mpr (Nat.ne_of_gt I.big)
  exact ⟨.ref s.heap.objs.size, upd H s.heap.objs.size (.dK kvs), I.laid (t' := s.toks) (fun b u e => (hs.2 b (Nat.ne_of_lt (Heap.lt_size e))).trans (Heap.get?_push_of_some _ e)) (Nat.le_refl _)
    (show ObjOk X.prog X.w _ _ _ (.dK kvs) from ⟨hz, hm, vs, rel, d'⟩), rfl, q _ (I.hok.fresh (Nat.le_refl _))⟩
/-- a method that a class has of another -/
def inhB (K : PySem.W.Frag) (l : List (Str × Str × Str)) : Bool := l.all fun t => decide (ma K (ga K t.1) t.2.2 = ma K (ga K t.2.1) t.2.2)
theorem inh_ok {K : PySem.W.Frag} {l : List (Str × Str × Str)} (h : inhB K l = true) {c b m : Str} (hm : (c, b, m) ∈ l) : ma K (ga K c) m = ma K (ga K b) m := of_decide_eq_true (List.all_eq_true.mp h _ hm)
/-- a class whose instances are told apart by identity, and of which isinstance is told -/
structure CmpC (K : PySem.W.Frag) (C : Addr) : Prop where
  ob : PySem.W.mroIn K C (.type "object") = some true
  eq : PySem.W.findIn K (.ref C) "__eq__" = some (some (.builtin "object.__eq__"))
  ha : PySem.W.findIn K (.ref C) "__class__" = some (some (.builtin "object.__class__"))
  hn : PySem.W.specialIn K (.builtin "object.__class__") "__get__" = some (some (.builtin "getset_descriptor.__get__"))
  htk : PySem.W.takesIn K (.builtin "object.__class__") = some true
def cmpB (K : PySem.W.Frag) (l : List Str) : Bool := eqO (PySem.W.specialIn K (.builtin "object.__class__") "__get__") (some (some (.builtin "getset_descriptor.__get__"))) && (decide (PySem.W.takesIn K (.builtin "object.__class__") = some true) &&
  l.all fun c => decide (PySem.W.mroIn K (ga K c) (.type "object") = some true) && (eqO (PySem.W.findIn K (.ref (ga K c)) "__eq__") (some (some (.builtin "object.__eq__"))) && eqO (PySem.W.findIn K (.ref (ga K c)) "__class__") (some (some (.builtin "object.__class__")))))
theorem cmp_ok {K : PySem.W.Frag} {l : List Str} (h : cmpB K l = true) {c : Str} (hm : c ∈ l) : CmpC K (ga K c) := by
  obtain ⟨h1, h⟩ := ba h
  obtain ⟨h2, h⟩ := ba h
  obtain ⟨h3, h⟩ := ba (List.all_eq_true.mp h _ hm)
  obtain ⟨h4, h5⟩ := ba h
  exact ⟨of_decide_eq_true h3, eqO_ok h4, eqO_ok h5, eqO_ok h1, of_decide_eq_true h2⟩
/-- isinstance of an instance: both answers -/
def kitsB (K : PySem.W.Frag) (l : List (Str × Value × Bool)) : Bool := l.all fun t => decide (PySem.W.kitOne K (.ref (ga K t.1)) t.2.1 = some t.2.2)
theorem kits_ok {K : PySem.W.Frag} {l : List (Str × Value × Bool)} (h : kitsB K l = true) {c : Str} {v : Value} {b : Bool} (hm : (c, v, b) ∈ l) : PySem.W.kitOne K (.ref (ga K c)) v = some b := of_decide_eq_true (List.all_eq_true.mp h _ hm)
/-- isinstance of an own class's instance, an own class -/
def kit2B (K : PySem.W.Frag) (l : List (Str × Str × Bool)) : Bool := l.all fun t => decide (PySem.W.kitOne K (.ref (ga K t.1)) (.ref (ga K t.2.1)) = some t.2.2)
theorem kit2_ok {K : PySem.W.Frag} {l : List (Str × Str × Bool)} (h : kit2B K l = true) {c d : Str} {b : Bool} (hm : (c, d, b) ∈ l) : PySem.W.kitOne K (.ref (ga K c)) (.ref (ga K d)) = some b := of_decide_eq_true (List.all_eq_true.mp h _ hm)
/-- a tuple of texts of the module -/
def strsB : List Value → List Str → Bool
  | [], [] => true
  | .str x _ :: us, y :: ys => decide (x = y) && strsB us ys
  | _, _ => false
theorem strsB_ok : ∀ {us : List Value} {ys : List Str}, strsB us ys = true → Vals (ys.map V.str) us
  | [], [], _ => .nil
  | .str x t :: us, y :: ys, h => by
    obtain ⟨h1, h2⟩ := ba h
    rw [of_decide_eq_true h1]
    exact .cons ⟨t, rfl⟩ (strsB_ok h2)
def tupB (K : PySem.W.Frag) (a : Addr) (ys : List Str) : Bool := match K.lookup a with
  | some ⟨.type c, _, .seq us _, _⟩ => decide (c = "tuple") && (decide (us.size ≤ 1000) && strsB us.toList ys)
  | _ => false
theorem tupB_ok {K : PySem.W.Frag} {a : Addr} {ys : List Str} (h : tupB K a ys = true) (H : Hp) : SqT K H a (ys.map V.str) := by
  unfold tupB at h
  split at h
  · rename_i c d us n sl q
    obtain ⟨h1, h⟩ := ba h
    obtain ⟨h2, h3⟩ := ba h
    refine .inr ⟨_, us, n, q, ?_, rfl, Nat.le_trans (of_decide_eq_true h2) (by rw [sizeLine_eq]; omega), strsB_ok h3⟩
    show Value.type c = _
    rw [of_decide_eq_true h1]
  · cases h
def tupsB (K : PySem.W.Frag) (l : List (Str × List Str)) : Bool := l.all fun t => tupB K (ga K t.1) t.2
theorem tups_ok {K : PySem.W.Frag} {l : List (Str × List Str)} (h : tupsB K l = true) {x : Str} {ys : List Str} (hm : (x, ys) ∈ l) (H : Hp) : SqT K H (ga K x) (ys.map V.str) := tupB_ok (List.all_eq_true.mp h _ hm) H
end RyH
set_option maxHeartbeats 0
namespace Ry
open PySem PySem.Spec PyProof.Rows L2
def topS (i : Nat) : Stmt := PySem.Challenge.pw_recordyard_k80_outcomes.main.body.getD i (.Pass ⟨0, 0, 0, 0⟩)
abbrev s_is_below : Stmt := topS 17
def d_is_below : He.DefD := ⟨("is_below", none), "is_below", "is_below", defArgs s_is_below, defBody s_is_below, defScope s_is_below, [], []⟩
abbrev s_is_integer : Stmt := topS 30
def d_is_integer : He.DefD := ⟨("is_integer", none), "is_integer", "is_integer", defArgs s_is_integer, defBody s_is_integer, defScope s_is_integer, [], []⟩
abbrev s_name_end : Stmt := topS 35
def d_name_end : He.DefD := ⟨("name_end", none), "name_end", "name_end", defArgs s_name_end, defBody s_name_end, defScope s_name_end, [], []⟩
abbrev s_field_of : Stmt := topS 40
def d_field_of : He.DefD := ⟨("field_of", none), "field_of", "field_of", defArgs s_field_of, defBody s_field_of, defScope s_field_of, [], []⟩
abbrev s_parts_of_braces : Stmt := topS 41
def d_parts_of_braces : He.DefD := ⟨("parts_of_braces", none), "parts_of_braces", "parts_of_braces", defArgs s_parts_of_braces, defBody s_parts_of_braces, defScope s_parts_of_braces, [], []⟩
abbrev s_field_behind : Stmt := topS 53
def d_field_behind : He.DefD := ⟨("field_behind", none), "field_behind", "field_behind", defArgs s_field_behind, defBody s_field_behind, defScope s_field_behind, [], []⟩
abbrev s_parts_of_dollars : Stmt := topS 54
def d_parts_of_dollars : He.DefD := ⟨("parts_of_dollars", none), "parts_of_dollars", "parts_of_dollars", defArgs s_parts_of_dollars, defBody s_parts_of_dollars, defScope s_parts_of_dollars, [], []⟩
abbrev s_joined_texts : Stmt := topS 57
def d_joined_texts : He.DefD := ⟨("joined_texts", none), "joined_texts", "joined_texts", defArgs s_joined_texts, defBody s_joined_texts, defScope s_joined_texts, [], []⟩
abbrev s_is_plain : Stmt := topS 58
def d_is_plain : He.DefD := ⟨("is_plain", none), "is_plain", "is_plain", defArgs s_is_plain, defBody s_is_plain, defScope s_is_plain, [], []⟩
abbrev s_own_name : Stmt := topS 69
def d_own_name : He.DefD := ⟨("own_name", none), "own_name", "own_name", defArgs s_own_name, defBody s_own_name, defScope s_own_name, [], []⟩
abbrev s_all_loggers : Stmt := topS 70
def d_all_loggers : He.DefD := ⟨("all_loggers", none), "all_loggers", "all_loggers", defArgs s_all_loggers, defBody s_all_loggers, defScope s_all_loggers, [], []⟩
abbrev s_is_plain_format : Stmt := topS 71
def d_is_plain_format : He.DefD := ⟨("is_plain_format", none), "is_plain_format", "is_plain_format", defArgs s_is_plain_format, defBody s_is_plain_format, defScope s_is_plain_format, [], []⟩
abbrev s_first_function : Stmt := topS 72
def d_first_function : He.DefD := ⟨("first_function", none), "first_function", "first_function", defArgs s_first_function, defBody s_first_function, defScope s_first_function, [], []⟩
abbrev s_offence_of : Stmt := topS 73
def d_offence_of : He.DefD := ⟨("offence_of", none), "offence_of", "offence_of", defArgs s_offence_of, defBody s_offence_of, defScope s_offence_of, [], []⟩
abbrev s_offence : Stmt := topS 74
def d_offence : He.DefD := ⟨("offence", none), "offence", "offence", defArgs s_offence, defBody s_offence, defScope s_offence, [], []⟩
abbrev s_check_judged : Stmt := topS 75
def d_check_judged : He.DefD := ⟨("check_judged", none), "check_judged", "check_judged", defArgs s_check_judged, defBody s_check_judged, defScope s_check_judged, [], []⟩
abbrev s_nearest : Stmt := topS 76
def d_nearest : He.DefD := ⟨("nearest", none), "nearest", "nearest", defArgs s_nearest, defBody s_nearest, defScope s_nearest, [], []⟩
abbrev s_lets_by : Stmt := topS 77
def d_lets_by : He.DefD := ⟨("lets_by", none), "lets_by", "lets_by", defArgs s_lets_by, defBody s_lets_by, defScope s_lets_by, [], []⟩
abbrev s_is_made : Stmt := topS 78
def d_is_made : He.DefD := ⟨("is_made", none), "is_made", "is_made", defArgs s_is_made, defBody s_is_made, defScope s_is_made, [], []⟩
abbrev s_writers : Stmt := topS 79
def d_writers : He.DefD := ⟨("writers", none), "writers", "writers", defArgs s_writers, defBody s_writers, defScope s_writers, [], []⟩
abbrev s_line_parts : Stmt := topS 80
def d_line_parts : He.DefD := ⟨("line_parts", none), "line_parts", "line_parts", defArgs s_line_parts, defBody s_line_parts, defScope s_line_parts, [], []⟩
abbrev s_merged : Stmt := topS 81
def d_merged : He.DefD := ⟨("merged", none), "merged", "merged", defArgs s_merged, defBody s_merged, defScope s_merged, [], []⟩
abbrev s_outcome_parts : Stmt := topS 82
def d_outcome_parts : He.DefD := ⟨("outcome_parts", none), "outcome_parts", "outcome_parts", defArgs s_outcome_parts, defBody s_outcome_parts, defScope s_outcome_parts, [], []⟩
abbrev s_values_of : Stmt := topS 83
def d_values_of : He.DefD := ⟨("values_of", none), "values_of", "values_of", defArgs s_values_of, defBody s_values_of, defScope s_values_of, [], []⟩
abbrev s_filled : Stmt := topS 84
def d_filled : He.DefD := ⟨("filled", none), "filled", "filled", defArgs s_filled, defBody s_filled, defScope s_filled, [], []⟩
abbrev s_outcome : Stmt := topS 85
def d_outcome : He.DefD := ⟨("outcome", none), "outcome", "outcome", defArgs s_outcome, defBody s_outcome, defScope s_outcome, [], []⟩
abbrev s_is_part : Stmt := topS 88
def d_is_part : He.DefD := ⟨("is_part", none), "is_part", "is_part", defArgs s_is_part, defBody s_is_part, defScope s_is_part, [], []⟩
abbrev s_are_parts : Stmt := topS 89
def d_are_parts : He.DefD := ⟨("are_parts", none), "are_parts", "are_parts", defArgs s_are_parts, defBody s_are_parts, defScope s_are_parts, [], []⟩
abbrev s_parent_of : Stmt := topS 90
def d_parent_of : He.DefD := ⟨("parent_of", none), "parent_of", "parent_of", defArgs s_parent_of, defBody s_parent_of, defScope s_parent_of, [], []⟩
abbrev s_place_loggers : Stmt := topS 91
def d_place_loggers : He.DefD := ⟨("place_loggers", none), "place_loggers", "place_loggers", defArgs s_place_loggers, defBody s_place_loggers, defScope s_place_loggers, [], []⟩
abbrev s_law_draw : Stmt := topS 96
def d_law_draw : He.DefD := ⟨("_law_draw", none), "_law_draw", "_law_draw", defArgs s_law_draw, defBody s_law_draw, defScope s_law_draw, [], []⟩
abbrev s_law_pick : Stmt := topS 97
def d_law_pick : He.DefD := ⟨("_law_pick", none), "_law_pick", "_law_pick", defArgs s_law_pick, defBody s_law_pick, defScope s_law_pick, [], []⟩
abbrev s_law_format : Stmt := topS 98
def d_law_format : He.DefD := ⟨("_law_format", none), "_law_format", "_law_format", defArgs s_law_format, defBody s_law_format, defScope s_law_format, [], []⟩
abbrev s_law_format_text : Stmt := topS 99
def d_law_format_text : He.DefD := ⟨("_law_format_text", none), "_law_format_text", "_law_format_text", defArgs s_law_format_text, defBody s_law_format_text, defScope s_law_format_text, [], []⟩
abbrev s_law_has_field : Stmt := topS 100
def d_law_has_field : He.DefD := ⟨("_law_has_field", none), "_law_has_field", "_law_has_field", defArgs s_law_has_field, defBody s_law_has_field, defScope s_law_has_field, [], []⟩
abbrev s_law_level : Stmt := topS 101
def d_law_level : He.DefD := ⟨("_law_level", none), "_law_level", "_law_level", defArgs s_law_level, defBody s_law_level, defScope s_law_level, [], []⟩
abbrev s_law_names : Stmt := topS 102
def d_law_names : He.DefD := ⟨("_law_names", none), "_law_names", "_law_names", defArgs s_law_names, defBody s_law_names, defScope s_law_names, [], []⟩
abbrev s_law_handler_plan : Stmt := topS 103
def d_law_handler_plan : He.DefD := ⟨("_law_handler_plan", none), "_law_handler_plan", "_law_handler_plan", defArgs s_law_handler_plan, defBody s_law_handler_plan, defScope s_law_handler_plan, [], []⟩
abbrev s_law_logger_plan : Stmt := topS 104
def d_law_logger_plan : He.DefD := ⟨("_law_logger_plan", none), "_law_logger_plan", "_law_logger_plan", defArgs s_law_logger_plan, defBody s_law_logger_plan, defScope s_law_logger_plan, [], []⟩
abbrev s_law_plan : Stmt := topS 105
def d_law_plan : He.DefD := ⟨("_law_plan", none), "_law_plan", "_law_plan", defArgs s_law_plan, defBody s_law_plan, defScope s_law_plan, [], []⟩
abbrev s_law_handler : Stmt := topS 106
def d_law_handler : He.DefD := ⟨("_law_handler", none), "_law_handler", "_law_handler", defArgs s_law_handler, defBody s_law_handler, defScope s_law_handler, [], []⟩
abbrev s_law_yard : Stmt := topS 107
def d_law_yard : He.DefD := ⟨("_law_yard", none), "_law_yard", "_law_yard", defArgs s_law_yard, defBody s_law_yard, defScope s_law_yard, [], []⟩
abbrev s_law_way_up : Stmt := topS 108
def d_law_way_up : He.DefD := ⟨("_law_way_up", none), "_law_way_up", "_law_way_up", defArgs s_law_way_up, defBody s_law_way_up, defScope s_law_way_up, [], []⟩
abbrev s_law_lets_by : Stmt := topS 109
def d_law_lets_by : He.DefD := ⟨("_law_lets_by", none), "_law_lets_by", "_law_lets_by", defArgs s_law_lets_by, defBody s_law_lets_by, defScope s_law_lets_by, [], []⟩
abbrev s_law_level_word : Stmt := topS 110
def d_law_level_word : He.DefD := ⟨("_law_level_word", none), "_law_level_word", "_law_level_word", defArgs s_law_level_word, defBody s_law_level_word, defScope s_law_level_word, [], []⟩
abbrev s_law_is_made : Stmt := topS 111
def d_law_is_made : He.DefD := ⟨("_law_is_made", none), "_law_is_made", "_law_is_made", defArgs s_law_is_made, defBody s_law_is_made, defScope s_law_is_made, [], []⟩
abbrev s_law_told : Stmt := topS 112
def d_law_told : He.DefD := ⟨("_law_told", none), "_law_told", "_law_told", defArgs s_law_told, defBody s_law_told, defScope s_law_told, [], []⟩
abbrev s_law_record : Stmt := topS 113
def d_law_record : He.DefD := ⟨("_law_record", none), "_law_record", "_law_record", defArgs s_law_record, defBody s_law_record, defScope s_law_record, [], []⟩
abbrev s_law : Stmt := topS 114
def d_law : He.DefD := ⟨("law", none), "law", "law", defArgs s_law, defBody s_law, defScope s_law, [], []⟩
abbrev s_Filter_init : Stmt := inClass (topS 19) 0
def d_Filter_init : He.DefD := ⟨("Filter", some "__init__"), "__init__", "Filter.__init__", defArgs s_Filter_init, defBody s_Filter_init, defScope s_Filter_init, [.str ""], []⟩
abbrev s_Filterer_init : Stmt := inClass (topS 20) 0
def d_Filterer_init : He.DefD := ⟨("Filterer", some "__init__"), "__init__", "Filterer.__init__", defArgs s_Filterer_init, defBody s_Filterer_init, defScope s_Filterer_init, [], []⟩
abbrev s_Filterer_addFilter : Stmt := inClass (topS 20) 1
def d_Filterer_addFilter : He.DefD := ⟨("Filterer", some "addFilter"), "addFilter", "Filterer.addFilter", defArgs s_Filterer_addFilter, defBody s_Filterer_addFilter, defScope s_Filterer_addFilter, [], []⟩
abbrev s_Field_init : Stmt := inClass (topS 34) 0
def d_Field_init : He.DefD := ⟨("Field", some "__init__"), "__init__", "Field.__init__", defArgs s_Field_init, defBody s_Field_init, defScope s_Field_init, [.str "", .str " ", .str "", .int (0)], []⟩
abbrev s_Formatter_init : Stmt := inClass (topS 59) 0
def d_Formatter_init : He.DefD := ⟨("Formatter", some "__init__"), "__init__", "Formatter.__init__", defArgs s_Formatter_init, defBody s_Formatter_init, defScope s_Formatter_init, [.non, .str "{", .bl true, .non], []⟩
abbrev s_Handler_init : Stmt := inClass (topS 61) 0
def d_Handler_init : He.DefD := ⟨("Handler", some "__init__"), "__init__", "Handler.__init__", defArgs s_Handler_init, defBody s_Handler_init, defScope s_Handler_init, [], []⟩
abbrev s_Handler_setLevel : Stmt := inClass (topS 61) 1
def d_Handler_setLevel : He.DefD := ⟨("Handler", some "setLevel"), "setLevel", "Handler.setLevel", defArgs s_Handler_setLevel, defBody s_Handler_setLevel, defScope s_Handler_setLevel, [], []⟩
abbrev s_Handler_setFormatter : Stmt := inClass (topS 61) 2
def d_Handler_setFormatter : He.DefD := ⟨("Handler", some "setFormatter"), "setFormatter", "Handler.setFormatter", defArgs s_Handler_setFormatter, defBody s_Handler_setFormatter, defScope s_Handler_setFormatter, [], []⟩
abbrev s_Handler_setTerminator : Stmt := inClass (topS 61) 3
def d_Handler_setTerminator : He.DefD := ⟨("Handler", some "setTerminator"), "setTerminator", "Handler.setTerminator", defArgs s_Handler_setTerminator, defBody s_Handler_setTerminator, defScope s_Handler_setTerminator, [], []⟩
abbrev s_StreamHandler_init : Stmt := inClass (topS 62) 0
def d_StreamHandler_init : He.DefD := ⟨("StreamHandler", some "__init__"), "__init__", "StreamHandler.__init__", defArgs s_StreamHandler_init, defBody s_StreamHandler_init, defScope s_StreamHandler_init, [.str "stderr"], []⟩
abbrev s_Logger_init : Stmt := inClass (topS 92) 0
def d_Logger_init : He.DefD := ⟨("Logger", some "__init__"), "__init__", "Logger.__init__", defArgs s_Logger_init, defBody s_Logger_init, defScope s_Logger_init, [], []⟩
abbrev s_Logger_setLevel : Stmt := inClass (topS 92) 1
def d_Logger_setLevel : He.DefD := ⟨("Logger", some "setLevel"), "setLevel", "Logger.setLevel", defArgs s_Logger_setLevel, defBody s_Logger_setLevel, defScope s_Logger_setLevel, [], []⟩
abbrev s_Logger_setPropagate : Stmt := inClass (topS 92) 2
def d_Logger_setPropagate : He.DefD := ⟨("Logger", some "setPropagate"), "setPropagate", "Logger.setPropagate", defArgs s_Logger_setPropagate, defBody s_Logger_setPropagate, defScope s_Logger_setPropagate, [], []⟩
abbrev s_Logger_setDisabled : Stmt := inClass (topS 92) 3
def d_Logger_setDisabled : He.DefD := ⟨("Logger", some "setDisabled"), "setDisabled", "Logger.setDisabled", defArgs s_Logger_setDisabled, defBody s_Logger_setDisabled, defScope s_Logger_setDisabled, [], []⟩
abbrev s_Logger_getEffectiveLevel : Stmt := inClass (topS 92) 7
def d_Logger_getEffectiveLevel : He.DefD := ⟨("Logger", some "getEffectiveLevel"), "getEffectiveLevel", "Logger.getEffectiveLevel", defArgs s_Logger_getEffectiveLevel, defBody s_Logger_getEffectiveLevel, defScope s_Logger_getEffectiveLevel, [], []⟩
abbrev s_Logger_addHandler : Stmt := inClass (topS 92) 9
def d_Logger_addHandler : He.DefD := ⟨("Logger", some "addHandler"), "addHandler", "Logger.addHandler", defArgs s_Logger_addHandler, defBody s_Logger_addHandler, defScope s_Logger_addHandler, [], []⟩
abbrev s_Logger_reached : Stmt := inClass (topS 92) 11
def d_Logger_reached : He.DefD := ⟨("Logger", some "reached"), "reached", "Logger.reached", defArgs s_Logger_reached, defBody s_Logger_reached, defScope s_Logger_reached, [], []⟩
abbrev s_Yard_init : Stmt := inClass (topS 94) 0
def d_Yard_init : He.DefD := ⟨("Yard", some "__init__"), "__init__", "Yard.__init__", defArgs s_Yard_init, defBody s_Yard_init, defScope s_Yard_init, [.int (0)], []⟩
abbrev s_Yard_add_level_name : Stmt := inClass (topS 94) 15
def d_Yard_add_level_name : He.DefD := ⟨("Yard", some "add_level_name"), "add_level_name", "Yard.add_level_name", defArgs s_Yard_add_level_name, defBody s_Yard_add_level_name, defScope s_Yard_add_level_name, [], []⟩
abbrev s_Yard_level_name : Stmt := inClass (topS 94) 16
def d_Yard_level_name : He.DefD := ⟨("Yard", some "level_name"), "level_name", "Yard.level_name", defArgs s_Yard_level_name, defBody s_Yard_level_name, defScope s_Yard_level_name, [], []⟩
abbrev s_Yard_level_of : Stmt := inClass (topS 94) 18
def d_Yard_level_of : He.DefD := ⟨("Yard", some "level_of"), "level_of", "Yard.level_of", defArgs s_Yard_level_of, defBody s_Yard_level_of, defScope s_Yard_level_of, [], []⟩
abbrev s_Yard_getLogger : Stmt := inClass (topS 94) 20
def d_Yard_getLogger : He.DefD := ⟨("Yard", some "getLogger"), "getLogger", "Yard.getLogger", defArgs s_Yard_getLogger, defBody s_Yard_getLogger, defScope s_Yard_getLogger, [.str ""], []⟩
abbrev s_Yard_loggers : Stmt := inClass (topS 94) 21
def d_Yard_loggers : He.DefD := ⟨("Yard", some "loggers"), "loggers", "Yard.loggers", defArgs s_Yard_loggers, defBody s_Yard_loggers, defScope s_Yard_loggers, [], []⟩
abbrev s_Yard_disable : Stmt := inClass (topS 94) 22
def d_Yard_disable : He.DefD := ⟨("Yard", some "disable"), "disable", "Yard.disable", defArgs s_Yard_disable, defBody s_Yard_disable, defScope s_Yard_disable, [.int (50)], []⟩
abbrev s_Yard_enrol : Stmt := inClass (topS 94) 24
def d_Yard_enrol : He.DefD := ⟨("Yard", some "enrol"), "enrol", "Yard.enrol", defArgs s_Yard_enrol, defBody s_Yard_enrol, defScope s_Yard_enrol, [], []⟩
def fn0 : List He.DefD := [d_is_below, d_is_integer, d_name_end, d_field_of, d_parts_of_braces, d_field_behind, d_parts_of_dollars, d_joined_texts, d_is_plain, d_own_name, d_all_loggers, d_is_plain_format, d_first_function, d_offence_of, d_offence, d_check_judged, d_nearest, d_lets_by, d_is_made, d_writers]
def fn1 : List He.DefD := [d_line_parts, d_merged, d_outcome_parts, d_values_of, d_filled, d_outcome, d_is_part, d_are_parts, d_parent_of, d_place_loggers, d_law_draw, d_law_pick, d_law_format, d_law_format_text, d_law_has_field, d_law_level, d_law_names, d_law_handler_plan, d_law_logger_plan, d_law_plan]
def fn2 : List He.DefD := [d_law_handler, d_law_yard, d_law_way_up, d_law_lets_by, d_law_level_word, d_law_is_made, d_law_told, d_law_record, d_law, d_Filter_init, d_Filterer_init, d_Filterer_addFilter, d_Field_init, d_Formatter_init, d_Handler_init, d_Handler_setLevel, d_Handler_setFormatter, d_Handler_setTerminator, d_StreamHandler_init, d_Logger_init]
def fn3 : List He.DefD := [d_Logger_setLevel, d_Logger_setPropagate, d_Logger_setDisabled, d_Logger_getEffectiveLevel, d_Logger_addHandler, d_Logger_reached, d_Yard_init, d_Yard_add_level_name, d_Yard_level_name, d_Yard_level_of, d_Yard_getLogger, d_Yard_loggers, d_Yard_disable, d_Yard_enrol]
def fn : List He.DefD := fn0 ++ (fn1 ++ (fn2 ++ (fn3)))
def fa0 : List He.Fa := [.glo "Filter", .cls "Filter", .mkr "Filter", .noat "Filter" "name", .glo "Filterer", .cls "Filterer", .mkr "Filterer", .meth "Filterer" "addFilter", .noat "Filterer" "filters", .glo "Field", .cls "Field", .mkr "Field", .noat "Field" "name", .noat "Field" "conversion", .noat "Field" "fill", .noat "Field" "align", .noat "Field" "width", .glo "Formatter", .cls "Formatter", .mkr "Formatter", .noat "Formatter" "fmt", .noat "Formatter" "style", .noat "Formatter" "parts", .noat "Formatter" "defaults", .glo "Handler", .cls "Handler", .mkr "Handler", .meth "Handler" "setLevel", .meth "Handler" "setFormatter", .meth "Handler" "setTerminator"]
def fa1 : List He.Fa := [.meth "Handler" "addFilter", .noat "Handler" "filters", .noat "Handler" "yard", .noat "Handler" "level", .noat "Handler" "formatter", .noat "Handler" "name", .noat "Handler" "terminator", .noat "Handler" "closed", .glo "StreamHandler", .cls "StreamHandler", .mkr "StreamHandler", .meth "StreamHandler" "setLevel", .meth "StreamHandler" "setFormatter", .meth "StreamHandler" "setTerminator", .meth "StreamHandler" "addFilter", .noat "StreamHandler" "filters", .noat "StreamHandler" "yard", .noat "StreamHandler" "level", .noat "StreamHandler" "formatter", .noat "StreamHandler" "name", .noat "StreamHandler" "terminator", .noat "StreamHandler" "closed", .noat "StreamHandler" "stream", .glo "NullHandler", .cls "NullHandler", .mkr "NullHandler", .meth "NullHandler" "setLevel", .meth "NullHandler" "setFormatter", .meth "NullHandler" "setTerminator", .meth "NullHandler" "addFilter"]
def fa2 : List He.Fa := [.noat "NullHandler" "filters", .noat "NullHandler" "yard", .noat "NullHandler" "level", .noat "NullHandler" "formatter", .noat "NullHandler" "name", .noat "NullHandler" "terminator", .noat "NullHandler" "closed", .glo "Logger", .cls "Logger", .mkr "Logger", .meth "Logger" "setLevel", .meth "Logger" "setPropagate", .meth "Logger" "setDisabled", .meth "Logger" "getEffectiveLevel", .meth "Logger" "addHandler", .meth "Logger" "reached", .meth "Logger" "addFilter", .noat "Logger" "filters", .noat "Logger" "yard", .noat "Logger" "name", .noat "Logger" "level", .noat "Logger" "propagate", .noat "Logger" "disabled", .noat "Logger" "handlers", .noat "Logger" "parent", .glo "Yard", .cls "Yard", .mkr "Yard", .meth "Yard" "add_level_name", .meth "Yard" "level_name"]
def fa3 : List He.Fa := [.meth "Yard" "level_of", .meth "Yard" "getLogger", .meth "Yard" "loggers", .meth "Yard" "disable", .meth "Yard" "enrol", .noat "Yard" "clock", .noat "Yard" "stream_texts", .noat "Yard" "file_rows", .noat "Yard" "names_of", .noat "Yard" "numbers_of", .noat "Yard" "bar_level", .noat "Yard" "logger_map", .noat "Yard" "made", .noat "Yard" "handler_names", .noat "Yard" "failure_rows", .noat "Yard" "root", .noat "Yard" "last_resort", .glo "is_below", .glo "is_integer", .glo "name_end", .glo "field_of", .glo "parts_of_braces", .glo "field_behind", .glo "parts_of_dollars", .glo "joined_texts", .glo "is_plain", .glo "own_name", .glo "all_loggers", .glo "is_plain_format", .glo "first_function"]
def fa4 : List He.Fa := [.glo "offence_of", .glo "offence", .glo "check_judged", .glo "nearest", .glo "lets_by", .glo "is_made", .glo "writers", .glo "line_parts", .glo "merged", .glo "outcome_parts", .glo "values_of", .glo "filled", .glo "outcome", .glo "is_part", .glo "are_parts", .glo "parent_of", .glo "place_loggers", .glo "_law_draw", .glo "_law_pick", .glo "_law_format", .glo "_law_format_text", .glo "_law_has_field", .glo "_law_level", .glo "_law_names", .glo "_law_handler_plan", .glo "_law_logger_plan", .glo "_law_plan", .glo "_law_handler", .glo "_law_yard", .glo "_law_way_up"]
def fa5 : List He.Fa := [.glo "_law_lets_by", .glo "_law_level_word", .glo "_law_is_made", .glo "_law_told", .glo "_law_record", .glo "law", .int "CRITICAL" (50), .int "WARNING" (30), .int "NOTSET" (0), .glo "FIRST_NAMES", .glo "FIRST_NUMBERS", .str "LETTERS" "abcdefghijklmnopqrstuvwxyzABCDEFGHIJKLMNOPQRSTUVWXYZ_", .str "DIGITS" "0123456789", .glo "MESSAGE_ALONE", .glo "NAME", .glo "LEVEL", .glo "MESSAGE", .glo "PLAIN_FIELDS", .str "SIGNS" "abcdefghijklmnopqrstuvwxyzABCDEFGHIJKLMNOPQRSTUVWXYZ0123456789_", .free "len", .free "isinstance", .free "int", .free "str", .free "bool", .free "sorted", .free "list", .free "dict", .free "tuple", .free "range", .free "enumerate"]
def fa6 : List He.Fa := [.free "all", .free "any", .free "max", .free "repr"]
def fa : List He.Fa := fa0 ++ (fa1 ++ (fa2 ++ (fa3 ++ (fa4 ++ (fa5 ++ (fa6))))))
def names0 : List PySem.Str := ["_wall", "YardError", "BadLevel", "BadName", "BadExtra", "BadMessage", "BadField", "BadFormat", "BadStyle", "NotJudged", "OWN_FIELDS", "copied_value", "message_of", "LogRecord", "is_below", "let_by", "Filter", "Filterer", "CRITICAL", "ERROR", "WARNING", "INFO", "DEBUG", "NOTSET", "FIRST_NAMES", "FIRST_NUMBERS", "is_integer", "LETTERS", "DIGITS", "Field"]
def names1 : List PySem.Str := ["name_end", "ALIGNS", "is_width", "spec_of", "field_of", "parts_of_braces", "DAY", "MONTHS", "is_leap", "first_day", "date_of", "padded", "date_text", "clock_parts", "shown_time", "field_behind", "parts_of_dollars", "MESSAGE_ALONE", "joined_texts", "is_plain", "Formatter", "Handler", "StreamHandler", "NullHandler", "NAME", "LEVEL", "MESSAGE", "PLAIN_FIELDS", "own_name", "all_loggers"]
def names2 : List PySem.Str := ["is_plain_format", "first_function", "offence_of", "offence", "check_judged", "nearest", "lets_by", "is_made", "writers", "line_parts", "merged", "outcome_parts", "values_of", "filled", "outcome", "SIGNS", "is_part", "are_parts", "parent_of", "place_loggers", "Logger", "Yard", "_law_draw", "_law_pick", "_law_format", "_law_format_text", "_law_has_field", "_law_level", "_law_names", "_law_handler_plan"]
def names3 : List PySem.Str := ["_law_logger_plan", "_law_plan", "_law_handler", "_law_yard", "_law_way_up", "_law_lets_by", "_law_level_word", "_law_is_made", "_law_told", "_law_record"]
def names : List PySem.Str := names0 ++ (names1 ++ (names2 ++ (names3)))
def need0 : RyH.Need := [("Filter", ["__init__"]), ("Filterer", ["__init__", "addFilter"]), ("Field", ["__init__"]), ("Formatter", ["__init__"]), ("Handler", ["__init__", "setLevel", "setFormatter", "setTerminator"]), ("StreamHandler", ["__init__"]), ("NullHandler", []), ("Logger", ["__init__", "setLevel", "setPropagate", "setDisabled", "addHandler", "getEffectiveLevel", "reached"]), ("Yard", ["__init__", "add_level_name", "level_of", "getLogger", "loggers", "disable", "enrol", "level_name"]), ("is_below", []), ("is_integer", []), ("name_end", []), ("field_of", []), ("parts_of_braces", []), ("field_behind", []), ("parts_of_dollars", []), ("joined_texts", []), ("is_plain", []), ("own_name", []), ("all_loggers", [])]
def need1 : RyH.Need := [("is_plain_format", []), ("first_function", []), ("offence_of", []), ("offence", []), ("check_judged", []), ("nearest", []), ("lets_by", []), ("is_made", []), ("writers", []), ("line_parts", []), ("merged", []), ("outcome_parts", []), ("values_of", []), ("filled", []), ("outcome", []), ("is_part", []), ("are_parts", []), ("parent_of", []), ("place_loggers", []), ("_law_draw", [])]
def need2 : RyH.Need := [("_law_pick", []), ("_law_format", []), ("_law_format_text", []), ("_law_has_field", []), ("_law_level", []), ("_law_names", []), ("_law_handler_plan", []), ("_law_logger_plan", []), ("_law_plan", []), ("_law_handler", []), ("_law_yard", []), ("_law_way_up", []), ("_law_lets_by", []), ("_law_level_word", []), ("_law_is_made", []), ("_law_told", []), ("_law_record", []), ("law", []), ("CRITICAL", []), ("WARNING", [])]
def need3 : RyH.Need := [("NOTSET", []), ("FIRST_NAMES", []), ("FIRST_NUMBERS", []), ("LETTERS", []), ("DIGITS", []), ("MESSAGE_ALONE", []), ("NAME", []), ("LEVEL", []), ("MESSAGE", []), ("PLAIN_FIELDS", []), ("SIGNS", [])]
def need : RyH.Need := need0 ++ (need1 ++ (need2 ++ (need3)))
def lawPlace : Nat := 114
open He RyH
def kvNames : List (Key × V) := ([(50, .str "CRITICAL"), (40, .str "ERROR"), (30, .str "WARNING"), (20, .str "INFO"), (10, .str "DEBUG"), (0, .str "NOTSET")] : List (Int × V)).map fun p => (Sum.inl p.1, p.2)
def kvNumbers : List (Key × V) := [(.inr "CRITICAL", .int 50), (.inr "FATAL", .int 50), (.inr "ERROR", .int 40), (.inr "WARNING", .int 30), (.inr "WARN", .int 30), (.inr "INFO", .int 20), (.inr "DEBUG", .int 10), (.inr "NOTSET", .int 0)]
def kvAlone : List (Key × V) := [(.inr "{", .str "{message}"), (.inr "$", .str "$message")]
def inhs : List (Str × Str × Str) := [("Handler", "Filterer", "addFilter"), ("StreamHandler", "Handler", "setLevel"), ("StreamHandler", "Handler", "setFormatter"), ("StreamHandler", "Handler", "setTerminator"), ("StreamHandler", "Filterer", "addFilter"), ("NullHandler", "Handler", "__init__"), ("NullHandler", "Handler", "setLevel"), ("NullHandler", "Handler", "setFormatter"), ("NullHandler", "Handler", "setTerminator"), ("NullHandler", "Filterer", "addFilter"), ("Logger", "Filterer", "addFilter")]
def cmps : List Str := ["Filter", "Field", "Formatter", "StreamHandler", "NullHandler", "Logger", "Yard"]
def kits : List (Str × Value × Bool) := [("Field", .type "str", false), ("Field", .type "int", false), ("Field", .type "bool", false), ("Field", .type "tuple", false), ("Field", .type "list", false)]
def kit2 : List (Str × Str × Bool) := [("NullHandler", "StreamHandler", false)]
def tups : List (Str × List Str) := [("NAME", ["name"]), ("LEVEL", ["level"]), ("MESSAGE", ["message"]), ("PLAIN_FIELDS", ["name", "levelno", "levelname", "message"])]
def ex (K : PySem.W.Frag) : Bool := cfnB K "Filterer" "__init__" && (cfnB K "Handler" "__init__" && (dicKB K (ga K "FIRST_NAMES") kvNames && (dicKB K (ga K "FIRST_NUMBERS") kvNumbers && (dicKB K (ga K "MESSAGE_ALONE") kvAlone && (inhB K inhs && (cmpB K cmps && (kitsB K kits && (kit2B K kit2 && tupsB K tups))))))))
def ts : List Tab := [(fun K => ga K "FIRST_NUMBERS", ["CRITICAL", "FATAL", "ERROR", "WARNING", "WARN", "INFO", "DEBUG", "NOTSET"]), (fun K => ga K "MESSAGE_ALONE", ["{", "$"])]
structure Txt (w : World) (K : PySem.W.Frag) (mg : Str → Option Value) : Prop where
  says : SaysT fa fn ts w K
  more : ex K = true
  at_ : ∃ h : Heap, K.In h ∧ h.Ns mainGlobals mg
namespace Txt
variable {w : World} {K : PySem.W.Frag} {mg : Str → Option Value}
theorem glo (T : Txt w K mg) {x : Str} (c : (Fa.glo x).ok K = true) : mg x = some (.ref (ga K x)) := let ⟨_, X, G⟩ := T.at_; glo_ok X G c
theorem free (T : Txt w K mg) {x : Str} (c : (Fa.free x).ok K = true) : mg x = none := let ⟨_, X, G⟩ := T.at_; free_ok X G c
theorem intc (T : Txt w K mg) {x : Str} {i : Int} (c : (Fa.int x i).ok K = true) : ∃ u, mg x = some u ∧ RelV (.int i) u := let ⟨_, X, G⟩ := T.at_; let ⟨t, e⟩ := int_ok X G c; ⟨_, e, t, rfl⟩
theorem strc (T : Txt w K mg) {x z : Str} (c : (Fa.str x z).ok K = true) : ∃ u, mg x = some u ∧ RelV (.str z) u := let ⟨_, X, G⟩ := T.at_; let ⟨t, e⟩ := str_ok X G c; ⟨_, e, t, rfl⟩
theorem m_Filter (T : Txt w K mg) : mg "Filter" = some (.ref (ga K "Filter")) := T.glo (T.says.d.fact 0 (f := .glo "Filter"))
theorem gv_Filter (T : Txt w K mg) : ∃ u, mg "Filter" = some u ∧ RelV (.ref (ga K "Filter")) u := ⟨_, T.m_Filter, rfl⟩
theorem cl_Filter (T : Txt w K mg) : Cls K (ga K "Filter") := cls_ok (T.says.d.fact 1 (f := .cls "Filter"))
theorem mk_Filter (T : Txt w K mg) : Mk K (ga K "Filter") (ma K (ga K "Filter") "__init__") := mkr_ok (T.says.d.fact 2 (f := .mkr "Filter"))
theorem no_Filter_name (T : Txt w K mg) : NoAttr K (ga K "Filter") "name" := noat_ok (T.says.d.fact 3 (f := .noat "Filter" "name"))
theorem m_Filterer (T : Txt w K mg) : mg "Filterer" = some (.ref (ga K "Filterer")) := T.glo (T.says.d.fact 4 (f := .glo "Filterer"))
theorem gv_Filterer (T : Txt w K mg) : ∃ u, mg "Filterer" = some u ∧ RelV (.ref (ga K "Filterer")) u := ⟨_, T.m_Filterer, rfl⟩
theorem cl_Filterer (T : Txt w K mg) : Cls K (ga K "Filterer") := cls_ok (T.says.d.fact 5 (f := .cls "Filterer"))
theorem mk_Filterer (T : Txt w K mg) : Mk K (ga K "Filterer") (ma K (ga K "Filterer") "__init__") := mkr_ok (T.says.d.fact 6 (f := .mkr "Filterer"))
theorem me_Filterer_addFilter (T : Txt w K mg) : Meth K (ga K "Filterer") "addFilter" (ma K (ga K "Filterer") "addFilter") := meth_ok (T.says.d.fact 7 (f := .meth "Filterer" "addFilter"))
theorem no_Filterer_filters (T : Txt w K mg) : NoAttr K (ga K "Filterer") "filters" := noat_ok (T.says.d.fact 8 (f := .noat "Filterer" "filters"))
theorem m_Field (T : Txt w K mg) : mg "Field" = some (.ref (ga K "Field")) := T.glo (T.says.d.fact 9 (f := .glo "Field"))
theorem gv_Field (T : Txt w K mg) : ∃ u, mg "Field" = some u ∧ RelV (.ref (ga K "Field")) u := ⟨_, T.m_Field, rfl⟩
theorem cl_Field (T : Txt w K mg) : Cls K (ga K "Field") := cls_ok (T.says.d.fact 10 (f := .cls "Field"))
theorem mk_Field (T : Txt w K mg) : Mk K (ga K "Field") (ma K (ga K "Field") "__init__") := mkr_ok (T.says.d.fact 11 (f := .mkr "Field"))
theorem no_Field_name (T : Txt w K mg) : NoAttr K (ga K "Field") "name" := noat_ok (T.says.d.fact 12 (f := .noat "Field" "name"))
theorem no_Field_conversion (T : Txt w K mg) : NoAttr K (ga K "Field") "conversion" := noat_ok (T.says.d.fact 13 (f := .noat "Field" "conversion"))
theorem no_Field_fill (T : Txt w K mg) : NoAttr K (ga K "Field") "fill" := noat_ok (T.says.d.fact 14 (f := .noat "Field" "fill"))
theorem no_Field_align (T : Txt w K mg) : NoAttr K (ga K "Field") "align" := noat_ok (T.says.d.fact 15 (f := .noat "Field" "align"))
theorem no_Field_width (T : Txt w K mg) : NoAttr K (ga K "Field") "width" := noat_ok (T.says.d.fact 16 (f := .noat "Field" "width"))
theorem m_Formatter (T : Txt w K mg) : mg "Formatter" = some (.ref (ga K "Formatter")) := T.glo (T.says.d.fact 17 (f := .glo "Formatter"))
theorem gv_Formatter (T : Txt w K mg) : ∃ u, mg "Formatter" = some u ∧ RelV (.ref (ga K "Formatter")) u := ⟨_, T.m_Formatter, rfl⟩
theorem cl_Formatter (T : Txt w K mg) : Cls K (ga K "Formatter") := cls_ok (T.says.d.fact 18 (f := .cls "Formatter"))
theorem mk_Formatter (T : Txt w K mg) : Mk K (ga K "Formatter") (ma K (ga K "Formatter") "__init__") := mkr_ok (T.says.d.fact 19 (f := .mkr "Formatter"))
theorem no_Formatter_fmt (T : Txt w K mg) : NoAttr K (ga K "Formatter") "fmt" := noat_ok (T.says.d.fact 20 (f := .noat "Formatter" "fmt"))
theorem no_Formatter_style (T : Txt w K mg) : NoAttr K (ga K "Formatter") "style" := noat_ok (T.says.d.fact 21 (f := .noat "Formatter" "style"))
theorem no_Formatter_parts (T : Txt w K mg) : NoAttr K (ga K "Formatter") "parts" := noat_ok (T.says.d.fact 22 (f := .noat "Formatter" "parts"))
theorem no_Formatter_defaults (T : Txt w K mg) : NoAttr K (ga K "Formatter") "defaults" := noat_ok (T.says.d.fact 23 (f := .noat "Formatter" "defaults"))
theorem m_Handler (T : Txt w K mg) : mg "Handler" = some (.ref (ga K "Handler")) := T.glo (T.says.d.fact 24 (f := .glo "Handler"))
theorem gv_Handler (T : Txt w K mg) : ∃ u, mg "Handler" = some u ∧ RelV (.ref (ga K "Handler")) u := ⟨_, T.m_Handler, rfl⟩
theorem cl_Handler (T : Txt w K mg) : Cls K (ga K "Handler") := cls_ok (T.says.d.fact 25 (f := .cls "Handler"))
theorem mk_Handler (T : Txt w K mg) : Mk K (ga K "Handler") (ma K (ga K "Handler") "__init__") := mkr_ok (T.says.d.fact 26 (f := .mkr "Handler"))
theorem me_Handler_setLevel (T : Txt w K mg) : Meth K (ga K "Handler") "setLevel" (ma K (ga K "Handler") "setLevel") := meth_ok (T.says.d.fact 27 (f := .meth "Handler" "setLevel"))
theorem me_Handler_setFormatter (T : Txt w K mg) : Meth K (ga K "Handler") "setFormatter" (ma K (ga K "Handler") "setFormatter") := meth_ok (T.says.d.fact 28 (f := .meth "Handler" "setFormatter"))
theorem me_Handler_setTerminator (T : Txt w K mg) : Meth K (ga K "Handler") "setTerminator" (ma K (ga K "Handler") "setTerminator") := meth_ok (T.says.d.fact 29 (f := .meth "Handler" "setTerminator"))
theorem me_Handler_addFilter (T : Txt w K mg) : Meth K (ga K "Handler") "addFilter" (ma K (ga K "Handler") "addFilter") := meth_ok (T.says.d.fact 30 (f := .meth "Handler" "addFilter"))
theorem no_Handler_filters (T : Txt w K mg) : NoAttr K (ga K "Handler") "filters" := noat_ok (T.says.d.fact 31 (f := .noat "Handler" "filters"))
theorem no_Handler_yard (T : Txt w K mg) : NoAttr K (ga K "Handler") "yard" := noat_ok (T.says.d.fact 32 (f := .noat "Handler" "yard"))
theorem no_Handler_level (T : Txt w K mg) : NoAttr K (ga K "Handler") "level" := noat_ok (T.says.d.fact 33 (f := .noat "Handler" "level"))
theorem no_Handler_formatter (T : Txt w K mg) : NoAttr K (ga K "Handler") "formatter" := noat_ok (T.says.d.fact 34 (f := .noat "Handler" "formatter"))
theorem no_Handler_name (T : Txt w K mg) : NoAttr K (ga K "Handler") "name" := noat_ok (T.says.d.fact 35 (f := .noat "Handler" "name"))
theorem no_Handler_terminator (T : Txt w K mg) : NoAttr K (ga K "Handler") "terminator" := noat_ok (T.says.d.fact 36 (f := .noat "Handler" "terminator"))
theorem no_Handler_closed (T : Txt w K mg) : NoAttr K (ga K "Handler") "closed" := noat_ok (T.says.d.fact 37 (f := .noat "Handler" "closed"))
theorem m_StreamHandler (T : Txt w K mg) : mg "StreamHandler" = some (.ref (ga K "StreamHandler")) := T.glo (T.says.d.fact 38 (f := .glo "StreamHandler"))
theorem gv_StreamHandler (T : Txt w K mg) : ∃ u, mg "StreamHandler" = some u ∧ RelV (.ref (ga K "StreamHandler")) u := ⟨_, T.m_StreamHandler, rfl⟩
theorem cl_StreamHandler (T : Txt w K mg) : Cls K (ga K "StreamHandler") := cls_ok (T.says.d.fact 39 (f := .cls "StreamHandler"))
theorem mk_StreamHandler (T : Txt w K mg) : Mk K (ga K "StreamHandler") (ma K (ga K "StreamHandler") "__init__") := mkr_ok (T.says.d.fact 40 (f := .mkr "StreamHandler"))
theorem me_StreamHandler_setLevel (T : Txt w K mg) : Meth K (ga K "StreamHandler") "setLevel" (ma K (ga K "StreamHandler") "setLevel") := meth_ok (T.says.d.fact 41 (f := .meth "StreamHandler" "setLevel"))
theorem me_StreamHandler_setFormatter (T : Txt w K mg) : Meth K (ga K "StreamHandler") "setFormatter" (ma K (ga K "StreamHandler") "setFormatter") := meth_ok (T.says.d.fact 42 (f := .meth "StreamHandler" "setFormatter"))
theorem me_StreamHandler_setTerminator (T : Txt w K mg) : Meth K (ga K "StreamHandler") "setTerminator" (ma K (ga K "StreamHandler") "setTerminator") := meth_ok (T.says.d.fact 43 (f := .meth "StreamHandler" "setTerminator"))
theorem me_StreamHandler_addFilter (T : Txt w K mg) : Meth K (ga K "StreamHandler") "addFilter" (ma K (ga K "StreamHandler") "addFilter") := meth_ok (T.says.d.fact 44 (f := .meth "StreamHandler" "addFilter"))
theorem no_StreamHandler_filters (T : Txt w K mg) : NoAttr K (ga K "StreamHandler") "filters" := noat_ok (T.says.d.fact 45 (f := .noat "StreamHandler" "filters"))
theorem no_StreamHandler_yard (T : Txt w K mg) : NoAttr K (ga K "StreamHandler") "yard" := noat_ok (T.says.d.fact 46 (f := .noat "StreamHandler" "yard"))
theorem no_StreamHandler_level (T : Txt w K mg) : NoAttr K (ga K "StreamHandler") "level" := noat_ok (T.says.d.fact 47 (f := .noat "StreamHandler" "level"))
theorem no_StreamHandler_formatter (T : Txt w K mg) : NoAttr K (ga K "StreamHandler") "formatter" := noat_ok (T.says.d.fact 48 (f := .noat "StreamHandler" "formatter"))
theorem no_StreamHandler_name (T : Txt w K mg) : NoAttr K (ga K "StreamHandler") "name" := noat_ok (T.says.d.fact 49 (f := .noat "StreamHandler" "name"))
theorem no_StreamHandler_terminator (T : Txt w K mg) : NoAttr K (ga K "StreamHandler") "terminator" := noat_ok (T.says.d.fact 50 (f := .noat "StreamHandler" "terminator"))
theorem no_StreamHandler_closed (T : Txt w K mg) : NoAttr K (ga K "StreamHandler") "closed" := noat_ok (T.says.d.fact 51 (f := .noat "StreamHandler" "closed"))
theorem no_StreamHandler_stream (T : Txt w K mg) : NoAttr K (ga K "StreamHandler") "stream" := noat_ok (T.says.d.fact 52 (f := .noat "StreamHandler" "stream"))
theorem m_NullHandler (T : Txt w K mg) : mg "NullHandler" = some (.ref (ga K "NullHandler")) := T.glo (T.says.d.fact 53 (f := .glo "NullHandler"))
theorem gv_NullHandler (T : Txt w K mg) : ∃ u, mg "NullHandler" = some u ∧ RelV (.ref (ga K "NullHandler")) u := ⟨_, T.m_NullHandler, rfl⟩
theorem cl_NullHandler (T : Txt w K mg) : Cls K (ga K "NullHandler") := cls_ok (T.says.d.fact 54 (f := .cls "NullHandler"))
theorem mk_NullHandler (T : Txt w K mg) : Mk K (ga K "NullHandler") (ma K (ga K "NullHandler") "__init__") := mkr_ok (T.says.d.fact 55 (f := .mkr "NullHandler"))
theorem me_NullHandler_setLevel (T : Txt w K mg) : Meth K (ga K "NullHandler") "setLevel" (ma K (ga K "NullHandler") "setLevel") := meth_ok (T.says.d.fact 56 (f := .meth "NullHandler" "setLevel"))
theorem me_NullHandler_setFormatter (T : Txt w K mg) : Meth K (ga K "NullHandler") "setFormatter" (ma K (ga K "NullHandler") "setFormatter") := meth_ok (T.says.d.fact 57 (f := .meth "NullHandler" "setFormatter"))
theorem me_NullHandler_setTerminator (T : Txt w K mg) : Meth K (ga K "NullHandler") "setTerminator" (ma K (ga K "NullHandler") "setTerminator") := meth_ok (T.says.d.fact 58 (f := .meth "NullHandler" "setTerminator"))
theorem me_NullHandler_addFilter (T : Txt w K mg) : Meth K (ga K "NullHandler") "addFilter" (ma K (ga K "NullHandler") "addFilter") := meth_ok (T.says.d.fact 59 (f := .meth "NullHandler" "addFilter"))
theorem no_NullHandler_filters (T : Txt w K mg) : NoAttr K (ga K "NullHandler") "filters" := noat_ok (T.says.d.fact 60 (f := .noat "NullHandler" "filters"))
theorem no_NullHandler_yard (T : Txt w K mg) : NoAttr K (ga K "NullHandler") "yard" := noat_ok (T.says.d.fact 61 (f := .noat "NullHandler" "yard"))
theorem no_NullHandler_level (T : Txt w K mg) : NoAttr K (ga K "NullHandler") "level" := noat_ok (T.says.d.fact 62 (f := .noat "NullHandler" "level"))
theorem no_NullHandler_formatter (T : Txt w K mg) : NoAttr K (ga K "NullHandler") "formatter" := noat_ok (T.says.d.fact 63 (f := .noat "NullHandler" "formatter"))
theorem no_NullHandler_name (T : Txt w K mg) : NoAttr K (ga K "NullHandler") "name" := noat_ok (T.says.d.fact 64 (f := .noat "NullHandler" "name"))
theorem no_NullHandler_terminator (T : Txt w K mg) : NoAttr K (ga K "NullHandler") "terminator" := noat_ok (T.says.d.fact 65 (f := .noat "NullHandler" "terminator"))
theorem no_NullHandler_closed (T : Txt w K mg) : NoAttr K (ga K "NullHandler") "closed" := noat_ok (T.says.d.fact 66 (f := .noat "NullHandler" "closed"))
theorem m_Logger (T : Txt w K mg) : mg "Logger" = some (.ref (ga K "Logger")) := T.glo (T.says.d.fact 67 (f := .glo "Logger"))
theorem gv_Logger (T : Txt w K mg) : ∃ u, mg "Logger" = some u ∧ RelV (.ref (ga K "Logger")) u := ⟨_, T.m_Logger, rfl⟩
theorem cl_Logger (T : Txt w K mg) : Cls K (ga K "Logger") := cls_ok (T.says.d.fact 68 (f := .cls "Logger"))
theorem mk_Logger (T : Txt w K mg) : Mk K (ga K "Logger") (ma K (ga K "Logger") "__init__") := mkr_ok (T.says.d.fact 69 (f := .mkr "Logger"))
theorem me_Logger_setLevel (T : Txt w K mg) : Meth K (ga K "Logger") "setLevel" (ma K (ga K "Logger") "setLevel") := meth_ok (T.says.d.fact 70 (f := .meth "Logger" "setLevel"))
theorem me_Logger_setPropagate (T : Txt w K mg) : Meth K (ga K "Logger") "setPropagate" (ma K (ga K "Logger") "setPropagate") := meth_ok (T.says.d.fact 71 (f := .meth "Logger" "setPropagate"))
theorem me_Logger_setDisabled (T : Txt w K mg) : Meth K (ga K "Logger") "setDisabled" (ma K (ga K "Logger") "setDisabled") := meth_ok (T.says.d.fact 72 (f := .meth "Logger" "setDisabled"))
theorem me_Logger_getEffectiveLevel (T : Txt w K mg) : Meth K (ga K "Logger") "getEffectiveLevel" (ma K (ga K "Logger") "getEffectiveLevel") := meth_ok (T.says.d.fact 73 (f := .meth "Logger" "getEffectiveLevel"))
theorem me_Logger_addHandler (T : Txt w K mg) : Meth K (ga K "Logger") "addHandler" (ma K (ga K "Logger") "addHandler") := meth_ok (T.says.d.fact 74 (f := .meth "Logger" "addHandler"))
theorem me_Logger_reached (T : Txt w K mg) : Meth K (ga K "Logger") "reached" (ma K (ga K "Logger") "reached") := meth_ok (T.says.d.fact 75 (f := .meth "Logger" "reached"))
theorem me_Logger_addFilter (T : Txt w K mg) : Meth K (ga K "Logger") "addFilter" (ma K (ga K "Logger") "addFilter") := meth_ok (T.says.d.fact 76 (f := .meth "Logger" "addFilter"))
theorem no_Logger_filters (T : Txt w K mg) : NoAttr K (ga K "Logger") "filters" := noat_ok (T.says.d.fact 77 (f := .noat "Logger" "filters"))
theorem no_Logger_yard (T : Txt w K mg) : NoAttr K (ga K "Logger") "yard" := noat_ok (T.says.d.fact 78 (f := .noat "Logger" "yard"))
theorem no_Logger_name (T : Txt w K mg) : NoAttr K (ga K "Logger") "name" := noat_ok (T.says.d.fact 79 (f := .noat "Logger" "name"))
theorem no_Logger_level (T : Txt w K mg) : NoAttr K (ga K "Logger") "level" := noat_ok (T.says.d.fact 80 (f := .noat "Logger" "level"))
theorem no_Logger_propagate (T : Txt w K mg) : NoAttr K (ga K "Logger") "propagate" := noat_ok (T.says.d.fact 81 (f := .noat "Logger" "propagate"))
theorem no_Logger_disabled (T : Txt w K mg) : NoAttr K (ga K "Logger") "disabled" := noat_ok (T.says.d.fact 82 (f := .noat "Logger" "disabled"))
theorem no_Logger_handlers (T : Txt w K mg) : NoAttr K (ga K "Logger") "handlers" := noat_ok (T.says.d.fact 83 (f := .noat "Logger" "handlers"))
theorem no_Logger_parent (T : Txt w K mg) : NoAttr K (ga K "Logger") "parent" := noat_ok (T.says.d.fact 84 (f := .noat "Logger" "parent"))
theorem m_Yard (T : Txt w K mg) : mg "Yard" = some (.ref (ga K "Yard")) := T.glo (T.says.d.fact 85 (f := .glo "Yard"))
theorem gv_Yard (T : Txt w K mg) : ∃ u, mg "Yard" = some u ∧ RelV (.ref (ga K "Yard")) u := ⟨_, T.m_Yard, rfl⟩
theorem cl_Yard (T : Txt w K mg) : Cls K (ga K "Yard") := cls_ok (T.says.d.fact 86 (f := .cls "Yard"))
theorem mk_Yard (T : Txt w K mg) : Mk K (ga K "Yard") (ma K (ga K "Yard") "__init__") := mkr_ok (T.says.d.fact 87 (f := .mkr "Yard"))
theorem me_Yard_add_level_name (T : Txt w K mg) : Meth K (ga K "Yard") "add_level_name" (ma K (ga K "Yard") "add_level_name") := meth_ok (T.says.d.fact 88 (f := .meth "Yard" "add_level_name"))
theorem me_Yard_level_name (T : Txt w K mg) : Meth K (ga K "Yard") "level_name" (ma K (ga K "Yard") "level_name") := meth_ok (T.says.d.fact 89 (f := .meth "Yard" "level_name"))
theorem me_Yard_level_of (T : Txt w K mg) : Meth K (ga K "Yard") "level_of" (ma K (ga K "Yard") "level_of") := meth_ok (T.says.d.fact 90 (f := .meth "Yard" "level_of"))
theorem me_Yard_getLogger (T : Txt w K mg) : Meth K (ga K "Yard") "getLogger" (ma K (ga K "Yard") "getLogger") := meth_ok (T.says.d.fact 91 (f := .meth "Yard" "getLogger"))
theorem me_Yard_loggers (T : Txt w K mg) : Meth K (ga K "Yard") "loggers" (ma K (ga K "Yard") "loggers") := meth_ok (T.says.d.fact 92 (f := .meth "Yard" "loggers"))
theorem me_Yard_disable (T : Txt w K mg) : Meth K (ga K "Yard") "disable" (ma K (ga K "Yard") "disable") := meth_ok (T.says.d.fact 93 (f := .meth "Yard" "disable"))
theorem me_Yard_enrol (T : Txt w K mg) : Meth K (ga K "Yard") "enrol" (ma K (ga K "Yard") "enrol") := meth_ok (T.says.d.fact 94 (f := .meth "Yard" "enrol"))
theorem no_Yard_clock (T : Txt w K mg) : NoAttr K (ga K "Yard") "clock" := noat_ok (T.says.d.fact 95 (f := .noat "Yard" "clock"))
theorem no_Yard_stream_texts (T : Txt w K mg) : NoAttr K (ga K "Yard") "stream_texts" := noat_ok (T.says.d.fact 96 (f := .noat "Yard" "stream_texts"))
theorem no_Yard_file_rows (T : Txt w K mg) : NoAttr K (ga K "Yard") "file_rows" := noat_ok (T.says.d.fact 97 (f := .noat "Yard" "file_rows"))
theorem no_Yard_names_of (T : Txt w K mg) : NoAttr K (ga K "Yard") "names_of" := noat_ok (T.says.d.fact 98 (f := .noat "Yard" "names_of"))
theorem no_Yard_numbers_of (T : Txt w K mg) : NoAttr K (ga K "Yard") "numbers_of" := noat_ok (T.says.d.fact 99 (f := .noat "Yard" "numbers_of"))
theorem no_Yard_bar_level (T : Txt w K mg) : NoAttr K (ga K "Yard") "bar_level" := noat_ok (T.says.d.fact 100 (f := .noat "Yard" "bar_level"))
theorem no_Yard_logger_map (T : Txt w K mg) : NoAttr K (ga K "Yard") "logger_map" := noat_ok (T.says.d.fact 101 (f := .noat "Yard" "logger_map"))
theorem no_Yard_made (T : Txt w K mg) : NoAttr K (ga K "Yard") "made" := noat_ok (T.says.d.fact 102 (f := .noat "Yard" "made"))
theorem no_Yard_handler_names (T : Txt w K mg) : NoAttr K (ga K "Yard") "handler_names" := noat_ok (T.says.d.fact 103 (f := .noat "Yard" "handler_names"))
theorem no_Yard_failure_rows (T : Txt w K mg) : NoAttr K (ga K "Yard") "failure_rows" := noat_ok (T.says.d.fact 104 (f := .noat "Yard" "failure_rows"))
theorem no_Yard_root (T : Txt w K mg) : NoAttr K (ga K "Yard") "root" := noat_ok (T.says.d.fact 105 (f := .noat "Yard" "root"))
theorem no_Yard_last_resort (T : Txt w K mg) : NoAttr K (ga K "Yard") "last_resort" := noat_ok (T.says.d.fact 106 (f := .noat "Yard" "last_resort"))
theorem m_is_below (T : Txt w K mg) : mg "is_below" = some (.ref (ga K "is_below")) := T.glo (T.says.d.fact 107 (f := .glo "is_below"))
theorem gv_is_below (T : Txt w K mg) : ∃ u, mg "is_below" = some u ∧ RelV (.ref (ga K "is_below")) u := ⟨_, T.m_is_below, rfl⟩
theorem m_is_integer (T : Txt w K mg) : mg "is_integer" = some (.ref (ga K "is_integer")) := T.glo (T.says.d.fact 108 (f := .glo "is_integer"))
theorem gv_is_integer (T : Txt w K mg) : ∃ u, mg "is_integer" = some u ∧ RelV (.ref (ga K "is_integer")) u := ⟨_, T.m_is_integer, rfl⟩
theorem m_name_end (T : Txt w K mg) : mg "name_end" = some (.ref (ga K "name_end")) := T.glo (T.says.d.fact 109 (f := .glo "name_end"))
theorem gv_name_end (T : Txt w K mg) : ∃ u, mg "name_end" = some u ∧ RelV (.ref (ga K "name_end")) u := ⟨_, T.m_name_end, rfl⟩
theorem m_field_of (T : Txt w K mg) : mg "field_of" = some (.ref (ga K "field_of")) := T.glo (T.says.d.fact 110 (f := .glo "field_of"))
theorem gv_field_of (T : Txt w K mg) : ∃ u, mg "field_of" = some u ∧ RelV (.ref (ga K "field_of")) u := ⟨_, T.m_field_of, rfl⟩
theorem m_parts_of_braces (T : Txt w K mg) : mg "parts_of_braces" = some (.ref (ga K "parts_of_braces")) := T.glo (T.says.d.fact 111 (f := .glo "parts_of_braces"))
theorem gv_parts_of_braces (T : Txt w K mg) : ∃ u, mg "parts_of_braces" = some u ∧ RelV (.ref (ga K "parts_of_braces")) u := ⟨_, T.m_parts_of_braces, rfl⟩
theorem m_field_behind (T : Txt w K mg) : mg "field_behind" = some (.ref (ga K "field_behind")) := T.glo (T.says.d.fact 112 (f := .glo "field_behind"))
theorem gv_field_behind (T : Txt w K mg) : ∃ u, mg "field_behind" = some u ∧ RelV (.ref (ga K "field_behind")) u := ⟨_, T.m_field_behind, rfl⟩
theorem m_parts_of_dollars (T : Txt w K mg) : mg "parts_of_dollars" = some (.ref (ga K "parts_of_dollars")) := T.glo (T.says.d.fact 113 (f := .glo "parts_of_dollars"))
theorem gv_parts_of_dollars (T : Txt w K mg) : ∃ u, mg "parts_of_dollars" = some u ∧ RelV (.ref (ga K "parts_of_dollars")) u := ⟨_, T.m_parts_of_dollars, rfl⟩
theorem m_joined_texts (T : Txt w K mg) : mg "joined_texts" = some (.ref (ga K "joined_texts")) := T.glo (T.says.d.fact 114 (f := .glo "joined_texts"))
theorem gv_joined_texts (T : Txt w K mg) : ∃ u, mg "joined_texts" = some u ∧ RelV (.ref (ga K "joined_texts")) u := ⟨_, T.m_joined_texts, rfl⟩
theorem m_is_plain (T : Txt w K mg) : mg "is_plain" = some (.ref (ga K "is_plain")) := T.glo (T.says.d.fact 115 (f := .glo "is_plain"))
theorem gv_is_plain (T : Txt w K mg) : ∃ u, mg "is_plain" = some u ∧ RelV (.ref (ga K "is_plain")) u := ⟨_, T.m_is_plain, rfl⟩
theorem m_own_name (T : Txt w K mg) : mg "own_name" = some (.ref (ga K "own_name")) := T.glo (T.says.d.fact 116 (f := .glo "own_name"))
theorem gv_own_name (T : Txt w K mg) : ∃ u, mg "own_name" = some u ∧ RelV (.ref (ga K "own_name")) u := ⟨_, T.m_own_name, rfl⟩
theorem m_all_loggers (T : Txt w K mg) : mg "all_loggers" = some (.ref (ga K "all_loggers")) := T.glo (T.says.d.fact 117 (f := .glo "all_loggers"))
theorem gv_all_loggers (T : Txt w K mg) : ∃ u, mg "all_loggers" = some u ∧ RelV (.ref (ga K "all_loggers")) u := ⟨_, T.m_all_loggers, rfl⟩
theorem m_is_plain_format (T : Txt w K mg) : mg "is_plain_format" = some (.ref (ga K "is_plain_format")) := T.glo (T.says.d.fact 118 (f := .glo "is_plain_format"))
theorem gv_is_plain_format (T : Txt w K mg) : ∃ u, mg "is_plain_format" = some u ∧ RelV (.ref (ga K "is_plain_format")) u := ⟨_, T.m_is_plain_format, rfl⟩
theorem m_first_function (T : Txt w K mg) : mg "first_function" = some (.ref (ga K "first_function")) := T.glo (T.says.d.fact 119 (f := .glo "first_function"))
theorem gv_first_function (T : Txt w K mg) : ∃ u, mg "first_function" = some u ∧ RelV (.ref (ga K "first_function")) u := ⟨_, T.m_first_function, rfl⟩
theorem m_offence_of (T : Txt w K mg) : mg "offence_of" = some (.ref (ga K "offence_of")) := T.glo (T.says.d.fact 120 (f := .glo "offence_of"))
theorem gv_offence_of (T : Txt w K mg) : ∃ u, mg "offence_of" = some u ∧ RelV (.ref (ga K "offence_of")) u := ⟨_, T.m_offence_of, rfl⟩
theorem m_offence (T : Txt w K mg) : mg "offence" = some (.ref (ga K "offence")) := T.glo (T.says.d.fact 121 (f := .glo "offence"))
theorem gv_offence (T : Txt w K mg) : ∃ u, mg "offence" = some u ∧ RelV (.ref (ga K "offence")) u := ⟨_, T.m_offence, rfl⟩
theorem m_check_judged (T : Txt w K mg) : mg "check_judged" = some (.ref (ga K "check_judged")) := T.glo (T.says.d.fact 122 (f := .glo "check_judged"))
theorem gv_check_judged (T : Txt w K mg) : ∃ u, mg "check_judged" = some u ∧ RelV (.ref (ga K "check_judged")) u := ⟨_, T.m_check_judged, rfl⟩
theorem m_nearest (T : Txt w K mg) : mg "nearest" = some (.ref (ga K "nearest")) := T.glo (T.says.d.fact 123 (f := .glo "nearest"))
theorem gv_nearest (T : Txt w K mg) : ∃ u, mg "nearest" = some u ∧ RelV (.ref (ga K "nearest")) u := ⟨_, T.m_nearest, rfl⟩
theorem m_lets_by (T : Txt w K mg) : mg "lets_by" = some (.ref (ga K "lets_by")) := T.glo (T.says.d.fact 124 (f := .glo "lets_by"))
theorem gv_lets_by (T : Txt w K mg) : ∃ u, mg "lets_by" = some u ∧ RelV (.ref (ga K "lets_by")) u := ⟨_, T.m_lets_by, rfl⟩
theorem m_is_made (T : Txt w K mg) : mg "is_made" = some (.ref (ga K "is_made")) := T.glo (T.says.d.fact 125 (f := .glo "is_made"))
theorem gv_is_made (T : Txt w K mg) : ∃ u, mg "is_made" = some u ∧ RelV (.ref (ga K "is_made")) u := ⟨_, T.m_is_made, rfl⟩
theorem m_writers (T : Txt w K mg) : mg "writers" = some (.ref (ga K "writers")) := T.glo (T.says.d.fact 126 (f := .glo "writers"))
theorem gv_writers (T : Txt w K mg) : ∃ u, mg "writers" = some u ∧ RelV (.ref (ga K "writers")) u := ⟨_, T.m_writers, rfl⟩
theorem m_line_parts (T : Txt w K mg) : mg "line_parts" = some (.ref (ga K "line_parts")) := T.glo (T.says.d.fact 127 (f := .glo "line_parts"))
theorem gv_line_parts (T : Txt w K mg) : ∃ u, mg "line_parts" = some u ∧ RelV (.ref (ga K "line_parts")) u := ⟨_, T.m_line_parts, rfl⟩
theorem m_merged (T : Txt w K mg) : mg "merged" = some (.ref (ga K "merged")) := T.glo (T.says.d.fact 128 (f := .glo "merged"))
theorem gv_merged (T : Txt w K mg) : ∃ u, mg "merged" = some u ∧ RelV (.ref (ga K "merged")) u := ⟨_, T.m_merged, rfl⟩
theorem m_outcome_parts (T : Txt w K mg) : mg "outcome_parts" = some (.ref (ga K "outcome_parts")) := T.glo (T.says.d.fact 129 (f := .glo "outcome_parts"))
theorem gv_outcome_parts (T : Txt w K mg) : ∃ u, mg "outcome_parts" = some u ∧ RelV (.ref (ga K "outcome_parts")) u := ⟨_, T.m_outcome_parts, rfl⟩
theorem m_values_of (T : Txt w K mg) : mg "values_of" = some (.ref (ga K "values_of")) := T.glo (T.says.d.fact 130 (f := .glo "values_of"))
theorem gv_values_of (T : Txt w K mg) : ∃ u, mg "values_of" = some u ∧ RelV (.ref (ga K "values_of")) u := ⟨_, T.m_values_of, rfl⟩
theorem m_filled (T : Txt w K mg) : mg "filled" = some (.ref (ga K "filled")) := T.glo (T.says.d.fact 131 (f := .glo "filled"))
theorem gv_filled (T : Txt w K mg) : ∃ u, mg "filled" = some u ∧ RelV (.ref (ga K "filled")) u := ⟨_, T.m_filled, rfl⟩
theorem m_outcome (T : Txt w K mg) : mg "outcome" = some (.ref (ga K "outcome")) := T.glo (T.says.d.fact 132 (f := .glo "outcome"))
theorem gv_outcome (T : Txt w K mg) : ∃ u, mg "outcome" = some u ∧ RelV (.ref (ga K "outcome")) u := ⟨_, T.m_outcome, rfl⟩
theorem m_is_part (T : Txt w K mg) : mg "is_part" = some (.ref (ga K "is_part")) := T.glo (T.says.d.fact 133 (f := .glo "is_part"))
theorem gv_is_part (T : Txt w K mg) : ∃ u, mg "is_part" = some u ∧ RelV (.ref (ga K "is_part")) u := ⟨_, T.m_is_part, rfl⟩
theorem m_are_parts (T : Txt w K mg) : mg "are_parts" = some (.ref (ga K "are_parts")) := T.glo (T.says.d.fact 134 (f := .glo "are_parts"))
theorem gv_are_parts (T : Txt w K mg) : ∃ u, mg "are_parts" = some u ∧ RelV (.ref (ga K "are_parts")) u := ⟨_, T.m_are_parts, rfl⟩
theorem m_parent_of (T : Txt w K mg) : mg "parent_of" = some (.ref (ga K "parent_of")) := T.glo (T.says.d.fact 135 (f := .glo "parent_of"))
theorem gv_parent_of (T : Txt w K mg) : ∃ u, mg "parent_of" = some u ∧ RelV (.ref (ga K "parent_of")) u := ⟨_, T.m_parent_of, rfl⟩
theorem m_place_loggers (T : Txt w K mg) : mg "place_loggers" = some (.ref (ga K "place_loggers")) := T.glo (T.says.d.fact 136 (f := .glo "place_loggers"))
theorem gv_place_loggers (T : Txt w K mg) : ∃ u, mg "place_loggers" = some u ∧ RelV (.ref (ga K "place_loggers")) u := ⟨_, T.m_place_loggers, rfl⟩
theorem m_law_draw (T : Txt w K mg) : mg "_law_draw" = some (.ref (ga K "_law_draw")) := T.glo (T.says.d.fact 137 (f := .glo "_law_draw"))
theorem gv_law_draw (T : Txt w K mg) : ∃ u, mg "_law_draw" = some u ∧ RelV (.ref (ga K "_law_draw")) u := ⟨_, T.m_law_draw, rfl⟩
theorem m_law_pick (T : Txt w K mg) : mg "_law_pick" = some (.ref (ga K "_law_pick")) := T.glo (T.says.d.fact 138 (f := .glo "_law_pick"))
theorem gv_law_pick (T : Txt w K mg) : ∃ u, mg "_law_pick" = some u ∧ RelV (.ref (ga K "_law_pick")) u := ⟨_, T.m_law_pick, rfl⟩
theorem m_law_format (T : Txt w K mg) : mg "_law_format" = some (.ref (ga K "_law_format")) := T.glo (T.says.d.fact 139 (f := .glo "_law_format"))
theorem gv_law_format (T : Txt w K mg) : ∃ u, mg "_law_format" = some u ∧ RelV (.ref (ga K "_law_format")) u := ⟨_, T.m_law_format, rfl⟩
theorem m_law_format_text (T : Txt w K mg) : mg "_law_format_text" = some (.ref (ga K "_law_format_text")) := T.glo (T.says.d.fact 140 (f := .glo "_law_format_text"))
theorem gv_law_format_text (T : Txt w K mg) : ∃ u, mg "_law_format_text" = some u ∧ RelV (.ref (ga K "_law_format_text")) u := ⟨_, T.m_law_format_text, rfl⟩
theorem m_law_has_field (T : Txt w K mg) : mg "_law_has_field" = some (.ref (ga K "_law_has_field")) := T.glo (T.says.d.fact 141 (f := .glo "_law_has_field"))
theorem gv_law_has_field (T : Txt w K mg) : ∃ u, mg "_law_has_field" = some u ∧ RelV (.ref (ga K "_law_has_field")) u := ⟨_, T.m_law_has_field, rfl⟩
theorem m_law_level (T : Txt w K mg) : mg "_law_level" = some (.ref (ga K "_law_level")) := T.glo (T.says.d.fact 142 (f := .glo "_law_level"))
theorem gv_law_level (T : Txt w K mg) : ∃ u, mg "_law_level" = some u ∧ RelV (.ref (ga K "_law_level")) u := ⟨_, T.m_law_level, rfl⟩
theorem m_law_names (T : Txt w K mg) : mg "_law_names" = some (.ref (ga K "_law_names")) := T.glo (T.says.d.fact 143 (f := .glo "_law_names"))
theorem gv_law_names (T : Txt w K mg) : ∃ u, mg "_law_names" = some u ∧ RelV (.ref (ga K "_law_names")) u := ⟨_, T.m_law_names, rfl⟩
theorem m_law_handler_plan (T : Txt w K mg) : mg "_law_handler_plan" = some (.ref (ga K "_law_handler_plan")) := T.glo (T.says.d.fact 144 (f := .glo "_law_handler_plan"))
theorem gv_law_handler_plan (T : Txt w K mg) : ∃ u, mg "_law_handler_plan" = some u ∧ RelV (.ref (ga K "_law_handler_plan")) u := ⟨_, T.m_law_handler_plan, rfl⟩
theorem m_law_logger_plan (T : Txt w K mg) : mg "_law_logger_plan" = some (.ref (ga K "_law_logger_plan")) := T.glo (T.says.d.fact 145 (f := .glo "_law_logger_plan"))
theorem gv_law_logger_plan (T : Txt w K mg) : ∃ u, mg "_law_logger_plan" = some u ∧ RelV (.ref (ga K "_law_logger_plan")) u := ⟨_, T.m_law_logger_plan, rfl⟩
theorem m_law_plan (T : Txt w K mg) : mg "_law_plan" = some (.ref (ga K "_law_plan")) := T.glo (T.says.d.fact 146 (f := .glo "_law_plan"))
theorem gv_law_plan (T : Txt w K mg) : ∃ u, mg "_law_plan" = some u ∧ RelV (.ref (ga K "_law_plan")) u := ⟨_, T.m_law_plan, rfl⟩
theorem m_law_handler (T : Txt w K mg) : mg "_law_handler" = some (.ref (ga K "_law_handler")) := T.glo (T.says.d.fact 147 (f := .glo "_law_handler"))
theorem gv_law_handler (T : Txt w K mg) : ∃ u, mg "_law_handler" = some u ∧ RelV (.ref (ga K "_law_handler")) u := ⟨_, T.m_law_handler, rfl⟩
theorem m_law_yard (T : Txt w K mg) : mg "_law_yard" = some (.ref (ga K "_law_yard")) := T.glo (T.says.d.fact 148 (f := .glo "_law_yard"))
theorem gv_law_yard (T : Txt w K mg) : ∃ u, mg "_law_yard" = some u ∧ RelV (.ref (ga K "_law_yard")) u := ⟨_, T.m_law_yard, rfl⟩
theorem m_law_way_up (T : Txt w K mg) : mg "_law_way_up" = some (.ref (ga K "_law_way_up")) := T.glo (T.says.d.fact 149 (f := .glo "_law_way_up"))
theorem gv_law_way_up (T : Txt w K mg) : ∃ u, mg "_law_way_up" = some u ∧ RelV (.ref (ga K "_law_way_up")) u := ⟨_, T.m_law_way_up, rfl⟩
theorem m_law_lets_by (T : Txt w K mg) : mg "_law_lets_by" = some (.ref (ga K "_law_lets_by")) := T.glo (T.says.d.fact 150 (f := .glo "_law_lets_by"))
theorem gv_law_lets_by (T : Txt w K mg) : ∃ u, mg "_law_lets_by" = some u ∧ RelV (.ref (ga K "_law_lets_by")) u := ⟨_, T.m_law_lets_by, rfl⟩
theorem m_law_level_word (T : Txt w K mg) : mg "_law_level_word" = some (.ref (ga K "_law_level_word")) := T.glo (T.says.d.fact 151 (f := .glo "_law_level_word"))
theorem gv_law_level_word (T : Txt w K mg) : ∃ u, mg "_law_level_word" = some u ∧ RelV (.ref (ga K "_law_level_word")) u := ⟨_, T.m_law_level_word, rfl⟩
theorem m_law_is_made (T : Txt w K mg) : mg "_law_is_made" = some (.ref (ga K "_law_is_made")) := T.glo (T.says.d.fact 152 (f := .glo "_law_is_made"))
theorem gv_law_is_made (T : Txt w K mg) : ∃ u, mg "_law_is_made" = some u ∧ RelV (.ref (ga K "_law_is_made")) u := ⟨_, T.m_law_is_made, rfl⟩
theorem m_law_told (T : Txt w K mg) : mg "_law_told" = some (.ref (ga K "_law_told")) := T.glo (T.says.d.fact 153 (f := .glo "_law_told"))
theorem gv_law_told (T : Txt w K mg) : ∃ u, mg "_law_told" = some u ∧ RelV (.ref (ga K "_law_told")) u := ⟨_, T.m_law_told, rfl⟩
theorem m_law_record (T : Txt w K mg) : mg "_law_record" = some (.ref (ga K "_law_record")) := T.glo (T.says.d.fact 154 (f := .glo "_law_record"))
theorem gv_law_record (T : Txt w K mg) : ∃ u, mg "_law_record" = some u ∧ RelV (.ref (ga K "_law_record")) u := ⟨_, T.m_law_record, rfl⟩
theorem m_law (T : Txt w K mg) : mg "law" = some (.ref (ga K "law")) := T.glo (T.says.d.fact 155 (f := .glo "law"))
theorem gv_law (T : Txt w K mg) : ∃ u, mg "law" = some u ∧ RelV (.ref (ga K "law")) u := ⟨_, T.m_law, rfl⟩
theorem c_CRITICAL (T : Txt w K mg) : ∃ u, mg "CRITICAL" = some u ∧ RelV (.int (50)) u := T.intc (T.says.d.fact 156 (f := .int "CRITICAL" (50)))
theorem c_WARNING (T : Txt w K mg) : ∃ u, mg "WARNING" = some u ∧ RelV (.int (30)) u := T.intc (T.says.d.fact 157 (f := .int "WARNING" (30)))
theorem c_NOTSET (T : Txt w K mg) : ∃ u, mg "NOTSET" = some u ∧ RelV (.int (0)) u := T.intc (T.says.d.fact 158 (f := .int "NOTSET" (0)))
theorem m_FIRST_NAMES (T : Txt w K mg) : mg "FIRST_NAMES" = some (.ref (ga K "FIRST_NAMES")) := T.glo (T.says.d.fact 159 (f := .glo "FIRST_NAMES"))
theorem gv_FIRST_NAMES (T : Txt w K mg) : ∃ u, mg "FIRST_NAMES" = some u ∧ RelV (.ref (ga K "FIRST_NAMES")) u := ⟨_, T.m_FIRST_NAMES, rfl⟩
theorem m_FIRST_NUMBERS (T : Txt w K mg) : mg "FIRST_NUMBERS" = some (.ref (ga K "FIRST_NUMBERS")) := T.glo (T.says.d.fact 160 (f := .glo "FIRST_NUMBERS"))
theorem gv_FIRST_NUMBERS (T : Txt w K mg) : ∃ u, mg "FIRST_NUMBERS" = some u ∧ RelV (.ref (ga K "FIRST_NUMBERS")) u := ⟨_, T.m_FIRST_NUMBERS, rfl⟩
theorem c_LETTERS (T : Txt w K mg) : ∃ u, mg "LETTERS" = some u ∧ RelV (.str "abcdefghijklmnopqrstuvwxyzABCDEFGHIJKLMNOPQRSTUVWXYZ_") u := T.strc (T.says.d.fact 161 (f := .str "LETTERS" "abcdefghijklmnopqrstuvwxyzABCDEFGHIJKLMNOPQRSTUVWXYZ_"))
theorem c_DIGITS (T : Txt w K mg) : ∃ u, mg "DIGITS" = some u ∧ RelV (.str "0123456789") u := T.strc (T.says.d.fact 162 (f := .str "DIGITS" "0123456789"))
theorem m_MESSAGE_ALONE (T : Txt w K mg) : mg "MESSAGE_ALONE" = some (.ref (ga K "MESSAGE_ALONE")) := T.glo (T.says.d.fact 163 (f := .glo "MESSAGE_ALONE"))
theorem gv_MESSAGE_ALONE (T : Txt w K mg) : ∃ u, mg "MESSAGE_ALONE" = some u ∧ RelV (.ref (ga K "MESSAGE_ALONE")) u := ⟨_, T.m_MESSAGE_ALONE, rfl⟩
theorem m_NAME (T : Txt w K mg) : mg "NAME" = some (.ref (ga K "NAME")) := T.glo (T.says.d.fact 164 (f := .glo "NAME"))
theorem gv_NAME (T : Txt w K mg) : ∃ u, mg "NAME" = some u ∧ RelV (.ref (ga K "NAME")) u := ⟨_, T.m_NAME, rfl⟩
theorem m_LEVEL (T : Txt w K mg) : mg "LEVEL" = some (.ref (ga K "LEVEL")) := T.glo (T.says.d.fact 165 (f := .glo "LEVEL"))
theorem gv_LEVEL (T : Txt w K mg) : ∃ u, mg "LEVEL" = some u ∧ RelV (.ref (ga K "LEVEL")) u := ⟨_, T.m_LEVEL, rfl⟩
theorem m_MESSAGE (T : Txt w K mg) : mg "MESSAGE" = some (.ref (ga K "MESSAGE")) := T.glo (T.says.d.fact 166 (f := .glo "MESSAGE"))
theorem gv_MESSAGE (T : Txt w K mg) : ∃ u, mg "MESSAGE" = some u ∧ RelV (.ref (ga K "MESSAGE")) u := ⟨_, T.m_MESSAGE, rfl⟩
theorem m_PLAIN_FIELDS (T : Txt w K mg) : mg "PLAIN_FIELDS" = some (.ref (ga K "PLAIN_FIELDS")) := T.glo (T.says.d.fact 167 (f := .glo "PLAIN_FIELDS"))
theorem gv_PLAIN_FIELDS (T : Txt w K mg) : ∃ u, mg "PLAIN_FIELDS" = some u ∧ RelV (.ref (ga K "PLAIN_FIELDS")) u := ⟨_, T.m_PLAIN_FIELDS, rfl⟩
theorem c_SIGNS (T : Txt w K mg) : ∃ u, mg "SIGNS" = some u ∧ RelV (.str "abcdefghijklmnopqrstuvwxyzABCDEFGHIJKLMNOPQRSTUVWXYZ0123456789_") u := T.strc (T.says.d.fact 168 (f := .str "SIGNS" "abcdefghijklmnopqrstuvwxyzABCDEFGHIJKLMNOPQRSTUVWXYZ0123456789_"))
theorem f_len (T : Txt w K mg) : mg "len" = none := T.free (T.says.d.fact 169 (f := .free "len"))
theorem f_isinstance (T : Txt w K mg) : mg "isinstance" = none := T.free (T.says.d.fact 170 (f := .free "isinstance"))
theorem f_int (T : Txt w K mg) : mg "int" = none := T.free (T.says.d.fact 171 (f := .free "int"))
theorem f_str (T : Txt w K mg) : mg "str" = none := T.free (T.says.d.fact 172 (f := .free "str"))
theorem f_bool (T : Txt w K mg) : mg "bool" = none := T.free (T.says.d.fact 173 (f := .free "bool"))
theorem f_sorted (T : Txt w K mg) : mg "sorted" = none := T.free (T.says.d.fact 174 (f := .free "sorted"))
theorem f_list (T : Txt w K mg) : mg "list" = none := T.free (T.says.d.fact 175 (f := .free "list"))
theorem f_dict (T : Txt w K mg) : mg "dict" = none := T.free (T.says.d.fact 176 (f := .free "dict"))
theorem f_tuple (T : Txt w K mg) : mg "tuple" = none := T.free (T.says.d.fact 177 (f := .free "tuple"))
theorem f_range (T : Txt w K mg) : mg "range" = none := T.free (T.says.d.fact 178 (f := .free "range"))
theorem f_enumerate (T : Txt w K mg) : mg "enumerate" = none := T.free (T.says.d.fact 179 (f := .free "enumerate"))
theorem f_all (T : Txt w K mg) : mg "all" = none := T.free (T.says.d.fact 180 (f := .free "all"))
theorem f_any (T : Txt w K mg) : mg "any" = none := T.free (T.says.d.fact 181 (f := .free "any"))
theorem f_max (T : Txt w K mg) : mg "max" = none := T.free (T.says.d.fact 182 (f := .free "max"))
theorem f_repr (T : Txt w K mg) : mg "repr" = none := T.free (T.says.d.fact 183 (f := .free "repr"))
theorem df_is_below (T : Txt w K mg) : ∃ fd, FunD K "is_below" "is_below" (defArgs s_is_below) (defBody s_is_below) (defScope s_is_below) (He.DefD.dvs K d_is_below) [] (fAd K ("is_below", none)) fd := T.says.d.def_ 0 (d := d_is_below) rfl
theorem df_is_integer (T : Txt w K mg) : ∃ fd, FunD K "is_integer" "is_integer" (defArgs s_is_integer) (defBody s_is_integer) (defScope s_is_integer) (He.DefD.dvs K d_is_integer) [] (fAd K ("is_integer", none)) fd := T.says.d.def_ 1 (d := d_is_integer) rfl
theorem df_name_end (T : Txt w K mg) : ∃ fd, FunD K "name_end" "name_end" (defArgs s_name_end) (defBody s_name_end) (defScope s_name_end) (He.DefD.dvs K d_name_end) [] (fAd K ("name_end", none)) fd := T.says.d.def_ 2 (d := d_name_end) rfl
theorem df_field_of (T : Txt w K mg) : ∃ fd, FunD K "field_of" "field_of" (defArgs s_field_of) (defBody s_field_of) (defScope s_field_of) (He.DefD.dvs K d_field_of) [] (fAd K ("field_of", none)) fd := T.says.d.def_ 3 (d := d_field_of) rfl
theorem df_parts_of_braces (T : Txt w K mg) : ∃ fd, FunD K "parts_of_braces" "parts_of_braces" (defArgs s_parts_of_braces) (defBody s_parts_of_braces) (defScope s_parts_of_braces) (He.DefD.dvs K d_parts_of_braces) [] (fAd K ("parts_of_braces", none)) fd := T.says.d.def_ 4 (d := d_parts_of_braces) rfl
theorem df_field_behind (T : Txt w K mg) : ∃ fd, FunD K "field_behind" "field_behind" (defArgs s_field_behind) (defBody s_field_behind) (defScope s_field_behind) (He.DefD.dvs K d_field_behind) [] (fAd K ("field_behind", none)) fd := T.says.d.def_ 5 (d := d_field_behind) rfl
theorem df_parts_of_dollars (T : Txt w K mg) : ∃ fd, FunD K "parts_of_dollars" "parts_of_dollars" (defArgs s_parts_of_dollars) (defBody s_parts_of_dollars) (defScope s_parts_of_dollars) (He.DefD.dvs K d_parts_of_dollars) [] (fAd K ("parts_of_dollars", none)) fd := T.says.d.def_ 6 (d := d_parts_of_dollars) rfl
theorem df_joined_texts (T : Txt w K mg) : ∃ fd, FunD K "joined_texts" "joined_texts" (defArgs s_joined_texts) (defBody s_joined_texts) (defScope s_joined_texts) (He.DefD.dvs K d_joined_texts) [] (fAd K ("joined_texts", none)) fd := T.says.d.def_ 7 (d := d_joined_texts) rfl
theorem df_is_plain (T : Txt w K mg) : ∃ fd, FunD K "is_plain" "is_plain" (defArgs s_is_plain) (defBody s_is_plain) (defScope s_is_plain) (He.DefD.dvs K d_is_plain) [] (fAd K ("is_plain", none)) fd := T.says.d.def_ 8 (d := d_is_plain) rfl
theorem df_own_name (T : Txt w K mg) : ∃ fd, FunD K "own_name" "own_name" (defArgs s_own_name) (defBody s_own_name) (defScope s_own_name) (He.DefD.dvs K d_own_name) [] (fAd K ("own_name", none)) fd := T.says.d.def_ 9 (d := d_own_name) rfl
theorem df_all_loggers (T : Txt w K mg) : ∃ fd, FunD K "all_loggers" "all_loggers" (defArgs s_all_loggers) (defBody s_all_loggers) (defScope s_all_loggers) (He.DefD.dvs K d_all_loggers) [] (fAd K ("all_loggers", none)) fd := T.says.d.def_ 10 (d := d_all_loggers) rfl
theorem df_is_plain_format (T : Txt w K mg) : ∃ fd, FunD K "is_plain_format" "is_plain_format" (defArgs s_is_plain_format) (defBody s_is_plain_format) (defScope s_is_plain_format) (He.DefD.dvs K d_is_plain_format) [] (fAd K ("is_plain_format", none)) fd := T.says.d.def_ 11 (d := d_is_plain_format) rfl
theorem df_first_function (T : Txt w K mg) : ∃ fd, FunD K "first_function" "first_function" (defArgs s_first_function) (defBody s_first_function) (defScope s_first_function) (He.DefD.dvs K d_first_function) [] (fAd K ("first_function", none)) fd := T.says.d.def_ 12 (d := d_first_function) rfl
theorem df_offence_of (T : Txt w K mg) : ∃ fd, FunD K "offence_of" "offence_of" (defArgs s_offence_of) (defBody s_offence_of) (defScope s_offence_of) (He.DefD.dvs K d_offence_of) [] (fAd K ("offence_of", none)) fd := T.says.d.def_ 13 (d := d_offence_of) rfl
theorem df_offence (T : Txt w K mg) : ∃ fd, FunD K "offence" "offence" (defArgs s_offence) (defBody s_offence) (defScope s_offence) (He.DefD.dvs K d_offence) [] (fAd K ("offence", none)) fd := T.says.d.def_ 14 (d := d_offence) rfl
theorem df_check_judged (T : Txt w K mg) : ∃ fd, FunD K "check_judged" "check_judged" (defArgs s_check_judged) (defBody s_check_judged) (defScope s_check_judged) (He.DefD.dvs K d_check_judged) [] (fAd K ("check_judged", none)) fd := T.says.d.def_ 15 (d := d_check_judged) rfl
theorem df_nearest (T : Txt w K mg) : ∃ fd, FunD K "nearest" "nearest" (defArgs s_nearest) (defBody s_nearest) (defScope s_nearest) (He.DefD.dvs K d_nearest) [] (fAd K ("nearest", none)) fd := T.says.d.def_ 16 (d := d_nearest) rfl
theorem df_lets_by (T : Txt w K mg) : ∃ fd, FunD K "lets_by" "lets_by" (defArgs s_lets_by) (defBody s_lets_by) (defScope s_lets_by) (He.DefD.dvs K d_lets_by) [] (fAd K ("lets_by", none)) fd := T.says.d.def_ 17 (d := d_lets_by) rfl
theorem df_is_made (T : Txt w K mg) : ∃ fd, FunD K "is_made" "is_made" (defArgs s_is_made) (defBody s_is_made) (defScope s_is_made) (He.DefD.dvs K d_is_made) [] (fAd K ("is_made", none)) fd := T.says.d.def_ 18 (d := d_is_made) rfl
theorem df_writers (T : Txt w K mg) : ∃ fd, FunD K "writers" "writers" (defArgs s_writers) (defBody s_writers) (defScope s_writers) (He.DefD.dvs K d_writers) [] (fAd K ("writers", none)) fd := T.says.d.def_ 19 (d := d_writers) rfl
theorem df_line_parts (T : Txt w K mg) : ∃ fd, FunD K "line_parts" "line_parts" (defArgs s_line_parts) (defBody s_line_parts) (defScope s_line_parts) (He.DefD.dvs K d_line_parts) [] (fAd K ("line_parts", none)) fd := T.says.d.def_ 20 (d := d_line_parts) rfl
theorem df_merged (T : Txt w K mg) : ∃ fd, FunD K "merged" "merged" (defArgs s_merged) (defBody s_merged) (defScope s_merged) (He.DefD.dvs K d_merged) [] (fAd K ("merged", none)) fd := T.says.d.def_ 21 (d := d_merged) rfl
theorem df_outcome_parts (T : Txt w K mg) : ∃ fd, FunD K "outcome_parts" "outcome_parts" (defArgs s_outcome_parts) (defBody s_outcome_parts) (defScope s_outcome_parts) (He.DefD.dvs K d_outcome_parts) [] (fAd K ("outcome_parts", none)) fd := T.says.d.def_ 22 (d := d_outcome_parts) rfl
theorem df_values_of (T : Txt w K mg) : ∃ fd, FunD K "values_of" "values_of" (defArgs s_values_of) (defBody s_values_of) (defScope s_values_of) (He.DefD.dvs K d_values_of) [] (fAd K ("values_of", none)) fd := T.says.d.def_ 23 (d := d_values_of) rfl
theorem df_filled (T : Txt w K mg) : ∃ fd, FunD K "filled" "filled" (defArgs s_filled) (defBody s_filled) (defScope s_filled) (He.DefD.dvs K d_filled) [] (fAd K ("filled", none)) fd := T.says.d.def_ 24 (d := d_filled) rfl
theorem df_outcome (T : Txt w K mg) : ∃ fd, FunD K "outcome" "outcome" (defArgs s_outcome) (defBody s_outcome) (defScope s_outcome) (He.DefD.dvs K d_outcome) [] (fAd K ("outcome", none)) fd := T.says.d.def_ 25 (d := d_outcome) rfl
theorem df_is_part (T : Txt w K mg) : ∃ fd, FunD K "is_part" "is_part" (defArgs s_is_part) (defBody s_is_part) (defScope s_is_part) (He.DefD.dvs K d_is_part) [] (fAd K ("is_part", none)) fd := T.says.d.def_ 26 (d := d_is_part) rfl
theorem df_are_parts (T : Txt w K mg) : ∃ fd, FunD K "are_parts" "are_parts" (defArgs s_are_parts) (defBody s_are_parts) (defScope s_are_parts) (He.DefD.dvs K d_are_parts) [] (fAd K ("are_parts", none)) fd := T.says.d.def_ 27 (d := d_are_parts) rfl
theorem df_parent_of (T : Txt w K mg) : ∃ fd, FunD K "parent_of" "parent_of" (defArgs s_parent_of) (defBody s_parent_of) (defScope s_parent_of) (He.DefD.dvs K d_parent_of) [] (fAd K ("parent_of", none)) fd := T.says.d.def_ 28 (d := d_parent_of) rfl
theorem df_place_loggers (T : Txt w K mg) : ∃ fd, FunD K "place_loggers" "place_loggers" (defArgs s_place_loggers) (defBody s_place_loggers) (defScope s_place_loggers) (He.DefD.dvs K d_place_loggers) [] (fAd K ("place_loggers", none)) fd := T.says.d.def_ 29 (d := d_place_loggers) rfl
theorem df_law_draw (T : Txt w K mg) : ∃ fd, FunD K "_law_draw" "_law_draw" (defArgs s_law_draw) (defBody s_law_draw) (defScope s_law_draw) (He.DefD.dvs K d_law_draw) [] (fAd K ("_law_draw", none)) fd := T.says.d.def_ 30 (d := d_law_draw) rfl
theorem df_law_pick (T : Txt w K mg) : ∃ fd, FunD K "_law_pick" "_law_pick" (defArgs s_law_pick) (defBody s_law_pick) (defScope s_law_pick) (He.DefD.dvs K d_law_pick) [] (fAd K ("_law_pick", none)) fd := T.says.d.def_ 31 (d := d_law_pick) rfl
theorem df_law_format (T : Txt w K mg) : ∃ fd, FunD K "_law_format" "_law_format" (defArgs s_law_format) (defBody s_law_format) (defScope s_law_format) (He.DefD.dvs K d_law_format) [] (fAd K ("_law_format", none)) fd := T.says.d.def_ 32 (d := d_law_format) rfl
theorem df_law_format_text (T : Txt w K mg) : ∃ fd, FunD K "_law_format_text" "_law_format_text" (defArgs s_law_format_text) (defBody s_law_format_text) (defScope s_law_format_text) (He.DefD.dvs K d_law_format_text) [] (fAd K ("_law_format_text", none)) fd := T.says.d.def_ 33 (d := d_law_format_text) rfl
theorem df_law_has_field (T : Txt w K mg) : ∃ fd, FunD K "_law_has_field" "_law_has_field" (defArgs s_law_has_field) (defBody s_law_has_field) (defScope s_law_has_field) (He.DefD.dvs K d_law_has_field) [] (fAd K ("_law_has_field", none)) fd := T.says.d.def_ 34 (d := d_law_has_field) rfl
theorem df_law_level (T : Txt w K mg) : ∃ fd, FunD K "_law_level" "_law_level" (defArgs s_law_level) (defBody s_law_level) (defScope s_law_level) (He.DefD.dvs K d_law_level) [] (fAd K ("_law_level", none)) fd := T.says.d.def_ 35 (d := d_law_level) rfl
theorem df_law_names (T : Txt w K mg) : ∃ fd, FunD K "_law_names" "_law_names" (defArgs s_law_names) (defBody s_law_names) (defScope s_law_names) (He.DefD.dvs K d_law_names) [] (fAd K ("_law_names", none)) fd := T.says.d.def_ 36 (d := d_law_names) rfl
theorem df_law_handler_plan (T : Txt w K mg) : ∃ fd, FunD K "_law_handler_plan" "_law_handler_plan" (defArgs s_law_handler_plan) (defBody s_law_handler_plan) (defScope s_law_handler_plan) (He.DefD.dvs K d_law_handler_plan) [] (fAd K ("_law_handler_plan", none)) fd := T.says.d.def_ 37 (d := d_law_handler_plan) rfl
theorem df_law_logger_plan (T : Txt w K mg) : ∃ fd, FunD K "_law_logger_plan" "_law_logger_plan" (defArgs s_law_logger_plan) (defBody s_law_logger_plan) (defScope s_law_logger_plan) (He.DefD.dvs K d_law_logger_plan) [] (fAd K ("_law_logger_plan", none)) fd := T.says.d.def_ 38 (d := d_law_logger_plan) rfl
theorem df_law_plan (T : Txt w K mg) : ∃ fd, FunD K "_law_plan" "_law_plan" (defArgs s_law_plan) (defBody s_law_plan) (defScope s_law_plan) (He.DefD.dvs K d_law_plan) [] (fAd K ("_law_plan", none)) fd := T.says.d.def_ 39 (d := d_law_plan) rfl
theorem df_law_handler (T : Txt w K mg) : ∃ fd, FunD K "_law_handler" "_law_handler" (defArgs s_law_handler) (defBody s_law_handler) (defScope s_law_handler) (He.DefD.dvs K d_law_handler) [] (fAd K ("_law_handler", none)) fd := T.says.d.def_ 40 (d := d_law_handler) rfl
theorem df_law_yard (T : Txt w K mg) : ∃ fd, FunD K "_law_yard" "_law_yard" (defArgs s_law_yard) (defBody s_law_yard) (defScope s_law_yard) (He.DefD.dvs K d_law_yard) [] (fAd K ("_law_yard", none)) fd := T.says.d.def_ 41 (d := d_law_yard) rfl
theorem df_law_way_up (T : Txt w K mg) : ∃ fd, FunD K "_law_way_up" "_law_way_up" (defArgs s_law_way_up) (defBody s_law_way_up) (defScope s_law_way_up) (He.DefD.dvs K d_law_way_up) [] (fAd K ("_law_way_up", none)) fd := T.says.d.def_ 42 (d := d_law_way_up) rfl
theorem df_law_lets_by (T : Txt w K mg) : ∃ fd, FunD K "_law_lets_by" "_law_lets_by" (defArgs s_law_lets_by) (defBody s_law_lets_by) (defScope s_law_lets_by) (He.DefD.dvs K d_law_lets_by) [] (fAd K ("_law_lets_by", none)) fd := T.says.d.def_ 43 (d := d_law_lets_by) rfl
theorem df_law_level_word (T : Txt w K mg) : ∃ fd, FunD K "_law_level_word" "_law_level_word" (defArgs s_law_level_word) (defBody s_law_level_word) (defScope s_law_level_word) (He.DefD.dvs K d_law_level_word) [] (fAd K ("_law_level_word", none)) fd := T.says.d.def_ 44 (d := d_law_level_word) rfl
theorem df_law_is_made (T : Txt w K mg) : ∃ fd, FunD K "_law_is_made" "_law_is_made" (defArgs s_law_is_made) (defBody s_law_is_made) (defScope s_law_is_made) (He.DefD.dvs K d_law_is_made) [] (fAd K ("_law_is_made", none)) fd := T.says.d.def_ 45 (d := d_law_is_made) rfl
theorem df_law_told (T : Txt w K mg) : ∃ fd, FunD K "_law_told" "_law_told" (defArgs s_law_told) (defBody s_law_told) (defScope s_law_told) (He.DefD.dvs K d_law_told) [] (fAd K ("_law_told", none)) fd := T.says.d.def_ 46 (d := d_law_told) rfl
theorem df_law_record (T : Txt w K mg) : ∃ fd, FunD K "_law_record" "_law_record" (defArgs s_law_record) (defBody s_law_record) (defScope s_law_record) (He.DefD.dvs K d_law_record) [] (fAd K ("_law_record", none)) fd := T.says.d.def_ 47 (d := d_law_record) rfl
theorem df_law (T : Txt w K mg) : ∃ fd, FunD K "law" "law" (defArgs s_law) (defBody s_law) (defScope s_law) (He.DefD.dvs K d_law) [] (fAd K ("law", none)) fd := T.says.d.def_ 48 (d := d_law) rfl
theorem df_Filter_init (T : Txt w K mg) : ∃ fd, FunD K "__init__" "Filter.__init__" (defArgs s_Filter_init) (defBody s_Filter_init) (defScope s_Filter_init) (He.DefD.dvs K d_Filter_init) [] (fAd K ("Filter", some "__init__")) fd := T.says.d.def_ 49 (d := d_Filter_init) rfl
theorem df_Filterer_init (T : Txt w K mg) : ∃ fd, FunD K "__init__" "Filterer.__init__" (defArgs s_Filterer_init) (defBody s_Filterer_init) (defScope s_Filterer_init) (He.DefD.dvs K d_Filterer_init) [] (fAd K ("Filterer", some "__init__")) fd := T.says.d.def_ 50 (d := d_Filterer_init) rfl
theorem df_Filterer_addFilter (T : Txt w K mg) : ∃ fd, FunD K "addFilter" "Filterer.addFilter" (defArgs s_Filterer_addFilter) (defBody s_Filterer_addFilter) (defScope s_Filterer_addFilter) (He.DefD.dvs K d_Filterer_addFilter) [] (fAd K ("Filterer", some "addFilter")) fd := T.says.d.def_ 51 (d := d_Filterer_addFilter) rfl
theorem df_Field_init (T : Txt w K mg) : ∃ fd, FunD K "__init__" "Field.__init__" (defArgs s_Field_init) (defBody s_Field_init) (defScope s_Field_init) (He.DefD.dvs K d_Field_init) [] (fAd K ("Field", some "__init__")) fd := T.says.d.def_ 52 (d := d_Field_init) rfl
theorem df_Formatter_init (T : Txt w K mg) : ∃ fd, FunD K "__init__" "Formatter.__init__" (defArgs s_Formatter_init) (defBody s_Formatter_init) (defScope s_Formatter_init) (He.DefD.dvs K d_Formatter_init) [] (fAd K ("Formatter", some "__init__")) fd := T.says.d.def_ 53 (d := d_Formatter_init) rfl
theorem df_Handler_init (T : Txt w K mg) : ∃ fd, FunD K "__init__" "Handler.__init__" (defArgs s_Handler_init) (defBody s_Handler_init) (defScope s_Handler_init) (He.DefD.dvs K d_Handler_init) [] (fAd K ("Handler", some "__init__")) fd := T.says.d.def_ 54 (d := d_Handler_init) rfl
theorem df_Handler_setLevel (T : Txt w K mg) : ∃ fd, FunD K "setLevel" "Handler.setLevel" (defArgs s_Handler_setLevel) (defBody s_Handler_setLevel) (defScope s_Handler_setLevel) (He.DefD.dvs K d_Handler_setLevel) [] (fAd K ("Handler", some "setLevel")) fd := T.says.d.def_ 55 (d := d_Handler_setLevel) rfl
theorem df_Handler_setFormatter (T : Txt w K mg) : ∃ fd, FunD K "setFormatter" "Handler.setFormatter" (defArgs s_Handler_setFormatter) (defBody s_Handler_setFormatter) (defScope s_Handler_setFormatter) (He.DefD.dvs K d_Handler_setFormatter) [] (fAd K ("Handler", some "setFormatter")) fd := T.says.d.def_ 56 (d := d_Handler_setFormatter) rfl
theorem df_Handler_setTerminator (T : Txt w K mg) : ∃ fd, FunD K "setTerminator" "Handler.setTerminator" (defArgs s_Handler_setTerminator) (defBody s_Handler_setTerminator) (defScope s_Handler_setTerminator) (He.DefD.dvs K d_Handler_setTerminator) [] (fAd K ("Handler", some "setTerminator")) fd := T.says.d.def_ 57 (d := d_Handler_setTerminator) rfl
theorem df_StreamHandler_init (T : Txt w K mg) : ∃ fd, FunD K "__init__" "StreamHandler.__init__" (defArgs s_StreamHandler_init) (defBody s_StreamHandler_init) (defScope s_StreamHandler_init) (He.DefD.dvs K d_StreamHandler_init) [] (fAd K ("StreamHandler", some "__init__")) fd := T.says.d.def_ 58 (d := d_StreamHandler_init) rfl
theorem df_Logger_init (T : Txt w K mg) : ∃ fd, FunD K "__init__" "Logger.__init__" (defArgs s_Logger_init) (defBody s_Logger_init) (defScope s_Logger_init) (He.DefD.dvs K d_Logger_init) [] (fAd K ("Logger", some "__init__")) fd := T.says.d.def_ 59 (d := d_Logger_init) rfl
theorem df_Logger_setLevel (T : Txt w K mg) : ∃ fd, FunD K "setLevel" "Logger.setLevel" (defArgs s_Logger_setLevel) (defBody s_Logger_setLevel) (defScope s_Logger_setLevel) (He.DefD.dvs K d_Logger_setLevel) [] (fAd K ("Logger", some "setLevel")) fd := T.says.d.def_ 60 (d := d_Logger_setLevel) rfl
theorem df_Logger_setPropagate (T : Txt w K mg) : ∃ fd, FunD K "setPropagate" "Logger.setPropagate" (defArgs s_Logger_setPropagate) (defBody s_Logger_setPropagate) (defScope s_Logger_setPropagate) (He.DefD.dvs K d_Logger_setPropagate) [] (fAd K ("Logger", some "setPropagate")) fd := T.says.d.def_ 61 (d := d_Logger_setPropagate) rfl
theorem df_Logger_setDisabled (T : Txt w K mg) : ∃ fd, FunD K "setDisabled" "Logger.setDisabled" (defArgs s_Logger_setDisabled) (defBody s_Logger_setDisabled) (defScope s_Logger_setDisabled) (He.DefD.dvs K d_Logger_setDisabled) [] (fAd K ("Logger", some "setDisabled")) fd := T.says.d.def_ 62 (d := d_Logger_setDisabled) rfl
theorem df_Logger_getEffectiveLevel (T : Txt w K mg) : ∃ fd, FunD K "getEffectiveLevel" "Logger.getEffectiveLevel" (defArgs s_Logger_getEffectiveLevel) (defBody s_Logger_getEffectiveLevel) (defScope s_Logger_getEffectiveLevel) (He.DefD.dvs K d_Logger_getEffectiveLevel) [] (fAd K ("Logger", some "getEffectiveLevel")) fd := T.says.d.def_ 63 (d := d_Logger_getEffectiveLevel) rfl
theorem df_Logger_addHandler (T : Txt w K mg) : ∃ fd, FunD K "addHandler" "Logger.addHandler" (defArgs s_Logger_addHandler) (defBody s_Logger_addHandler) (defScope s_Logger_addHandler) (He.DefD.dvs K d_Logger_addHandler) [] (fAd K ("Logger", some "addHandler")) fd := T.says.d.def_ 64 (d := d_Logger_addHandler) rfl
theorem df_Logger_reached (T : Txt w K mg) : ∃ fd, FunD K "reached" "Logger.reached" (defArgs s_Logger_reached) (defBody s_Logger_reached) (defScope s_Logger_reached) (He.DefD.dvs K d_Logger_reached) [] (fAd K ("Logger", some "reached")) fd := T.says.d.def_ 65 (d := d_Logger_reached) rfl
theorem df_Yard_init (T : Txt w K mg) : ∃ fd, FunD K "__init__" "Yard.__init__" (defArgs s_Yard_init) (defBody s_Yard_init) (defScope s_Yard_init) (He.DefD.dvs K d_Yard_init) [] (fAd K ("Yard", some "__init__")) fd := T.says.d.def_ 66 (d := d_Yard_init) rfl
theorem df_Yard_add_level_name (T : Txt w K mg) : ∃ fd, FunD K "add_level_name" "Yard.add_level_name" (defArgs s_Yard_add_level_name) (defBody s_Yard_add_level_name) (defScope s_Yard_add_level_name) (He.DefD.dvs K d_Yard_add_level_name) [] (fAd K ("Yard", some "add_level_name")) fd := T.says.d.def_ 67 (d := d_Yard_add_level_name) rfl
theorem df_Yard_level_name (T : Txt w K mg) : ∃ fd, FunD K "level_name" "Yard.level_name" (defArgs s_Yard_level_name) (defBody s_Yard_level_name) (defScope s_Yard_level_name) (He.DefD.dvs K d_Yard_level_name) [] (fAd K ("Yard", some "level_name")) fd := T.says.d.def_ 68 (d := d_Yard_level_name) rfl
theorem df_Yard_level_of (T : Txt w K mg) : ∃ fd, FunD K "level_of" "Yard.level_of" (defArgs s_Yard_level_of) (defBody s_Yard_level_of) (defScope s_Yard_level_of) (He.DefD.dvs K d_Yard_level_of) [] (fAd K ("Yard", some "level_of")) fd := T.says.d.def_ 69 (d := d_Yard_level_of) rfl
theorem df_Yard_getLogger (T : Txt w K mg) : ∃ fd, FunD K "getLogger" "Yard.getLogger" (defArgs s_Yard_getLogger) (defBody s_Yard_getLogger) (defScope s_Yard_getLogger) (He.DefD.dvs K d_Yard_getLogger) [] (fAd K ("Yard", some "getLogger")) fd := T.says.d.def_ 70 (d := d_Yard_getLogger) rfl
theorem df_Yard_loggers (T : Txt w K mg) : ∃ fd, FunD K "loggers" "Yard.loggers" (defArgs s_Yard_loggers) (defBody s_Yard_loggers) (defScope s_Yard_loggers) (He.DefD.dvs K d_Yard_loggers) [] (fAd K ("Yard", some "loggers")) fd := T.says.d.def_ 71 (d := d_Yard_loggers) rfl
theorem df_Yard_disable (T : Txt w K mg) : ∃ fd, FunD K "disable" "Yard.disable" (defArgs s_Yard_disable) (defBody s_Yard_disable) (defScope s_Yard_disable) (He.DefD.dvs K d_Yard_disable) [] (fAd K ("Yard", some "disable")) fd := T.says.d.def_ 72 (d := d_Yard_disable) rfl
theorem df_Yard_enrol (T : Txt w K mg) : ∃ fd, FunD K "enrol" "Yard.enrol" (defArgs s_Yard_enrol) (defBody s_Yard_enrol) (defScope s_Yard_enrol) (He.DefD.dvs K d_Yard_enrol) [] (fAd K ("Yard", some "enrol")) fd := T.says.d.def_ 73 (d := d_Yard_enrol) rfl
theorem exs (T : Txt w K mg) : cfnB K "Filterer" "__init__" = true ∧ cfnB K "Handler" "__init__" = true ∧ dicKB K (ga K "FIRST_NAMES") kvNames = true ∧ dicKB K (ga K "FIRST_NUMBERS") kvNumbers = true ∧ dicKB K (ga K "MESSAGE_ALONE") kvAlone = true ∧ inhB K inhs = true ∧ cmpB K cmps = true ∧ kitsB K kits = true ∧ kit2B K kit2 = true ∧ tupsB K tups = true := by
  obtain ⟨a, h⟩ := ba T.more
  obtain ⟨b, h⟩ := ba h
  obtain ⟨c, h⟩ := ba h
  obtain ⟨d, h⟩ := ba h
  obtain ⟨e, h⟩ := ba h
  obtain ⟨f, h⟩ := ba h
  obtain ⟨g, h⟩ := ba h
  obtain ⟨i, h⟩ := ba h
  obtain ⟨j, h⟩ := ba h
  exact ⟨a, b, c, d, e, f, g, i, j, h⟩
theorem cf_Filterer_init (T : Txt w K mg) : CFn K (ga K "Filterer") "__init__" (ma K (ga K "Filterer") "__init__") := cfn_ok T.exs.1
theorem cf_Handler_init (T : Txt w K mg) : CFn K (ga K "Handler") "__init__" (ma K (ga K "Handler") "__init__") := cfn_ok T.exs.2.1
theorem hashes (T : Txt w K mg) (i : Nat) {t : Tab} (h : ts[i]? = some t := by rfl) : ∀ oc od es n sl, K.lookup (t.1 K) = some ⟨oc, od, .dict es n, sl⟩ → ∀ e ∈ es.toList, ∀ x u, e.key = .str x u → e.hash = hashStr w x := fun oc od es n sl q e he x u hx => by
  obtain ⟨es', n', D⟩ := T.says.tab i h
  have z := D.at_
  rw [q] at z
  cases z
  obtain ⟨y, v, e1, e2⟩ := D.lit.all e he
  rw [hx] at e1
  cases e1
  exact e2
theorem d_NAMES {P : Program} {h : Heap} (T : Txt w K mg) (X : K.In h) : (ga K "FIRST_NAMES" == sysModules) = false ∧ ∃ vs, KV kvNames vs ∧ h.DictOf (mixKind P w) (ga K "FIRST_NAMES") vs := dicKB_okI T.exs.2.2.1 X
theorem d_NUMBERS {P : Program} {h : Heap} (T : Txt w K mg) (X : K.In h) : (ga K "FIRST_NUMBERS" == sysModules) = false ∧ ∃ vs, KV kvNumbers vs ∧ h.DictOf (mixKind P w) (ga K "FIRST_NUMBERS") vs := dicKB_ok T.exs.2.2.2.1 X (T.hashes 0)
theorem d_ALONE {P : Program} {h : Heap} (T : Txt w K mg) (X : K.In h) : (ga K "MESSAGE_ALONE" == sysModules) = false ∧ ∃ vs, KV kvAlone vs ∧ h.DictOf (mixKind P w) (ga K "MESSAGE_ALONE") vs := dicKB_ok T.exs.2.2.2.2.1 X (T.hashes 1)
theorem in_Handler_addFilter (T : Txt w K mg) : ma K (ga K "Handler") "addFilter" = ma K (ga K "Filterer") "addFilter" := inh_ok T.exs.2.2.2.2.2.1 (by simp [inhs])
theorem in_StreamHandler_setLevel (T : Txt w K mg) : ma K (ga K "StreamHandler") "setLevel" = ma K (ga K "Handler") "setLevel" := inh_ok T.exs.2.2.2.2.2.1 (by simp [inhs])
theorem in_StreamHandler_setFormatter (T : Txt w K mg) : ma K (ga K "StreamHandler") "setFormatter" = ma K (ga K "Handler") "setFormatter" := inh_ok T.exs.2.2.2.2.2.1 (by simp [inhs])
theorem in_StreamHandler_setTerminator (T : Txt w K mg) : ma K (ga K "StreamHandler") "setTerminator" = ma K (ga K "Handler") "setTerminator" := inh_ok T.exs.2.2.2.2.2.1 (by simp [inhs])
theorem in_StreamHandler_addFilter (T : Txt w K mg) : ma K (ga K "StreamHandler") "addFilter" = ma K (ga K "Filterer") "addFilter" := inh_ok T.exs.2.2.2.2.2.1 (by simp [inhs])
theorem in_NullHandler_init (T : Txt w K mg) : ma K (ga K "NullHandler") "__init__" = ma K (ga K "Handler") "__init__" := inh_ok T.exs.2.2.2.2.2.1 (by simp [inhs])
theorem in_NullHandler_setLevel (T : Txt w K mg) : ma K (ga K "NullHandler") "setLevel" = ma K (ga K "Handler") "setLevel" := inh_ok T.exs.2.2.2.2.2.1 (by simp [inhs])
theorem in_NullHandler_setFormatter (T : Txt w K mg) : ma K (ga K "NullHandler") "setFormatter" = ma K (ga K "Handler") "setFormatter" := inh_ok T.exs.2.2.2.2.2.1 (by simp [inhs])
theorem in_NullHandler_setTerminator (T : Txt w K mg) : ma K (ga K "NullHandler") "setTerminator" = ma K (ga K "Handler") "setTerminator" := inh_ok T.exs.2.2.2.2.2.1 (by simp [inhs])
theorem in_NullHandler_addFilter (T : Txt w K mg) : ma K (ga K "NullHandler") "addFilter" = ma K (ga K "Filterer") "addFilter" := inh_ok T.exs.2.2.2.2.2.1 (by simp [inhs])
theorem in_Logger_addFilter (T : Txt w K mg) : ma K (ga K "Logger") "addFilter" = ma K (ga K "Filterer") "addFilter" := inh_ok T.exs.2.2.2.2.2.1 (by simp [inhs])
theorem cc_Filter (T : Txt w K mg) : CmpC K (ga K "Filter") := cmp_ok T.exs.2.2.2.2.2.2.1 (by simp [cmps])
theorem cc_Field (T : Txt w K mg) : CmpC K (ga K "Field") := cmp_ok T.exs.2.2.2.2.2.2.1 (by simp [cmps])
theorem cc_Formatter (T : Txt w K mg) : CmpC K (ga K "Formatter") := cmp_ok T.exs.2.2.2.2.2.2.1 (by simp [cmps])
theorem cc_StreamHandler (T : Txt w K mg) : CmpC K (ga K "StreamHandler") := cmp_ok T.exs.2.2.2.2.2.2.1 (by simp [cmps])
theorem cc_NullHandler (T : Txt w K mg) : CmpC K (ga K "NullHandler") := cmp_ok T.exs.2.2.2.2.2.2.1 (by simp [cmps])
theorem cc_Logger (T : Txt w K mg) : CmpC K (ga K "Logger") := cmp_ok T.exs.2.2.2.2.2.2.1 (by simp [cmps])
theorem cc_Yard (T : Txt w K mg) : CmpC K (ga K "Yard") := cmp_ok T.exs.2.2.2.2.2.2.1 (by simp [cmps])
theorem ki_Field_str (T : Txt w K mg) : PySem.W.kitOne K (.ref (ga K "Field")) (.type "str") = some false := kits_ok T.exs.2.2.2.2.2.2.2.1 (by simp [kits])
theorem ki_Field_int (T : Txt w K mg) : PySem.W.kitOne K (.ref (ga K "Field")) (.type "int") = some false := kits_ok T.exs.2.2.2.2.2.2.2.1 (by simp [kits])
theorem ki_Field_bool (T : Txt w K mg) : PySem.W.kitOne K (.ref (ga K "Field")) (.type "bool") = some false := kits_ok T.exs.2.2.2.2.2.2.2.1 (by simp [kits])
theorem ki_Field_tuple (T : Txt w K mg) : PySem.W.kitOne K (.ref (ga K "Field")) (.type "tuple") = some false := kits_ok T.exs.2.2.2.2.2.2.2.1 (by simp [kits])
theorem ki_Field_list (T : Txt w K mg) : PySem.W.kitOne K (.ref (ga K "Field")) (.type "list") = some false := kits_ok T.exs.2.2.2.2.2.2.2.1 (by simp [kits])
theorem k2_NullHandler_StreamHandler (T : Txt w K mg) : PySem.W.kitOne K (.ref (ga K "NullHandler")) (.ref (ga K "StreamHandler")) = some false := kit2_ok T.exs.2.2.2.2.2.2.2.2.1 (by simp [kit2])
theorem tu_NAME (T : Txt w K mg) (H : Hp) : SqT K H (ga K "NAME") ((["name"] : List Str).map V.str) := tups_ok T.exs.2.2.2.2.2.2.2.2.2 (by simp [tups]) H
theorem tu_LEVEL (T : Txt w K mg) (H : Hp) : SqT K H (ga K "LEVEL") ((["level"] : List Str).map V.str) := tups_ok T.exs.2.2.2.2.2.2.2.2.2 (by simp [tups]) H
theorem tu_MESSAGE (T : Txt w K mg) (H : Hp) : SqT K H (ga K "MESSAGE") ((["message"] : List Str).map V.str) := tups_ok T.exs.2.2.2.2.2.2.2.2.2 (by simp [tups]) H
theorem tu_PLAIN_FIELDS (T : Txt w K mg) (H : Hp) : SqT K H (ga K "PLAIN_FIELDS") ((["name", "levelno", "levelname", "message"] : List Str).map V.str) := tups_ok T.exs.2.2.2.2.2.2.2.2.2 (by simp [tups]) H
end Txt
end Ry
namespace Ry
open PySem PySem.W PySem.Calls PyProof.Rows He RyH
abbrev R : OpenRow := OpenLaw.row PySem.Challenge.rw_recordyard_k80_outcomes
abbrev qv : Program := view R.prog [lawPlace]
def tf : List Defn := []
abbrev hk : Hook := hookR need fa fn ts tf ex
def ob (s : SharedT) : AlX := obsR need fa fn ts tf ex (HandSHeadRun.getT s)
theorem runF (w : World) : HandSHeadRun.RunEq R qv hk ob 40000 names (w.withFollow "special-get-raises" false) := by
  intro os
  kernel_rfl
theorem runT (w : World) : HandSHeadRun.RunEq R qv hk ob 40000 names (w.withFollow "special-get-raises" true) := by
  intro os
  kernel_rfl
theorem run (w : World) : HandSHeadRun.RunEq R qv hk ob 40000 names w :=
  byRow2 "special-get-raises" (P := fun w => HandSHeadRun.RunEq R qv hk ob 40000 names w) runF runT w
theorem ob_eq (s : SharedT) : ob s = hk.obs s.abs := obsR_eq (HandSHeadRun.getT_eq s)
end Ry
set_option maxHeartbeats 4000000
/-! Rules that the layer lacks: in, not in over lists of own instances; d.update(d2). -/
namespace RyR
open PySem PySem.Spec PyProof.Rows
open L2 hiding St
open RyH
abbrev Looks := @PySem.W.Looks
abbrev St := L2.St
theorem mro_any {K : PySem.W.Frag} {C : Addr} {r : Bool} (h : PySem.W.mroIn K C (.type "object") = some r) (base : Value) : ∃ b, PySem.W.mroIn K C base = some b := by
  unfold PySem.W.mroIn at h ⊢
  obtain ⟨cd, a, b⟩ := Option.bind_eq_some_iff.mp h
  rw [a]
  show ∃ b, (if cd.mro.isEmpty = true then none else some (cd.mro.contains base)) = some b
  split at b
  · cases b
  · rename_i q
    exact ⟨_, if_neg q⟩
/-- the thing at a is of the type T and compares by identity -/
structure Idt (K : PySem.W.Frag) (s : Shared) (a : Addr) (T : Value) : Prop where
  at_ : ∃ o, s.heap.get? a = some o ∧ o.cls = T
  nt : T ≠ .type "tuple"
  ty : ∀ M, Looks M s.heap (typeOf (.ref a)) T
  sub : ∀ base, ∃ b, PySem.W.subIn K T base = some b
  try_ : ∀ (prog : Program) (w : World) (A : Around) (E : Value → Shared → Prop) b ob, s.heap.get? b = some ob → a ≠ b → wpAny (model prog w) A (tryCompare (.ref a) "__eq__" (.ref b)) (fun r s' => r = none ∧ s' = s) E s
theorem idt_ins {K : PySem.W.Frag} {s : Shared} {a C : Addr} {o : Obj} {od : Option Obj} (X : K.In s.heap) (I : PySem.W.InstAt s.heap a o C od) (c : CmpC K C) : Idt K s a (.ref C) := by
  refine ⟨⟨o, I.at_, I.cls⟩, fun z => (by cases z), fun M => I.type, fun base => mro_any c.ob base, fun prog w A E b ob hb hne => ?_⟩
  unfold tryCompare
  refine wpAny_bind (HN.ifBound_objEq X I c.eq ?_)
  refine wpAny_call (codeAny_call_builtin F.cmp_object.eq.plain F.cmpEntry_eq (PySem.W.check_slot F.cmpKind_eq F.cmpSplit_eq (I.type.andThen (PySem.W.looks_mroIn X c.ob)) (F.cmpArgs_eq _ _) ?_))
  refine objEq_entry_other hne I.at_ hb (by rw [I.cls]; intro z; cases z) ?_
  exact wpAny_pure ⟨rfl, rfl⟩
theorem rc_other {K : PySem.W.Frag} {A : Around} {s : Shared} {a b : Addr} {T U : Value} (hu : A.units < cLine) (X : K.In s.heap) (ha : Idt K s a T) (hb : Idt K s b U) (hne : a ≠ b) : SeqAt.RcAt A s (.ref a) (.ref b) false := fun prog w E Q h => by
  obtain ⟨oa, ea, ca⟩ := ha.at_
  obtain ⟨ob, eb, cb⟩ := hb.at_
  have one := ha.try_ prog w A E b ob eb hne
  have two := hb.try_ prog w A E a oa ea (Ne.symm hne)
  have fin : ∀ {k : Bool → Sem Value}, k false = pure (.bool false) → wpAny (model prog w) A (isSame (.ref a) (.ref b) >>= k) Q E s := fun {k} e =>
    wpAny_bind (wpAny_isSame_ref_other hne ea eb (by rw [ca]; exact ha.nt) (by rw [e]; exact wpAny_pure h))
  simp only [richCompare, cmpInfo_Eq, oneThing_ref]
  refine wpAny_holding (wpAny_bind (wpAny_cRoomFor hu ?_))
  refine wpAny_bind ((ha.ty _).here ?_)
  refine wpAny_bind ((hb.ty _).here ?_)
  have rest : ∀ r : Bool, wpAny (model prog w) A (do
      if r = true then
        if let some v ← tryCompare (.ref b) "__eq__" (.ref a) then rule "compare.subclass-reflected-first"; return v
      if let some v ← tryCompare (.ref a) "__eq__" (.ref b) then return v
      if (!r) = true then
        if let some v ← tryCompare (.ref b) "__eq__" (.ref a) then return v
      rule "compare.eq-identity"; return .bool (← isSame (.ref a) (.ref b))) Q E s := fun r => by
    cases r
    · simp only [Bool.false_eq_true, if_false, Bool.not_false, if_true]
      refine wpAny_bind (m := tryCompare (.ref a) _ (.ref b)) (wpAny_mono one (fun r s1 z => ?_) fun _ _ e => e)
      obtain ⟨z1, z2⟩ := z
      subst z1
      subst z2
      refine wpAny_bind (m := tryCompare (.ref b) _ (.ref a)) (wpAny_mono two (fun r s2 z => ?_) fun _ _ e => e)
      obtain ⟨z1, z2⟩ := z
      subst z1
      subst z2
      exact wpAny_bind (wpAny_rule (fin rfl))
    · simp only [Bool.not_true, Bool.false_eq_true, if_false, if_true]
      refine wpAny_bind (m := tryCompare (.ref b) _ (.ref a)) (wpAny_mono two (fun r s1 z => ?_) fun _ _ e => e)
      obtain ⟨z1, z2⟩ := z
      subst z1
      subst z2
      refine wpAny_bind (m := tryCompare (.ref a) _ (.ref b)) (wpAny_mono one (fun r s2 z => ?_) fun _ _ e => e)
      obtain ⟨z1, z2⟩ := z
      subst z1
      subst z2
      exact wpAny_bind (wpAny_rule (fin rfl))
  split
  · obtain ⟨r, er⟩ := hb.sub T
    exact wpAny_bind ((PySem.W.looks_subIn X er).here (rest r))
  · exact wpAny_bind (wpAny_pure (rest false))
theorem idt_eq {K : PySem.W.Frag} {A : Around} {s : Shared} {a b : Addr} {T U : Value} (hu : A.units < cLine) (X : K.In s.heap) (ha : Idt K s a T) (hb : Idt K s b U) : SeqAt.EqAt A s (.ref a) (.ref b) (decide (a = b)) := by
  by_cases e : a = b
  · subst e
    rw [decide_eq_true rfl]
    exact SeqAt.EqAt.same _
  · rw [decide_eq_false e]
    exact SeqAt.EqAt.of_refs e (rc_other hu X ha hb e)
/-- a function, known by its class alone -/
def FnO (a : Addr) : HO := .ext fun h => ∃ o, h.get? a = some o ∧ o.cls = .type "function"
/-- an instance that compares by identity, or a function -/
def CmpV (K : PySem.W.Frag) (H : Hp) (a : Addr) : Prop := (∃ C dx fs, H a = some (.ins C dx fs) ∧ CmpC K C) ∨ H a = some (FnO a)
theorem slot_fn_eq : Slot "function" "__eq__" "object.__eq__" := .of (owner := "object") (n := "__eq__") (by rw [typeLookup_type, builtinLookup_eq_fast]; kernel_rfl) (by decide +kernel) (by decide +kernel) (by decide +kernel)
    (by first | exact .inl (by decide +kernel) | exact .inr (by decide +kernel)) (by rw [isSubtype_type]; kernel_rfl)
theorem fn_sub (K : PySem.W.Frag) (base : Value) : ∃ b, PySem.W.subIn K (.type "function") base = some b := by
  have e : fastBuiltinMro "function" = some [.type "function", .type "object"] := by decide +kernel
  show ∃ b, (fastBuiltinMro "function").map (·.contains base) = some b
  rw [e]
  exact ⟨_, rfl⟩
theorem idt_fn {K : PySem.W.Frag} {s : Shared} {a : Addr} {o : Obj} (e : s.heap.get? a = some o) (c : o.cls = .type "function") : Idt K s a (.type "function") := by
  refine ⟨⟨o, e, c⟩, (by decide), fun M => ?_, fun base => fn_sub K base, fun prog w A E b ob hb hne => ?_⟩
  · exact c ▸ (PySem.W.Looks.ld e).andThen .now
  · have t : s.TypeIs (.ref a) "function" := ⟨o, e, c⟩
    refine wpAny_tryCompare_declines t slot_fn_eq (wpAny_call (codeAny_call_builtin slot_fn_eq.plain F.cmpEntry_eq (slot_fn_eq.check _ _ _ _ _ _ _ _ t (F.cmpArgs_eq _ _) ?_)))
    refine objEq_entry_other hne e hb (by rw [c]; decide) ?_
    exact ⟨rfl, rfl, rfl⟩
section
variable {X : Cx}
theorem idt_of {pins : List (Addr × Obj)} {σ : St} {H : Hp} {s : Shared} {a : Addr} (I : Inv X pins σ H s) (c : CmpV X.K H a) : ∃ T, Idt X.K s a T := by
  rcases c with ⟨C, dx, fs, e, c⟩ | e
  · obtain ⟨mA, O, _⟩ := ins_get I.hok e
    obtain ⟨od, J, _⟩ := O.look
    exact ⟨_, idt_ins I.kIn J c⟩
  · obtain ⟨⟨o, e1, e2⟩, _⟩ := I.hok a _ e
    exact ⟨_, idt_fn e1 e2⟩
def refIs (a : Addr) : Value → Bool
  | .ref b => decide (b = a)
  | _ => false
theorem any_ref {a : Addr} : ∀ {ps : List Addr} {us : List Value}, Vals (ps.map V.ref) us → us.any (refIs a) = decide (a ∈ ps)
  | [], _, .nil => by simp
  | p :: ps, _, .cons r t => by
    cases r
    rw [List.any_cons, any_ref t]
    by_cases e : p = a
    · subst e
      simp [refIs]
    · have e2 : ¬ a = p := fun z => e z.symm
      simp [refIs, e, e2]
theorem mem_ref {A : Around} {pins : List (Addr × Obj)} {σ : St} {H : Hp} {s : Shared} {a : Addr} (hu : A.units < cLine) (I : Inv X pins σ H s) (c : CmpV X.K H a) : ∀ {ps : List Addr} {us : List Value}, Vals (ps.map V.ref) us → (∀ p ∈ ps, CmpV X.K H p) →
    ∀ u ∈ us, SeqAt.EqAt A s u (.ref a) (refIs a u)
  | [], _, .nil, _ => fun u hu' => by cases hu'
  | p :: ps, _, .cons r t, f => fun u' hu' => by
    rcases List.mem_cons.mp hu' with e | hu'
    · subst e
      cases r
      obtain ⟨T, ha⟩ := idt_of I c
      obtain ⟨U, hb⟩ := idt_of I (f p (List.mem_cons_self ..))
      exact idt_eq hu I.kIn hb ha
    · exact mem_ref hu I c t (fun z hz => f z (List.mem_cons_of_mem _ hz)) u' hu'
/-- x in ps: own instances or functions, by identity -/
def rInI (K : PySem.W.Frag) (neg : Bool) : R2 := fun x y H Q => ∃ (p a : Addr) (ps : List Addr), x = .ref a ∧ y = .ref p ∧ SqL K H p (ps.map V.ref) ∧ CmpV K H a ∧ (∀ z ∈ ps, CmpV K H z) ∧ Q (.bl (if neg then !decide (a ∈ ps) else decide (a ∈ ps))) H
theorem op_inI (hu : X.A.units + 64 < cLine) : OpR X (compareOp .In) (rInI X.K false) := by
  intro pins s σ H x y v u Q I rx ry h
  obtain ⟨p, a, ps, rfl, rfl, hq, c, f, q⟩ := h
  cases rx
  cases ry
  obtain ⟨its, rv, hl, _⟩ := I.list hq
  have hu1 : X.A.in1.units < cLine := by show X.A.units + 1 < cLine; omega
  refine SeqAt.in_listAt (refIs a) hl.isList (fun z hz => mem_ref hu1 I c rv f z (by simpa using hz)) ⟨.bl _, H, I, rfl, ?_⟩
  rw [show its.toArray.any (refIs a) = its.any (refIs a) by simp, any_ref rv]
  exact q
theorem op_notInI (hu : X.A.units + 64 < cLine) : OpR X (compareOp .NotIn) (rInI X.K true) := by
  intro pins s σ H x y v u Q I rx ry h
  obtain ⟨p, a, ps, rfl, rfl, hq, c, f, q⟩ := h
  cases rx
  cases ry
  obtain ⟨its, rv, hl, _⟩ := I.list hq
  have hu1 : X.A.in1.units < cLine := by show X.A.units + 1 < cLine; omega
  refine SeqAt.notIn_listAt (refIs a) hl.isList (fun z hz => mem_ref hu1 I c rv f z (by simpa using hz)) ⟨.bl _, H, I, rfl, ?_⟩
  rw [show its.toArray.any (refIs a) = its.any (refIs a) by simp, any_ref rv]
  exact q
end
/-! ### d.update(d2), keys ints and texts -/
def tDUpd (td ty : TE) : TE := fun σ H Q => td σ H fun x H1 => ∃ a, x = .ref a ∧ IsD H1 a ∧ ty σ H1 fun y H2 => ∃ (o : Addr) (kvs more : List (Key × V)), y = .ref o ∧ a ≠ o ∧ H2 a = some (.dK kvs) ∧ H2 o = some (.dK more) ∧ kvs.length + more.length ≤ sizeLine ∧ Q .non (upd H2 a (.dK (mergeK kvs more)))
section
variable {X : Cx} {pins : List (Addr × Obj)} {σ : St} {H : Hp} {s : Shared} {a b : Addr} {kvs more : List (Key × V)} {A : Around} {E : Value → Shared → Prop}
theorem d_update {Q : Value → Shared → Prop} (I : Inv X pins σ H s) (hne : a ≠ b) (e : H a = some (.dK kvs)) (e2 : H b = some (.dK more)) (hz : kvs.length + more.length ≤ sizeLine) (h : ∀ s', Inv X pins σ (upd H a (.dK (mergeK kvs more))) s' → Q .none s') :
    wpAny (model X.prog X.w) A (call (.builtin "dict.update") [.ref a, .ref b]) Q E s := by
  obtain ⟨z1, hd, vs, rel, dd⟩ := dk_of I.hok e
  obtain ⟨z2, hd2, ws, rel2, dd2⟩ := dk_of I.hok e2
  have hl : (mergeK kvs more).length ≤ sizeLine := Nat.le_trans (length_mergeK more kvs) hz
  refine call_meetsIn PySem.F.slot_dict_update dd.typeIs PySem.F.entry_dict_update (PySem.F.args_dict_update_2 _ _) (meets_dict_update (mixKind X.prog X.w) a b hne hd2) ⟨vs, ws, dd, dd2, by rw [← rel.length, ← rel2.length]; exact hz, fun h' dd' _ hs => h _ ?_⟩
  have he : ∃ q, h'.get? a = some q := let ⟨q, _, _, hq, _⟩ := dd'; ⟨q, hq⟩
  exact d_write I (by rw [e]; exact True.intro) hs he (dk_new hl hd (rel2.merge rel) dd')
end
section
variable {X : Cx} {o e : Expr} {apos cpos : Pos} {td ty : TE}
theorem pe_dupd (ho : PE X o td) (he : PE X e ty) (m : M1 X o "update" apos e cpos) : PE X (.Call (.Attribute o "update" apos) [e] [] cpos) (tDUpd td ty) := by
  refine ⟨fun pins s σ H Q I h => ?_⟩
  refine wpAny_Call_method m.base m.few m.line PySem.F.plainAttrs_dict PySem.F.slot_dict_update PySem.F.type_dict_update (thn (ho.run pins s σ H _ I h) fun u s1 ⟨x, H1, I1, rx, a, ex, d, q1⟩ => ?_)
  subst ex
  obtain rfl : u = Value.ref a := rx
  obtain ⟨t1, t2, _⟩ := isD_at I1 d
  refine ⟨t1, t2, ?_⟩
  rw [m.trees]
  refine Calls.callWith_builtin rfl (Calls.evalArgs_plain (Calls.spliced_cons (thn (he.run pins s1 σ H1 _ I1 q1) fun iv s2 ⟨y, H2, I2, ry, b, kvs, more, ey, hne, e1, e2, hz, q2⟩ => Calls.spliced_nil ?_)))
  subst ey
  obtain rfl : iv = Value.ref b := ry
  exact d_update I2 hne e1 e2 hz fun s3 I3 => ⟨.non, _, I3, rfl, q2⟩
end
end RyR
/-! One token out: for with such a body, if, x = e, a + e, text.replace('..', '..') of two written texts. -/
namespace RyT
open PySem PySem.Spec PyProof.Rows
open L2 hiding St
abbrev St := L2.St
theorem thnT {α : Type} {M : Model} {A : Around} {t : Sem α} {Q Q' : α → Shared → Prop} {E : Value → Shared → Prop} {s : Shared} (h : wpAny M A t Q E s) (h0 : 1 ≤ s.toks) (f : ∀ v s1, 1 ≤ s1.toks → Q v s1 → Q' v s1) : wpAny M A t Q' E s :=
  wpAny_mono (PySem.wpAny_toks h) (fun v s1 q => f v s1 (Nat.le_trans h0 q.1) q.2) fun _ _ x => x.2
section
variable {X : Cx} {st : Stmt} {rest : List Stmt} {t u : TS}
theorem psst_one (h : PST X st t) : PSsT X [st] t := by
  intro pins s σ H D h0 I q
  refine wpAny_execs_cons (thn (h pins s σ H D h0 I q) fun f s1 q => ?_)
  cases f with
  | next =>
    obtain ⟨σ', H', I', q⟩ := q
    exact wpAny_execs_nil ⟨σ', H', I', q⟩
  | ret v => exact q
  | brk => exact q
  | cont => exact q
theorem pst_forT {tg iter : Expr} {body : List Stmt} {wi : TI} {g : TG} {tb : TS} {pos : Pos} (hp : PassesOwn (model X.prog X.w) X.A X.env X.xe) (hc : X.calm = true) (hi : PI X tg iter wi) (hg : PG X tg g) (hb : PSsT X body tb)
    (hs : ∀ x, foldedSetIterable iter X.env x = pure x := by intro _; rfl) : PST X (.For tg iter body [] pos) (tFor wi g tb) := by
  intro pins s σ H D h0 I h
  refine wpAny_For (thnT (hi.run pins s σ H _ I h) h0 fun v s1 t1 h1 => thnT h1 t1 fun itv s2 t2 h2 => ?_) hs
  obtain ⟨it, fp, tn, J, H2, e, I2, T, st2, f2, W, ⟨m0, w0⟩, turn⟩ := h2
  subst e
  have stat : ∀ {H' : Hp}, (∀ b ∈ fp, H' b = none) → ∀ b ∈ fp, FpOk X pins H' b := fun hn b hb => ⟨hn b hb, (f2 b hb).2⟩
  refine codeAny_forLoop_any (fun n s' => 1 ≤ s'.toks ∧ ∃ i σ' H', Inv X pins σ' H' s' ∧ tn i s'.heap ∧ (∀ b ∈ fp, H' b = none) ∧ W i n σ' H') ?_ m0 ⟨t2, 0, σ, H2, I2, st2, fun b hb => (f2 b hb).1, w0⟩
  rintro n s3 ⟨t3, i, σ3, H3, I3, st3, fr3, w3⟩
  rcases turn i n σ3 H3 w3 with ⟨stop, qn⟩ | ⟨go, N, hN, step⟩
  · refine wpAny_passesOwn hp (thn (T.done X rfl rfl rfl hc i pins s3 σ3 H3 X.xe I3 (stat fr3) st3 stop) fun r s4 ⟨hr, I4⟩ => ?_)
    subst hr
    exact wpAny_execs_nil ⟨σ3, H3, I4, qn⟩
  · refine wpAny_passesOwn hp (thnT (T.item X rfl rfl rfl hc i pins s3 σ3 H3 X.xe I3 (stat fr3) st3 go) t3 fun r s4 t4 ⟨u, hr, h4⟩ => ?_)
    subst hr
    refine wpAny_passesOwn hp (thnT h4 t4 fun _ s5 t5 ⟨x, H5, I5, r5, y5, st5, fr5⟩ => ?_)
    have I5' := I5.pinned (stat fr5) (T.obj _ _ st5)
    refine wpAny_passesOwn hp (thnT (hg.run _ s5 σ3 H5 x u _ I5' r5 (step x H5 y5)) t5 fun _ s6 t6 ⟨σ6, H6, I6, q6⟩ => ?_)
    refine wpAny_passesOwn hp (thnT (hb _ s6 σ6 H6 _ t6 I6 q6) t6 fun f s7 t7 q7 => ?_)
    have again : ∀ {σ7 : St} {H7 : Hp}, Inv X (pins ++ pinsAt fp s5.heap) σ7 H7 s7 → N σ7 H7 → ∃ m, m < n ∧ (1 ≤ s7.toks ∧ ∃ i σ' H', Inv X pins σ' H' s7 ∧ tn i s7.heap ∧ (∀ b ∈ fp, H' b = none) ∧ W i m σ' H') := fun {σ7 H7} I7 n7 => by
      obtain ⟨m', hm, w7⟩ := hN σ7 H7 n7
      refine ⟨m', hm, t7, i + 1, σ7, H7, I7.unpinned, T.keep _ _ _ st5 fun b hb o e => (I7.pin (b, o) (List.mem_append_right _ (List.mem_append_right _ (mem_pinsAt hb e)))).1, fun b hb => ?_, w7⟩
      obtain ⟨o, e, d⟩ := T.obj _ _ st5 b hb
      exact (I7.pin (b, o) (List.mem_append_right _ (List.mem_append_right _ (mem_pinsAt hb e)))).2.1
    cases f with
    | next => obtain ⟨σ7, H7, I7, n7⟩ := q7; exact again I7 n7
    | cont => obtain ⟨σ7, H7, I7, n7⟩ := q7; exact again I7 n7
    | brk => obtain ⟨σ7, H7, I7, q7⟩ := q7; exact ⟨σ7, H7, I7.unpinned, q7⟩
    | ret v => obtain ⟨x7, σ7, H7, I7, r7, q7⟩ := q7; exact ⟨x7, σ7, H7, I7.unpinned, r7, q7⟩
end
section
variable {X : Cx} {pos : Pos} {t u : TS} {a b o : Expr} {ta tb to : TE}
theorem pst_if {c : Expr} {sa sb : List Stmt} {tc : TT} (hc : PT X c tc) (ha : PSsT X sa t) (hb : PSsT X sb u) : PST X (.If c sa sb pos) (tIfS tc t u) := by
  intro pins s σ H D h0 I h
  refine wpAny_If (thnT (hc.run pins s σ H _ I h) h0 fun d s1 t1 ⟨H1, I1, q1⟩ => ?_)
  cases d with
  | true => exact ha pins s1 σ H1 D t1 I1 q1
  | false => exact hb pins s1 σ H1 D t1 I1 q1
theorem pst_set {i : Nat} {x : Str} {e : Expr} {te : TE} {pos' : Pos} (hN : X.N.Nodup) (hi : X.N[i]? = some x) (hx : Loc X.env.scope x) (he : PET X e te) (hs : swapsWith e (some (.Name x pos')) pos.line X.env = pure false := by rfl) (hf : X.fn x = true ∨ X.env.scope.names.lookup x = some .local := by first | exact .inl rfl | exact .inr rfl | assumption) :
    PST X (.Assign [.Name x pos'] e pos) (tAsg te (gName i)) := by
  intro pins s σ H D h0 I h
  refine wpAny_Assign_Name (thn (he pins s σ H _ h0 I h) fun v s1 ⟨y, H1, I1, r1, q1⟩ => ?_) hs
  exact store_ok I1 hN hi hx r1 (fun s2 I2 => ⟨_, H1, I2, q1⟩) hf
theorem pet_of {te : TE} (h : PE X a te) : PET X a te := fun pins s σ H Q _ I q => h.run pins s σ H Q I q
theorem pet_op {op : Operator} {r : R2} (ho : OpR X (binaryOp op) r) (ha : PE X a ta) (hb : PET X b tb) : PET X (.BinOp a op b pos) (tOp r ta tb) := by
  intro pins s σ H Q h0 I h
  refine wpAny_BinOp (thnT (ha.run pins s σ H _ I h) h0 fun v s1 t1 ⟨x, H1, I1, rx, q1⟩ => ?_)
  exact thn (hb pins s1 σ H1 _ t1 I1 q1) fun u s2 ⟨y, H2, I2, ry, q2⟩ => ho pins s2 σ H2 x y v u Q I2 rx ry q2
/-- e.replace('..', '..') -/
def tRepl (to : TE) (y z : Str) : TE := fun σ H Q => to σ H fun x H1 => ∃ a, x = .str a ∧ a.length + (a.length + 1) * z.length ≤ 16777216 ∧ Q (.str (Txt.replace a y z)) H1
theorem pet_repl {y z : Str} {j0 j1 : Nat} {c0 c1 apos : Pos} (hyz : (y == z) = false) (ho : PET X o to) (hbase : attributeBase o "replace" X.env (eval o X.env) = eval o X.env := by rfl) (hline : (apos.endLine == pos.line) = true := by rfl)
    (hst : starEach [.Constant (.str y) j0 c0, .Constant (.str z) j1 c1] X.env = [(false, eval (.Constant (.str y) j0 c0) X.env), (false, eval (.Constant (.str z) j1 c1) X.env)] := by rfl) :
    PET X (.Call (.Attribute o "replace" apos) [.Constant (.str y) j0 c0, .Constant (.str z) j1 c1] [] pos) (tRepl to y z) := by
  intro pins s σ H Q h0 I h
  refine PySem.Call_method2 hbase hst hline (thnT (ho pins s σ H _ h0 I h) h0 fun v s1 t1 ⟨x, H1, I1, rx, q1⟩ => ?_)
  obtain ⟨a, e, hb, q⟩ := q1
  subst e
  obtain ⟨tx, e⟩ := rx
  subst e
  refine ⟨"str", _, F.plainAttrs_str, F.slot_str_replace, F.type_str_replace, typeIs_str _ _ _, (fun _ e => nomatch e), Calls.callWith_builtin rfl (Calls.evalArgs_plain (Calls.spliced_cons (Calls.Constant_str ?_)))⟩
  refine Calls.spliced_cons (Calls.Constant_str (Calls.spliced_nil ?_))
  exact PySem.SC.replace (show s1.toks ≠ 0 by omega) (show s1.toks + 1 ≠ 0 by omega) (show s1.toks ≠ s1.toks + 1 by omega) hyz hb fun t' k => ⟨.str (Txt.replace a y z), H1, I1.tok k, ⟨t', rfl⟩, q⟩
end
/-! ### an expression's end, said by oneself -/
def tCutE (te : TE) : TE := fun σ H Q => ∃ Mid : VK, te σ H Mid ∧ ∀ v H', Mid v H' → Q v H'
theorem pe_cutE {X : Cx} {e : Expr} {te : TE} (h : PE X e te) : PE X e (tCutE te) := ⟨fun pins s σ H Q I q => by
  obtain ⟨Mid, h1, h2⟩ := q
  exact thn (h.run pins s σ H Mid I h1) fun v s1 ⟨x, H1, I1, r, q⟩ => ⟨x, H1, I1, r, h2 x H1 q⟩⟩
end RyT
/-! xs != [], xs == [] of any items; xs[i] += text. -/
namespace RyN
open PySem PySem.Spec PyProof.Rows
open L2 hiding St
abbrev St := L2.St
section
variable {X : Cx}
def rNil (K : PySem.W.Frag) (neg : Bool) : R2 := fun x y H Q => ∃ (a b : Addr) (xs : List V), x = .ref a ∧ y = .ref b ∧ SqL K H a xs ∧ SqL K H b [] ∧ Q (.bl (if neg then !xs.isEmpty else xs.isEmpty)) H
theorem op_neNil (hu : X.A.units + 64 < cLine) : OpR X (compareOp .NotEq) (rNil X.K true) := by
  intro pins s σ H x y v u Q I rx ry h
  obtain ⟨a, b, xs, rfl, rfl, ha, hb, q⟩ := h
  cases rx
  cases ry
  obtain ⟨its, rv, pl, _⟩ := I.list ha
  obtain ⟨its2, rv2, pl2, _⟩ := I.list hb
  have e2 : its2 = [] := by
    have := rv2.length
    exact List.eq_nil_of_length_eq_zero this.symm
  subst e2
  have hu0 : X.A.units < cLine := by omega
  cases xs with
  | nil =>
    have e1 : its = [] := List.eq_nil_of_length_eq_zero rv.length.symm
    subst e1
    exact SeqAt.RcNeAt.lists (e := fun _ => true) pl.isList pl2.isList rfl hu0 (fun j h1 _ => absurd h1 (Nat.not_lt_zero _)) X.prog X.w X.xe _ ⟨.bl _, H, I, rfl, q⟩
  | cons z xs =>
    have hl := rv.length
    have hs : (its.toArray.size != ([] : List Value).toArray.size) = true := by
      rw [List.size_toArray, ← hl]
      rfl
    exact SeqAt.RcNeAt.lists_lengths pl.isList pl2.isList hs hu0 X.prog X.w X.xe _ ⟨.bl _, H, I, rfl, q⟩
theorem op_eqNil (hu : X.A.units + 64 < cLine) : OpR X (compareOp .Eq) (rNil X.K false) := by
  intro pins s σ H x y v u Q I rx ry h
  obtain ⟨a, b, xs, rfl, rfl, ha, hb, q⟩ := h
  cases rx
  cases ry
  obtain ⟨its, rv, pl, _⟩ := I.list ha
  obtain ⟨its2, rv2, pl2, _⟩ := I.list hb
  have e2 : its2 = [] := List.eq_nil_of_length_eq_zero rv2.length.symm
  subst e2
  have hu0 : X.A.units < cLine := by omega
  cases xs with
  | nil =>
    have e1 : its = [] := List.eq_nil_of_length_eq_zero rv.length.symm
    subst e1
    exact SeqAt.RcAt.lists (e := fun _ => true) pl.isList pl2.isList rfl hu0 (fun j h1 _ => absurd h1 (Nat.not_lt_zero _)) X.prog X.w X.xe _ ⟨.bl _, H, I, rfl, q⟩
  | cons z xs =>
    have hl := rv.length
    have hs : (its.toArray.size != ([] : List Value).toArray.size) = true := by
      rw [List.size_toArray, ← hl]
      rfl
    exact SeqAt.RcAt.lists_lengths pl.isList pl2.isList hs hu0 X.prog X.w X.xe _ ⟨.bl _, H, I, rfl, q⟩
/-- xs[i], i below 0, as a value -/
def rIxNeg (K : PySem.W.Frag) : V → V → Hp → VK → Prop := fun x y H Q => ∃ p xs i v, x = .ref p ∧ y = .int i ∧ i < 0 ∧ SqL K H p xs ∧ atI xs i = some v ∧ Q v H
theorem get_neg : PGet X (rIxNeg X.K) := by
  intro pins s σ H x y v u Q I rx ry h
  obtain ⟨p, xs, i, z, rfl, rfl, h0, hq, he, q⟩ := h
  cases rx
  obtain ⟨t, rfl⟩ := ry
  obtain ⟨its, r, pl, hz⟩ := I.list hq
  obtain ⟨j, h1, h2, h3, h4, h5⟩ := atI_get he
  obtain ⟨w, ew, rw'⟩ := r.get h2
  have hl := r.length
  have hn := line63
  have fin : EP X pins σ Q w s := ⟨z, H, I, rw', q⟩
  have hj : (i + (its.toArray.size : Int)).toNat = j := by
    rw [seqIndex_neg (by omega) h4] at h1
    rw [List.size_toArray, ← hl]
    exact Option.some.inj h1
  exact wpAny_getItem_list_neg pl.isList (by omega) (by rw [List.size_toArray] <;> omega) (by omega) (by rw [hj]; simpa using ew) fin
theorem ip_of {op : Operator} {r : R2} (h : OpR X (inplaceOp op) r) : PIp X op r := fun pins s σ H x y v u Q I rx ry q => h pins s σ H x y v u Q I rx ry q
/-- a test's end, said by oneself -/
def tCutT (t : TT) : TT := fun σ H Q => ∃ Mid : Bool → Hp → Prop, t σ H Mid ∧ ∀ b H', Mid b H' → Q b H'
theorem pt_cut {c : Expr} {t : TT} (h : PT X c t) : PT X c (tCutT t) := ⟨fun pins s σ H Q I q => by
  obtain ⟨Mid, h1, h2⟩ := q
  exact thn (h.run pins s σ H Mid I h1) fun b s1 ⟨H1, I1, q⟩ => ⟨H1, I1, h2 b H1 q⟩⟩
end
end RyN
set_option maxHeartbeats 2000000
/-! sorted(xs), the items read as data. -/
namespace RyD
open PySem PySem.Spec PyProof.Rows
open L2 hiding St
open PySem.W (EachIs dataLe alike AllAlike Sortable keyToks keyToksAll)
abbrev St := L2.St
section
variable {X : Cx} {β : Type} {F : V → β → Prop} {enc : β → PyData}
theorem each_of {its : List Value} {vs : List V} {bs : List β} (rv : Vals vs its) (p : Paired F vs bs) : EachIs (fun u b => ∃ v, RelV v u ∧ F v b) its bs := by
  induction p generalizing its with
  | nil => cases rv; exact .nil
  | cons h t ih =>
    cases rv with
    | cons r rr => exact .cons ⟨_, r, h⟩ (ih rr)
theorem of_each {out : List Value} {bs : List β} (e : EachIs (fun u b => ∃ v, RelV v u ∧ F v b) out bs) : ∃ ws, Vals ws out ∧ Paired F ws bs := by
  induction e with
  | nil => exact ⟨[], .nil, .nil⟩
  | cons h t ih =>
    obtain ⟨v, r, f⟩ := h
    obtain ⟨ws, a, b⟩ := ih
    exact ⟨v :: ws, .cons r a, .cons f b⟩
def rSortDat (K : PySem.W.Frag) (enc : β → PyData) (F : Hp → V → β → Prop) : List V → Hp → VK → Prop := fun xs H Q => ∃ (a : Addr) (vs : List V) (bs : List β), xs = [.ref a] ∧ SqL K H a vs ∧ Paired (F H) vs bs ∧ (∀ v b, F H v b → Dp K H v (enc b)) ∧ bs.length ≤ sizeLine ∧ (∀ b ∈ bs, (enc b).depth ≤ 60) ∧
  ∀ ws p, Paired (F H) ws (bs.mergeSort (dataLe false enc)) → ws.length = bs.length → H p = none → Q (.ref p) (upd H p (.lst ws))
theorem cr_sortedDat {F : Hp → V → β → Prop} (hu : X.A.units + 64 < cLine) (hal : ∀ b b' : β, alike (enc b) (enc b') = true) (hk : (∀ b : β, ∃ x r, enc b = .tuple (x :: r)) ∨ ∀ b : β, enc b ≠ .none ∧ ∀ xs, enc b ≠ .tuple xs) : CallR X (.builtin "sorted") (rSortDat X.K enc F) := by
  intro pins s σ H xs us Q I r h
  obtain ⟨a, vs, bs, rfl, hs, hp, hd, hlen, hdep, q⟩ := h
  obtain ⟨its, rv, hl, _⟩ := I.list hs
  rw [Vals.ref1 r]
  have e := each_of rv hp
  have er : EachIs (fun u b => ∃ as, Reads s.heap u (enc b) as) its bs := e.mono fun u b ⟨v, r, f⟩ => Dp.reads I (enc b) v u (hd v b f) r
  refine PySem.W.sorted_data hl.isList e er (AllAlike.of hal) (hk.elim Sortable.tuples Sortable.others) hlen (fun b hb => ?_) fun out hlo ho => ?_
  · have := hdep b hb
    omega
  · obtain ⟨ep, he'⟩ := PyProof.Rows.sortedAll_at s.heap its out.toArray
    obtain ⟨ws, w1, w2⟩ := of_each ho
    have l1 := w1.length
    have hl' : ws.length = bs.length := by rw [l1]; exact hlo
    exact ⟨.ref _, upd H (s.heap.objs.size + 1) (.lst ws), I.laid (t' := s.toks) (fun _ _ => PyProof.Rows.sortedAll_old) (Nat.le_succ _) ⟨by rw [hl']; exact hlen, out, ep, w1, he'⟩, rfl, q ws _ w2 hl' (I.hok.fresh (Nat.le_succ _))⟩
end
/-! the order of data: lists with the same items, sorted, are one -/
theorem sortDat_perm {β : Type} {enc : β → PyData} (inj : ∀ a b : β, keyToks (enc a) = keyToks (enc b) → a = b) {xs ys : List β} (h : xs.Perm ys) : xs.mergeSort (dataLe false enc) = ys.mergeSort (dataLe false enc) := by
  have tr : ∀ x y z : β, dataLe false enc x y = true → dataLe false enc y z = true → dataLe false enc x z = true := fun x y z h1 h2 => by
    have h1' : (!PyProof.Rows.lexLt itemOrd (keyToks (enc y)) (keyToks (enc x))) = true := h1
    have h2' : (!PyProof.Rows.lexLt itemOrd (keyToks (enc z)) (keyToks (enc y))) = true := h2
    show (!PyProof.Rows.lexLt itemOrd (keyToks (enc z)) (keyToks (enc x))) = true
    rw [Bool.not_eq_true'] at h1' h2' ⊢
    cases q : PyProof.Rows.lexLt itemOrd (keyToks (enc z)) (keyToks (enc x)) with
    | false => rfl
    | true =>
      rcases lex_negTrans (O := itemOrd) _ (keyToks (enc y)) _ q with z | z
      · exact z.symm.trans h2'
      · exact z.symm.trans h1'
  have tt : ∀ x y : β, (dataLe false enc x y || dataLe false enc y x) = true := fun x y => by
    show ((!PyProof.Rows.lexLt itemOrd (keyToks (enc y)) (keyToks (enc x))) || (!PyProof.Rows.lexLt itemOrd (keyToks (enc x)) (keyToks (enc y)))) = true
    cases q : PyProof.Rows.lexLt itemOrd (keyToks (enc y)) (keyToks (enc x)) with
    | false => rfl
    | true =>
      cases q2 : PyProof.Rows.lexLt itemOrd (keyToks (enc x)) (keyToks (enc y)) with
      | false => rfl
      | true =>
        have z := lex_trans (O := itemOrd) _ _ _ q q2
        rw [lex_irrefl] at z
        cases z
  refine PySem.W.Srt.the_of_perm (dataLe false enc) tr tt (fun x y h1 h2 => ?_) ((List.mergeSort_perm xs _).trans h) (List.pairwise_mergeSort tr tt xs)
  have h1' : (!PyProof.Rows.lexLt itemOrd (keyToks (enc y)) (keyToks (enc x))) = true := h1
  have h2' : (!PyProof.Rows.lexLt itemOrd (keyToks (enc x)) (keyToks (enc y))) = true := h2
  rw [Bool.not_eq_true'] at h1' h2'
  exact inj _ _ (lex_total (O := itemOrd) _ _ h2' h1')
end RyD
set_option maxHeartbeats 4000000
/-! sorted(xs, key=f) and sorted(d, key=f), f an own def. -/
namespace RyK
open PySem PySem.Spec PyProof.Rows
open L2 hiding St
open PySem.W (EachIs dataLe alike AllAlike Sortable keyToks keyToksAll KeepsBut)
open C8 (Cal)
abbrev St := L2.St
/-- exactly this object stands there -/
def AtO (a : Addr) (o : Obj) : HO := .ext fun h => h.get? a = some o
section
variable {P : Program} {w : World} {H : Hp} {h : Heap} {a : Addr} {o : Obj}
theorem atO_get (ok : HOk P w H h) (e : H a = some (AtO a o)) : h.get? a = some o := by
  obtain ⟨q, _, _⟩ := ok a _ e
  exact q
theorem atO_new (e : h.get? a = some o) : ObjOk P w H h a (AtO a o) := ⟨e, ⟨o, e⟩, fun _ _ q k => k _ q⟩
end
/-- the heap without one object -/
def dropH (h : Heap) (a : Addr) : Heap := h.update a fun o => { o with data := .freed }
theorem drop_ne (h : Heap) {a b : Addr} (n : b ≠ a) : (dropH h a).get? b = h.get? b := Heap.get?_update_ne _ _ _ _ n
theorem drop_at (h : Heap) (a : Addr) : (dropH h a).get? a = none := by
  obtain ⟨objs, l⟩ := h
  show Heap.get? ⟨objs.modify a _, l⟩ a = none
  unfold Heap.get?
  show (match (objs.modify a fun o => { o with data := .freed })[a]? with | some ⟨_, _, .freed, _⟩ => none | o => o) = none
  rw [Array.getElem?_modify]
  simp only [if_true]
  cases objs[a]? with
  | none => rfl
  | some z => rfl
section
variable {X : Cx} {k : Nat} {f : Addr} {sp : Sp} {A : Around}
/-- a def called in a deeper place of the same frames -/
theorem run_in {pins : List (Addr × Obj)} {σ : St} {H : Hp} {s : Shared} {Q : VK} {us : List Value} {vs : List V} {fd : FuncData} {ps : List Str} {ds : List Value} {dvs : List V} (F : FnOk X.prog X.w X.K X.mg X.base C8.CX0 k f fd ps sp) (hA : A.frames = X.A.frames)
    (hr : Room k A) (hb : Binds X.K fd ps ds) (hd : Vals dvs ds) (I : Inv X pins σ H s) (r : Vals vs us) (h : sp (vs ++ dvs) H Q C8.E0) {E : Value → Shared → Prop} : wpAny (model X.prog X.w) A (call (.ref f) us) (EP X pins σ Q) E s := by
  have r2 : Vals (vs ++ dvs) (us ++ ds) := r.append hd
  have hl : (us ++ ds).length = ps.length := by
    rw [← r2.length]
    exact F.len _ _ _ _ h
  have e0 := I.env0
  have e1 : Env0 X.prog X.w X.K X.mg X.base A X.stack s H := ⟨hA.trans e0.frames, e0.mod, e0.bs, e0.bsz, e0.funs, e0.frf, e0.hok, e0.bare⟩
  refine wpAny_call (codeAny_mono (F.run A X.stack s H ⟨us, []⟩ (us ++ ds) (vs ++ dvs) Q C8.E0 hr e1 (hb s us I.kIn hl) r2 h) fun x s' hq => ?_)
  match x, hq with
  | .error _, q => exact False.elim q
  | .ok (.ret _), q => exact I.after q
  | .ok .next, q => exact False.elim q
  | .ok .brk, q => exact False.elim q
  | .ok .cont, q => exact False.elim q
/-- what is pinned lies nowhere else -/
theorem cell_ne {pins : List (Addr × Obj)} {σ : St} {H : Hp} {s : Shared} (I : Inv X pins σ H s) {a : Addr} {o : Obj} (e : s.heap.get? a = some o) (n : ∀ v, o.data ≠ .cell v) : ∀ x c, X.env.cells.lookup x = some c → c ≠ a := fun x c q z => by
  obtain ⟨v, o', e', hd⟩ := I.cell x c q
  rw [z, e] at e'
  cases e'
  exact n v hd
end
section
variable {X : Cx} {β : Type} {it : β → V} {Fk : Hp → V → β → Prop} {enc : β → PyData} {bs : List β} {vs : List Value} {a kS f : Addr} {e1 : Nat} {H1 : Hp} {σ : St} {pins : List (Addr × Obj)} {s : Shared} {A : Around}
/-- what the key's calls give -/
def KeyRun (X : Cx) (A : Around) (f : Addr) (H1 : Hp) (Fk : Hp → V → β → Prop) (it : β → V) (bs : List β) : Prop :=
  ∀ b ∈ bs, ∀ (pins : List (Addr × Obj)) (σ : St) (H : Hp) (s : Shared) (u : Value), Inv X pins σ H s → Same H1 H → RelV (it b) u → wpAny (model X.prog X.w) A (call (.ref f) [u]) (EP X pins σ fun v H' => Same H H' ∧ Fk H' v b) (fun _ _ => False) s
theorem pin_keep {o : Obj} {H : Hp} (I : Inv X ((kS, o) :: pins) σ H s) : Inv X pins σ H s := I.pins_of fun p hp => I.pin p (List.mem_append_right _ (List.mem_cons_of_mem _ hp))
theorem pin_head {o : Obj} {H : Hp} (I : Inv X ((kS, o) :: pins) σ H s) : s.heap.get? kS = some o ∧ H kS = none ∧ kS ≠ X.env.locals ∧ kS ∉ X.fs ∧ ∀ v, o.data ≠ .cell v := I.pin (kS, o) (List.mem_append_right _ (List.mem_cons_self ..))
/-- a pinned object is changed -/
theorem pin_turn {o o' : Obj} {H : Hp} {h' : Heap} (I : Inv X ((kS, o) :: pins) σ H s) (k : ∀ b u, b ≠ kS → s.heap.get? b = some u → h'.get? b = some u) (hx : X.s_0.heap.objs.size ≤ kS) (hp : ∀ p ∈ X.pn ++ pins, p.1 ≠ kS)
    (e : h'.get? kS = some o') (hd : ∀ v, o'.data ≠ .cell v) (t : Nat) : Inv X ((kS, o') :: pins) σ H { s with heap := h', toks := t } := by
  obtain ⟨p1, p2, p3, p4, p5⟩ := pin_head I
  have J := (pin_keep I).turned (t' := t) k p2 p3 (.inr hx) (cell_ne I p1 p5) hp
  refine J.pins_of fun p hp' => ?_
  rcases List.mem_cons.mp hp' with rfl | hp'
  · exact ⟨e, p2, p3, p4, hd⟩
  · exact J.pin p (List.mem_append_right _ hp')
theorem paired_snoc {α γ : Type} {F : α → γ → Prop} : ∀ {xs : List α} {ys : List γ} {x : α} {y : γ}, Paired F xs ys → F x y → Paired F (xs ++ [x]) (ys ++ [y])
  | _, _, _, _, .nil, h => .cons h .nil
  | _, _, _, _, .cons r t, h => .cons r (paired_snoc t h)
theorem paired_mono {α γ : Type} {F G : α → γ → Prop} : ∀ {xs : List α} {ys : List γ}, Paired F xs ys → (∀ x y, F x y → G x y) → Paired G xs ys
  | _, _, .nil, _ => .nil
  | _, _, .cons r t, h => .cons (h _ _ r) (paired_mono t h)
theorem vals_nth : ∀ {vs : List V} {us : List Value}, Vals vs us → ∀ {i : Nat} {u : Value}, us[i]? = some u → ∃ v, vs[i]? = some v ∧ RelV v u
  | _, _, .nil, _, _, e => by cases e
  | _, _, .cons r t, 0, _, e => by cases e; exact ⟨_, rfl, r⟩
  | _, _, .cons r t, i + 1, _, e => vals_nth t (i := i) e
theorem each_it : ∀ {bs : List β} {us : List Value}, Vals (bs.map it) us → EachIs (fun u b => RelV (it b) u) us bs
  | [], _, h => by cases h; exact .nil
  | b :: bs, _, h => by
    cases h with
    | cons r t => exact .cons r (each_it t)
theorem it_each : ∀ {bs : List β} {us : List Value}, EachIs (fun u b => RelV (it b) u) us bs → Vals (bs.map it) us
  | _, _, .nil => .nil
  | _, _, .cons r t => .cons r (it_each t)
theorem sk_rest {P : PySem.Fin → Shared → Prop} {E : Value → Shared → Prop} (mono : ∀ H H' v b, Same H H' → Fk H v b → Fk H' v b) (dat : ∀ H v b, Fk H v b → Dp X.K H v (enc b)) (hal : ∀ b b' : β, alike (enc b) (enc b') = true) (htup : ∀ b : β, ∃ x r, enc b = .tuple (x :: r))
    (hdep : ∀ b ∈ bs, A.units + (enc b).depth < cLine) (J : Inv X ((kS, seqObj "list" #[] 0) :: pins) σ H1 s) (ha : H1 a = some (AtO a (seqObj "list" #[] e1))) (rv : Vals (bs.map it) vs) (hZ : bs.length ≤ sizeLine) (run : KeyRun X A f H1 Fk it bs)
    (hx : X.s_0.heap.objs.size ≤ kS) (hp : ∀ p ∈ X.pn ++ pins, p.1 ≠ kS) (q : ∀ H' s', Inv X pins σ (L2.upd H' a (.lst ((bs.mergeSort (dataLe false enc)).map it))) s' → Same H1 H' → P (.done (.ret .none)) s') :
    wpAny (model X.prog X.w) A (ksk_rest a (.ref f) false vs.toArray e1 (.ref kS)) P E s := by
  have hlen : vs.length = bs.length := by rw [← rv.length, List.length_map]
  unfold ksk_rest
  refine wpAny_bind (wpAny_rule ?_)
  first
    | rw [List.forIn_toArray]
    | (rw [← Array.forIn_toList]; simp only [List.toList_toArray])
  refine wpAny_bind (ksk_fold (fun i s' => ∃ (Hj : Hp) (kA : Array Value) (e : Nat) (ws : List V), Inv X ((kS, seqObj "list" kA e) :: pins) σ Hj s' ∧ Same H1 Hj ∧ Vals ws kA.toList ∧ Paired (Fk Hj) ws (bs.take i)) vs 0 s
    ⟨H1, #[], 0, [], J, fun _ _ e => e, .nil, by rw [List.take_zero]; exact .nil⟩ ?step ?done)
  case step =>
    rintro j x s' hj ⟨Hj, kA, e, ws, Ij, sj, rj, pj⟩
    simp only [Nat.zero_add] at pj ⊢
    obtain ⟨v0, e0, r0⟩ := vals_nth rv hj
    rw [List.getElem?_map] at e0
    obtain ⟨b, eb, rfl⟩ := Option.map_eq_some_iff.mp e0
    have hw : ws.length ≤ bs.length := by
      have z := pj.length
      rw [List.length_take] at z
      omega
    have hsz : kA.size ≤ bs.length := by
      have z : ws.length = kA.toList.length := rj.length
      have z2 : kA.toList.length = kA.size := Array.length_toList
      omega
    refine wpAny_bind (wpAny_attempt (wpAny_mono (run b (List.mem_of_getElem? eb) _ σ Hj s' x Ij sj r0) (fun u s'' he => ?_) fun _ _ z => z.elim))
    obtain ⟨v, H2, I2, r2, s2, fk⟩ := he
    try dsimp only
    obtain ⟨p1, -⟩ := pin_head I2
    obtain ⟨c2, hc2⟩ : ∃ c2, (s''.heap.update kS (Obj.mapSeq (·.push u))).get? kS = some (seqObj "list" (kA.push u) c2) := ⟨_, get?_update_seq p1 (·.push u)⟩
    refine wpAny_bind (listUpdate_at p1 rfl ?_ (Nat.le_trans hsz hZ) (Nat.le_trans (Nat.le_of_eq (Array.size_push ..)) (Nat.succ_le_succ (Nat.le_trans hsz hZ))))
    refine wpAny_pure ⟨rfl, H2, kA.push u, c2, ws ++ [v], pin_turn I2 (fun c o n z => ?_) hx hp hc2 (fun _ z => nomatch z) _, fun c o z => s2 _ _ (sj _ _ z), ?_, ?_⟩
    · rw [Heap.get?_update_ne _ _ _ _ n]
      exact z
    · have z : (kA.push u).toList = kA.toList ++ [u] := by simp
      rw [z]
      exact rj.append (.cons r2 .nil)
    · have z : bs.take (j + 1) = bs.take j ++ [b] := by rw [List.take_add_one, eb]; rfl
      rw [z]
      exact paired_snoc (paired_mono pj fun x y h => mono _ _ _ _ s2 h) fk
  case done =>
    rintro s' ⟨Hj, kA, e, ws, Ij, sj, rj, pj⟩
    have ez : bs.take (0 + vs.length) = bs := List.take_of_length_le (by omega)
    rw [ez] at pj
    obtain ⟨p1, p2, p3, p4, p5⟩ := pin_head Ij
    have ea := sj _ _ ha
    have na := atO_get Ij.hok ea
    have hka : kS ≠ a := fun z => by
      rw [z, ea] at p2
      cases p2
    have hsz : kA.size = vs.length := by
      have z : ws.length = kA.toList.length := rj.length
      have z2 : kA.toList.length = kA.size := Array.length_toList
      have z3 : ws.length = bs.length := pj.length
      omega
    have er : EachIs (fun u b => ∃ as, Reads s'.heap u (enc b) as) kA.toList bs := (RyD.each_of rj pj).mono fun u b ⟨v, r, z⟩ => Dp.reads Ij (enc b) v u (dat _ _ _ z) r
    have hk' : EachIs (fun u d => ∃ as, Reads s'.heap u d as) kA.toList (bs.map enc) := PySem.W.each_map (R := fun u d => ∃ as, Reads s'.heap u d as) enc er
    try dsimp only
    refine wpAny_bind (listItems_at p1 rfl ?_)
    refine PySem.W.keyH_end (κ := PySem.W.dataKind s'.heap (bs.map enc)) (h₁ := dropH s'.heap kS) (fun c o n z => ?_) (drop_at _ _) p1 na hka (PySem.W.SortsAt.data (s := s') hk' (AllAlike.of hal) (Sortable.tuples htup) (PySem.W.bound_map hdep)) hsz (by rw [hlen]; exact hZ) fun h3 tk3 c k3 n3 => ?_
    · by_cases y : c = kS
      · rw [y, drop_at] at z
        cases z
      · rw [drop_ne _ y] at z
        exact z
    · have ko : PySem.W.KeyedOut false (bs.map enc) vs (PySem.W.sortVals (PySem.W.dataKind s'.heap (bs.map enc)) false kA.toList vs) := ⟨s'.heap, kA.toList, AllAlike.of hal, rfl, hk'⟩
      have ho := PySem.W.keyedOut_each enc ko (each_it rv)
      have I3 := (pin_keep Ij).turned (t' := tk3) (h' := dropH s'.heap kS) (fun c o n z => by rw [drop_ne _ n]; exact z) p2 p3 (.inr hx) (cell_ne Ij p1 p5) hp
      have I4 := I3.write (x := a) (e := a) (h' := h3) (t' := tk3) (o := .lst ((bs.mergeSort (dataLe false enc)).map it)) (by rw [ea]; exact True.intro) (.inl rfl) (fun c o n z => k3 c o n z) ⟨_, n3⟩
        ⟨by rw [List.length_map, List.length_mergeSort]; exact hZ, _, c, it_each ho, n3⟩
      exact q Hj _ I4 sj
end
end RyK
/-! sorted(xs, key=f): the calls. -/
namespace RyK
open PySem PySem.Spec PyProof.Rows
open L2 hiding St
open PySem.W (EachIs dataLe alike AllAlike Sortable keyToks keyToksAll KeepsBut)
open C8 (Cal)
section
variable {X : Cx} {β : Type} {it : β → V} {Fk : Hp → V → β → Prop} {enc : β → PyData} {bs : List β} {vs : List Value} {a f : Addr} {H : Hp} {σ : St} {pins : List (Addr × Obj)} {s : Shared} {A : Around} {n tk : Nat} {g : Heap}
theorem sk_tree {P : PySem.Fin → Shared → Prop} {E : Value → Shared → Prop} (mono : ∀ H H' v b, Same H H' → Fk H v b → Fk H' v b) (dat : ∀ H v b, Fk H v b → Dp X.K H v (enc b)) (hal : ∀ b b' : β, alike (enc b) (enc b') = true) (htup : ∀ b : β, ∃ x r, enc b = .tuple (x :: r))
    (hdep : ∀ b ∈ bs, A.units + (enc b).depth < cLine) (I : Inv X pins σ H s) (kg : ∀ b u, s.heap.get? b = some u → g.get? b = some u) (hsa : s.heap.objs.size ≤ a) (ho : g.get? a = some (seqObj "list" vs.toArray n))
    (rv : Vals (bs.map it) vs) (hZ : bs.length ≤ sizeLine) (run : KeyRun X A f H Fk it bs)
    (q : ∀ H' s', Inv X pins σ (L2.upd H' a (.lst ((bs.mergeSort (dataLe false enc)).map it))) s' → Same H H' → P (.done (.ret .none)) s') :
    wpAny (model X.prog X.w) A (ksk_tree a (.ref f) false) P E { s with heap := g, toks := tk } := by
  have hlen : vs.length = bs.length := by rw [← rv.length, List.length_map]
  have hLv : vs.length ≤ sizeLine := by rw [hlen]; exact hZ
  have fa : H a = none := I.hok.fresh hsa
  have la : a < g.objs.size := Heap.lt_size ho
  obtain ⟨e1, ho1⟩ : ∃ e1, (g.update a (Obj.mapSeq fun _ => (#[] : Array Value))).get? a = some (seqObj "list" #[] e1) := ⟨_, get?_update_seq ho fun _ => #[]⟩
  have z1 : ((g.update a (Obj.mapSeq fun _ => (#[] : Array Value))).push (seqObj "tuple" vs.toArray 0)).objs.size = g.objs.size + 1 := by rw [size_push', Heap.size_update]
  unfold ksk_tree
  refine wpAny_bind (listItems_at ho rfl (wpAny_bind (listUpdate_at ho rfl ?_ (by rw [List.size_toArray]; exact hLv) (Nat.zero_le _))))
  refine wpAny_bind (seqEpoch_at ho1 rfl (wpAny_bind (wpAny_newTuple ?_ (by show vs.length ≤ _; exact hLv))))
  refine wpAny_bind (wpAny_newList (wpAny_holding ?_) (Nat.zero_le _))
  have k3 : ∀ b u, s.heap.get? b = some u → (((g.update a (Obj.mapSeq fun _ => (#[] : Array Value))).push (seqObj "tuple" vs.toArray 0)).push (seqObj "list" #[] 0)).get? b = some u := fun b u e =>
    Heap.get?_push_of_some _ (Heap.get?_push_of_some _ ((Heap.get?_update_ne _ _ _ _ (fun z => absurd (Heap.lt_size e) (by rw [z]; exact Nat.not_lt.mpr hsa))).trans (kg b u e)))
  have o3 : (((g.update a (Obj.mapSeq fun _ => (#[] : Array Value))).push (seqObj "tuple" vs.toArray 0)).push (seqObj "list" #[] 0)).get? a = some (seqObj "list" #[] e1) := Heap.get?_push_of_some _ (Heap.get?_push_of_some _ ho1)
  have hsk : s.heap.objs.size ≤ ((g.update a (Obj.mapSeq fun _ => (#[] : Array Value))).push (seqObj "tuple" vs.toArray 0)).objs.size := by
    rw [z1]
    exact Nat.le_trans hsa (Nat.le_of_lt (Nat.lt_succ_of_lt la))
  have J := I.laid (t' := tk) k3 hsa (o := AtO a (seqObj "list" #[] e1)) (atO_new o3)
  have fk : (L2.upd H a (AtO a (seqObj "list" #[] e1))) (((g.update a (Obj.mapSeq fun _ => (#[] : Array Value))).push (seqObj "tuple" vs.toArray 0)).objs.size) = none := by
    rw [upd_ne (by rw [z1]; exact Nat.ne_of_gt (Nat.lt_succ_of_lt la))]
    exact I.hok.fresh hsk
  have up : Same H (L2.upd H a (AtO a (seqObj "list" #[] e1))) := fun b o e => by
    rw [upd_ne (fun z => by rw [z, fa] at e; cases e)]
    exact e
  refine sk_rest (it := it) (Fk := Fk) (enc := enc) (bs := bs) (pins := pins) (σ := σ) (H1 := L2.upd H a (AtO a (seqObj "list" #[] e1))) (kS := ((g.update a (Obj.mapSeq fun _ => (#[] : Array Value))).push (seqObj "tuple" vs.toArray 0)).objs.size)
    mono dat hal htup hdep (J.pins_of fun p hp => ?_) upd_same rv hZ (fun b hb pins σ H' s' u I' k' r => run b hb pins σ H' s' u I' (fun c o e => k' _ _ (up c o e)) r) (Nat.le_trans I.sz hsk) (fun p hp => ?_) fun H' s' I' k' => q H' s' I' fun c o e => k' _ _ (up c o e)
  · rcases List.mem_cons.mp hp with rfl | hp
    · exact ⟨Heap.get?_push_size _ rfl, fk, Nat.ne_of_gt (Nat.lt_of_lt_of_le I.lt hsk), I.nofs hsk, fun _ z => nomatch z⟩
    · exact J.pin p (List.mem_append_right _ hp)
  · exact Nat.ne_of_lt (Nat.lt_of_lt_of_le (Heap.lt_size (I.pin p hp).1) hsk)
end
/-- texts with a key of two numbers and the text -/
def rkEnc (rk : Str → Int × Int) (b : Str) : PyData := .tuple [.int (rk b).1, .int (rk b).2, .str b]
def RkAt (rk : Str → Int × Int) (H : Hp) (v : V) (b : Str) : Prop := ∃ p, v = .ref p ∧ H p = some (.tup [.int (rk b).1, .int (rk b).2, .str b])
theorem rk_inj {rk : Str → Int × Int} (a b : Str) (h : keyToks (rkEnc rk a) = keyToks (rkEnc rk b)) : a = b := by
  simp only [rkEnc, keyToks, keyToksAll, List.cons_append, List.nil_append, List.cons.injEq, Sum.inl.injEq, Sum.inr.injEq, true_and, and_true] at h
  exact PySem.W.str_of_cps h.2.2
def rkSort (rk : Str → Int × Int) (xs : List Str) : List Str := xs.mergeSort (dataLe false (rkEnc rk))
theorem rkSort_perm {rk : Str → Int × Int} {xs ys : List Str} (h : xs.Perm ys) : rkSort rk xs = rkSort rk ys := RyD.sortDat_perm rk_inj h
def rSortKey (K : PySem.W.Frag) (f : Addr) (sp : Sp) (rk : Str → Int × Int) : List V → List V → Hp → VK → Prop := fun xs zs H Q => ∃ (a : Addr) (kvs : List (Key × V)) (ks : List Str), xs = [.ref a] ∧ zs = [.ref f] ∧ Rd H a (.dK kvs) ∧ kvs.map (·.1) = ks.map Sum.inr ∧
  (∀ b ∈ ks, ∀ H', Same H H' → sp [.str b] H' (fun v H'' => Same H' H'' ∧ RkAt rk H'' v b) C8.E0) ∧ ∀ p H', H p = none → Same H H' → H' p = some (.lst ((rkSort rk ks).map V.str)) → Q (.ref p) H'
section
variable {X : Cx} {f : Addr} {sp : Sp} {rk : Str → Int × Int} {k j : Nat} {x : Str}
theorem keyRun_of (c : Cal X.prog X.w X.K X.mg X.base k x sp []) (hm : X.mg x = some (.ref f)) (hr : Room j X.A) (hk : k + 2 ≤ j) {H : Hp} {ks : List Str} (h : ∀ b ∈ ks, ∀ H', Same H H' → sp [.str b] H' (fun v H'' => Same H' H'' ∧ RkAt rk H'' v b) C8.E0) :
    KeyRun X X.A.in1.in1 f H (RkAt rk) V.str ks := by
  obtain ⟨f', fd, ps, ds, F, hm', kp, hb, hd⟩ := c.ex
  rw [hm] at hm'
  cases hm'
  intro b hb' pins σ H' s u I k' r
  have hr2 : Room (k + 2) X.A := hr.mono hk
  exact run_in (A := X.A.in1.in1) (vs := [.str b]) F rfl (Room.in1 (Room.in1 hr2)) hb hd I (.cons r .nil) (h b hb' H' k')
theorem cr_sortKey (c : Cal X.prog X.w X.K X.mg X.base k x sp []) (hm : X.mg x = some (.ref f)) (hr : Room j X.A) (hk : k + 2 ≤ j) (hcalm : X.calm = true) : CallRK X (.builtin "sorted") [Str.ofString "key"] (rSortKey X.K f sp rk) := by
  intro pins s σ H xs zs us ws Q I r rz h
  obtain ⟨a, kvs, ks, rfl, rfl, hd, hks, hsp, q⟩ := h
  obtain rfl := Vals.ref1 r
  obtain rfl := Vals.ref1 rz
  obtain ⟨z, lo, vs, rel, dd⟩ := dk_rd I.hok hd
  obtain ⟨ep, hat⟩ := dd.dictAt
  have hkeys : vs.map (·.1) = ks.map Sum.inr := rel.keys.symm.trans hks
  have hl : vs.length = ks.length := by
    have e := congrArg List.length hkeys
    rw [List.length_map, List.length_map] at e
    exact e
  have h16 : vs.length ≤ sizeLine := by rw [← rel.length]; exact z
  refine PyProof.Rows.call_function_entry_kw kind_sorted plain_sorted entry_sorted (ksk_s1 _ _) ?_
  unfold Builtin.«sorted»
  refine wpAny_bind (m := checkCount "sorted" 1 1 _) (wpAny_pure (wpAny_bind (PySem.W.kdu_collect (A := X.A.in1) (PySem.W.kdl_dict (knd := mixKind X.prog X.w) (kvs := vs) (ep := ep) lo) (I.ok.hd hcalm) hat h16 fun h' tk acc hkp hacc => ?_)))
  have hal : acc.toList.length = ks.length := by rw [Array.length_toList, hacc.1, hl]
  have hS : StrsAre acc.toList ks := strs_at hal fun i v e => by
    obtain ⟨y, u, e1, e2⟩ := hacc.2 i v (by rw [← Array.getElem?_toList]; exact e)
    have e3 : (vs.map (·.1))[i]? = some y := by rw [List.getElem?_map, e1]; rfl
    rw [hkeys, List.getElem?_map] at e3
    obtain ⟨w, e4, rfl⟩ := Option.map_eq_some_iff.mp e3
    obtain ⟨t, ev⟩ := Value.isStrOf_shape (x := w) (v := v) e2
    exact ⟨w, t, e4, ev⟩
  have rv : Vals (ks.map V.str) acc.toList := vals_of_strs hS
  have hlk : ks.length ≤ sizeLine := by rw [← hl]; exact h16
  have I1 : Inv X pins σ H { s with heap := h', toks := tk } := I.kept hkp
  refine wpAny_bind (wpAny_newList ?_ (by rw [hal]; exact hlk))
  have hoL : (h'.push (seqObj "list" acc.toList.toArray 0)).get? h'.objs.size = some (seqObj "list" acc.toList.toArray 0) := Heap.get?_push_size _ rfl
  show wpAny _ _ _ _ _ { s with heap := h'.push (seqObj "list" acc.toList.toArray 0), toks := tk }
  refine wpAny_bind (wpAny_holding (wpAny_call_entry_kw slot_list_sort ⟨_, hoL, rfl⟩ entry_list_sort ?_ (ksk_l1 _ _)))
  show wpAny (model X.prog X.w) X.A.in1.in1 (Builtin.«list.sort» ⟨[.ref h'.objs.size], [(Str.ofString "key", .ref f)]⟩) _ _ _
  rw [ksk_t1]
  have hr2 : Room (k + 2) X.A := hr.mono hk
  refine sk_tree (s := { s with heap := h', toks := tk }) (tk := tk) (g := h'.push (seqObj "list" acc.toList.toArray 0)) (it := V.str) (Fk := RkAt rk) (enc := rkEnc rk) (bs := ks) (pins := pins) (σ := σ) (H := H) ?_ ?_ ?_ (fun b => ⟨_, _, rfl⟩) ?_ I1 (fun b u e => Heap.get?_push_of_some _ e) (Nat.le_refl _) hoL rv hlk
    (keyRun_of c hm hr hk hsp) fun H' s' I' k' => ⟨_, rfl, wpAny_pure ⟨_, rfl, .ref h'.objs.size, _, I', rfl, q _ _ (I1.hok.fresh (Nat.le_refl _)) (fun b o e => ?_) upd_same⟩⟩
  · rintro H1 H2 v b k1 ⟨p, rfl, e⟩
    exact ⟨p, rfl, k1 _ _ e⟩
  · rintro H1 v b ⟨p, rfl, e⟩
    exact Dp.tup (SqT.of e) (.cons (.int _) (.cons (.int _) (.cons (.str _) .nil)))
  · intro b b'
    simp [rkEnc, alike, PySem.W.alikeAll]
  · intro b hb
    have z := (Room.in1 (Room.in1 hr2)).units
    have z2 : (rkEnc rk b).depth ≤ 60 := by simp [rkEnc, PyData.depth, PyData.depthAll]
    omega
  · have n : b ≠ h'.objs.size := fun z => by
      have y := I1.hok.fresh (Nat.le_refl h'.objs.size)
      rw [z] at e
      rw [show H h'.objs.size = none from y] at e
      cases e
    rw [upd_ne n]
    exact k' _ _ e
end
end RyK
/-! sum(lists, []); a walk over a list or a tuple. -/
namespace RyS
open PySem PySem.Spec PyProof.Rows
open L2 hiding St
abbrev LO (xs : List Value) (c : Nat) : Obj := { cls := .type "list", dict := none, data := .seq xs.toArray c, slots := #[] }
theorem args_sum2 (a b : Value) : argsOk "sum" ⟨[a, b], []⟩ := by unfold argsOk; kernel_rfl
section
variable {prog : Program} {w : World} {A : Around} {R : Result → Shared → Prop} {I : Addr} {fp wr : List Addr} {P : Nat → Value → Prop} {St : Nat → Heap → Prop}
theorem sum_loop {h₀ : Heap} {ls : List (List Value)} (W : Walks prog w A.in1 I fp wr ls.length P St) (hP : ∀ i v, P i v → ∃ l m xs, v = .ref l ∧ ls[i]? = some xs ∧ h₀.get? l = some (LO xs m)) (S lim : Addr) (hSf : S ∉ fp) (hS0 : h₀.get? S = none) (hw0 : ∀ b ∈ wr, h₀.get? b = none) (hlim : lim ≤ S) (hSz : ∀ i h, St i h → ∀ b ∈ fp, b < h.objs.size) :
    ∀ (k i : Nat) (s : Shared) (r : Addr) (acc : List Value) (c cS : Nat), ls.length - i = k → i ≤ ls.length → St i s.heap → (∀ b o, h₀.get? b = some o → s.heap.get? b = some o) → s.heap.get? S = some (LO [.ref r] cS) → s.heap.get? r = some (LO acc c) → r ≠ S → r ∉ wr →
      (lim ≤ r ∨ i = 0) → (acc ++ (ls.drop i).flatten).length ≤ sizeLine →
      (∀ h' tk r' c', (∀ b o, h₀.get? b = some o → h'.get? b = some o) → h'.get? r' = some (LO (acc ++ (ls.drop i).flatten) c') → (lim ≤ r' ∨ ls = []) → (ls = [] → r' = r) → R (.ok (.ret (.ref r'))) { s with heap := h', toks := tk }) →
      codeAny (model prog w) A (.builtin "sum.loop" ⟨[.ref I, .ref S, rawInt 2, rawInt 0], []⟩) R s := by
  have hSw : S ∉ wr := fun h => hSf (W.sub _ h)
  intro k
  induction k with
  | zero =>
    intro i s r acc c cS hk hi hst hK hS hr hrS hrw hlr hlen hR
    have hin : i = ls.length := by omega
    subst hin
    refine codeAny_builtin F.entry_sum_loop ?_
    rw [Around.under_plainId F.plain_sum_loop _]
    show wpAny _ A.in1 (seqItems? (.ref S) >>= _) _ _ s
    refine wpAny_bind (wpAny_seqItems hS rfl ?_)
    show wpAny _ A.in1 (tryCatch (pyNext (.ref I)) _ >>= _) _ _ s
    refine wpAny_bind (wpAny_tryCatch (W.done s _ _ hst fun h' tk hk' => wpAny_pure (hR h' tk r c (fun b o e => ?_) ?_ ?_ fun _ => rfl)))
    · exact hk' b o (fun z => by rw [hw0 b z] at e; cases e) (hK b o e)
    · rw [List.drop_length, List.flatten_nil, List.append_nil]
      exact hk' r _ hrw hr
    · exact hlr.imp id fun z => List.eq_nil_of_length_eq_zero z
  | succ k ih =>
    intro i s r acc c cS hk hi hst hK hS hr hrS hrw hlr hlen hR
    have hlt : i < ls.length := by omega
    refine codeAny_builtin F.entry_sum_loop ?_
    rw [Around.under_plainId F.plain_sum_loop _]
    show wpAny _ A.in1 (seqItems? (.ref S) >>= _) _ _ s
    refine wpAny_bind (wpAny_seqItems hS rfl ?_)
    show wpAny _ A.in1 (tryCatch (pyNext (.ref I)) _ >>= _) _ _ s
    refine wpAny_bind (wpAny_tryCatch (W.item i s _ _ hlt hst fun v h' tk hv hst' hk' => ?_))
    obtain ⟨l, m, xs, rfl, exs, hl⟩ := hP i v hv
    have hK' : ∀ b o, h₀.get? b = some o → h'.get? b = some o := fun b o e => hk' b o (fun z => by rw [hw0 b z] at e; cases e) (hK b o e)
    have hS' := hk' S _ hSw hS
    have hr' := hk' r _ hrw hr
    have hl' := hK' l _ hl
    have ed : ls.drop i = xs :: ls.drop (i + 1) := by
      rw [List.drop_eq_getElem_cons hlt]
      rw [List.getElem?_eq_getElem hlt] at exs
      rw [Option.some.inj exs]
    have efl : acc ++ (ls.drop i).flatten = acc ++ xs ++ (ls.drop (i + 1)).flatten := by rw [ed, List.flatten_cons, List.append_assoc]
    rw [efl] at hlen
    have hlen2 : acc.toArray.size + xs.toArray.size ≤ sizeLine := by
      rw [List.length_append, List.length_append] at hlen
      rw [List.size_toArray, List.size_toArray]
      omega
    show wpAny _ A.in1 ((holding [Value.ref l] (binaryOp .Add (.ref r) (.ref l))).attempt >>= _) _ _ _
    refine wpAny_bind (wpAny_attempt (wpAny_holding (PySem.P.add_list hr' hl' ?_ hlen2)))
    have eacc : acc.toArray ++ xs.toArray = (acc ++ xs).toArray := by simp
    have hS1 : (h'.push { cls := .type "list", data := .seq (acc.toArray ++ xs.toArray) }).get? S = some (LO [.ref r] cS) := Heap.get?_push_of_some _ hS'
    have hn1 : (h'.push { cls := .type "list", data := .seq (acc.toArray ++ xs.toArray) }).get? h'.objs.size = some (LO (acc ++ xs) 0) := by
      rw [eacc]
      exact Heap.get?_push_size _ rfl
    have hSl : S < h'.objs.size := Heap.lt_size hS'
    show wpAny _ A.in1 (updateSeq S (fun _ => #[.ref h'.objs.size]) >>= _) _ _ _
    refine wpAny_bind (wpAny_updateSeq hS1 rfl ?_)
    have hS2 := Heap.get?_update_self (Obj.mapSeq fun _ => #[Value.ref h'.objs.size]) hS1 rfl
    refine wpAny_bind (wpAny_letGo (wpAny_bind (wpAny_updateSeq hS2 rfl (wpAny_pure ⟨plainId_quiet F.plain_sum_loop _, ?_⟩))))
    have keep : ∀ b o, b ≠ S → h'.get? b = some o → (((h'.push { cls := .type "list", data := .seq (acc.toArray ++ xs.toArray) }).update S (Obj.mapSeq fun _ => #[Value.ref h'.objs.size])).update S (Obj.mapSeq fun _ => #[Value.ref h'.objs.size])).get? b = some o := fun b o n e =>
      (Heap.get?_update_other _ _ (Ne.symm n)).trans ((Heap.get?_update_other _ _ (Ne.symm n)).trans (Heap.get?_push_of_some _ e))
    have hsz : (((h'.push { cls := .type "list", data := .seq (acc.toArray ++ xs.toArray) }).update S (Obj.mapSeq fun _ => #[Value.ref h'.objs.size])).update S (Obj.mapSeq fun _ => #[Value.ref h'.objs.size])).objs.size = h'.objs.size + 1 := by rw [Heap.size_update, Heap.size_update, size_push']
    have hS3 := Heap.get?_update_self (Obj.mapSeq fun _ => #[Value.ref h'.objs.size]) hS2 rfl
    refine ih (i + 1) _ h'.objs.size (acc ++ xs) 0 _ (by omega) hlt (W.frame _ _ _ hst' fun b hb o e => keep b o (fun z => hSf (by rw [← z]; exact hb)) e) (fun b o e => keep b o (fun z => by rw [z, hS0] at e; cases e) (hK' b o e)) hS3 ?_ (Ne.symm (Nat.ne_of_lt hSl)) (fun z => Nat.lt_irrefl _ (hSz _ _ hst' _ (W.sub _ z))) (.inl (Nat.le_of_lt (Nat.lt_of_le_of_lt hlim hSl))) hlen fun h'' tk'' r' c' k1 k2 k3 k4 => ?_
    · exact (Heap.get?_update_other _ _ (Nat.ne_of_lt hSl)).trans ((Heap.get?_update_other _ _ (Nat.ne_of_lt hSl)).trans hn1)
    · exact hR h'' tk'' r' c' k1 (by rw [efl]; exact k2) (k3.imp id fun z => z) fun z => by
        rw [z] at hlt
        exact absurd hlt (Nat.not_lt_zero _)
end
section
variable {X : Cx}
def rSumCat (K : PySem.W.Frag) : List V → Hp → VK → Prop := fun xs H Q => ∃ (a b : Addr) (ls : List Addr) (zs : List (List V)), xs = [.ref a, .ref b] ∧ SqL K H a (ls.map V.ref) ∧ H b = some (.lst []) ∧ Paired (fun l z => H l = some (.lst z)) ls zs ∧ zs.flatten.length ≤ sizeLine ∧
  ∀ r H', Same H H' → H' r = some (.lst zs.flatten) → Q (.ref r) H'
theorem items_of {pins : List (Addr × Obj)} {σ : L2.St} {H : Hp} {s : Shared} (I : L2.Inv X pins σ H s) : ∀ {ls : List Addr} {zs : List (List V)} {its : List Value}, Paired (fun l z => H l = some (.lst z)) ls zs → Vals (ls.map V.ref) its →
    ∃ us : List (List Value), its.length = us.length ∧ (∀ (i : Nat) (v : Value), its[i]? = some v → ∃ l m xs, v = Value.ref l ∧ us[i]? = some xs ∧ s.heap.get? l = some (LO xs m)) ∧ Vals zs.flatten us.flatten
  | _, _, _, .nil, h => by
    cases h
    exact ⟨[], rfl, (fun i v e => by cases e), .nil⟩
  | l :: ls, z :: zs, _, .cons r t, h => by
    cases h with
    | cons r1 t1 =>
      obtain ⟨us, e1, e2, e3⟩ := items_of I t t1
      obtain ⟨_, xs, n, rv, _, e⟩ := I.lstM r
      refine ⟨xs :: us, by rw [List.length_cons, List.length_cons, e1], fun i v ei => ?_, by rw [List.flatten_cons, List.flatten_cons]; exact rv.append e3⟩
      cases i with
      | zero =>
        cases ei
        exact ⟨l, n, xs, r1, rfl, e⟩
      | succ i => exact e2 i v ei
theorem cr_sumCat (hc : X.calm = true) : CallR X (.builtin "sum") (rSumCat X.K) := by
  intro pins s σ H vs ws Q J r h
  obtain ⟨a, b, ls, zs, rfl, hs, hb, hp, hlen, q⟩ := h
  obtain ⟨its, rv, hl, hz⟩ := J.list hs
  obtain ⟨u1, u2, rfl, r1, r2⟩ := vals2 r
  cases (show u1 = Value.ref a from r1)
  cases (show u2 = Value.ref b from r2)
  obtain ⟨us, el, hit, hv⟩ := items_of J hp rv
  obtain ⟨_, ib, nb, rvb, _, eb⟩ := J.lstM hb
  cases rvb
  refine call_function_tree F.kind_sum F.plain_sum F.entry_sum (args_sum2 _ _) ?_
  unfold Builtin.«sum»
  simp only [List.length_cons, List.length_nil]
  rw [if_neg (by decide)]
  refine wpAny_bind (wpAny_of_eq (show Builtin.Builtins.bindParams "sum" ["start"] 0 ⟨[Value.ref b], []⟩ = pure [some (.ref b)] from rfl) ?_)
  have hla : a < s.heap.objs.size := by
    obtain ⟨_, e, _⟩ := hl.isList
    exact Heap.lt_size e
  refine wpAny_bind (wpAny_pyIter_list hl.isList ?_)
  refine wpAny_bind (wpAny_pure ?_)
  have eb1 : (s.heap.push { cls := .type "list_iterator", data := .fields #[.ref a, .int 0 0] }).get? b = some (LO [] nb) := Heap.get?_push_of_some _ eb
  have tb : Shared.TypeIs { s with heap := s.heap.push { cls := .type "list_iterator", data := .fields #[.ref a, .int 0 0] } } (.ref b) "list" := ⟨_, eb1, rfl⟩
  simp only [List.forIn_cons, List.forIn_nil]
  refine wpAny_bind (wpAny_bind (wpAny_bind (wpAny_isInstance (T := "list") (b := false) tb PySem.F.sub_list_str ?_)))
  simp only [Bool.false_eq_true, if_false]
  refine wpAny_pure (wpAny_bind (wpAny_bind (wpAny_isInstance (T := "list") (b := false) tb PySem.F.sub_list_bytes ?_)))
  simp only [Bool.false_eq_true, if_false]
  refine wpAny_pure (wpAny_bind (wpAny_bind (wpAny_isInstance (T := "list") (b := false) tb PySem.F.sub_list_bytearray ?_)))
  simp only [Bool.false_eq_true, if_false]
  refine wpAny_pure (wpAny_pure (wpAny_bind (wpAny_newObj_type ?_)))
  have z1 : (s.heap.push { cls := .type "list_iterator", data := .fields #[.ref a, .int 0 0] }).objs.size = s.heap.objs.size + 1 := by rw [Heap.size_push]
  have kp : ∀ c o, s.heap.get? c = some o → ((s.heap.push { cls := .type "list_iterator", data := .fields #[.ref a, .int 0 0] }).push { cls := .type "list", data := .seq #[.ref b] }).get? c = some o := fun c o e => Heap.get?_push_of_some _ (Heap.get?_push_of_some _ e)
  have hI : s.heap.get? s.heap.objs.size = none := Heap.get?_none_of_le (Nat.le_refl _)
  have hS : s.heap.get? (s.heap.push { cls := .type "list_iterator", data := .fields #[.ref a, .int 0 0] }).objs.size = none := Heap.get?_none_of_le (by rw [z1]; exact Nat.le_succ _)
  have hlv : its.length = us.length := el
  have W := Walks.list (prog := X.prog) (w := X.w) (A := X.A.in1) (J.ok.hd hc) s.heap.objs.size a (Nat.ne_of_lt hla) its.toArray
  have ez : its.toArray.size = us.length := by simp [hlv]
  rw [ez] at W
  refine wpAny_pure ⟨plainId_quiet F.plain_sum_loop _, sum_loop (h₀ := s.heap) (ls := us) W (fun i v e => hit i v (by simpa using e)) _ s.heap.objs.size ?_ hS ?_ (Nat.le_of_lt (by rw [z1]; exact Nat.lt_succ_self _)) ?_ us.length 0 _ b [] nb 0 (Nat.sub_zero _) (Nat.zero_le _) ?_ kp (Heap.get?_push_size _ rfl) (Heap.get?_push_of_some _ eb1) ?_ ?_ (.inr rfl) ?_ fun h' tk r' c' k1 k2 k3 k4 => ?_⟩
  · intro z
    rw [z1] at z
    rcases List.mem_cons.mp z with z | z
    · exact absurd z (Nat.succ_ne_self _)
    · rw [← List.mem_singleton.mp z] at hla
      exact absurd hla (Nat.not_lt.mpr (Nat.le_succ _))
  · intro c hc'
    rw [List.mem_singleton.mp hc']
    exact hI
  · rintro i h ⟨⟨_, e1, _⟩, _, e2, _⟩ c hc'
    rcases List.mem_cons.mp hc' with z | z
    · rw [z]
      exact Heap.lt_size e1
    · rw [List.mem_singleton.mp z]
      exact Heap.lt_size e2
  · exact ⟨⟨_, Heap.get?_push_of_some _ (Heap.get?_push_size _ rfl), rfl, rfl⟩, (hl.isList.push _).push _⟩
  · intro z
    have y := Heap.lt_size eb
    rw [z, z1] at y
    exact absurd y (Nat.not_lt.mpr (Nat.le_succ _))
  · intro z
    have y := Heap.lt_size eb
    rw [List.mem_singleton.mp z] at y
    exact Nat.lt_irrefl _ y
  · rw [List.nil_append, List.drop_zero, ← hv.length]
    exact hlen
  · rw [List.nil_append, List.drop_zero] at k2
    by_cases hu : us = []
    · have er := k4 hu
      subst er
      have J' : L2.Inv X pins σ H { s with heap := h', toks := tk } := J.kept k1
      have ez : zs.flatten = [] := by
        have y := hv.length
        rw [hu] at y
        exact List.eq_nil_of_length_eq_zero y
      exact ⟨.ref r', H, J', rfl, q r' H (fun _ _ e => e) (by rw [ez]; exact hb)⟩
    · have hr := k3.resolve_right hu
      have fr : H r' = none := J.hok.fresh hr
      exact ⟨.ref r', L2.upd H r' (.lst zs.flatten), J.laid (t' := tk) k1 hr ⟨hlen, _, c', hv, k2⟩, rfl, q r' _ (fun c o e => by
        rw [upd_ne (fun z => by rw [z, fr] at e; cases e)]
        exact e) upd_same⟩
end
/-! ### a walk over what may be a list or a tuple -/
section
variable {X : Cx} {tg it : Expr} {t1 t2 : TI}
theorem pi_or (h1 : PI X tg it t1) (h2 : PI X tg it t2) : PI X tg it (fun σ H R => t1 σ H R ∨ t2 σ H R) :=
  ⟨fun pins s σ H R I h => h.elim (h1.run pins s σ H R I) (h2.run pins s σ H R I)⟩
/-- .. of a local name: any walk over the items will do -/
def iSeqV (K : PySem.W.Frag) (i : Nat) : TI := fun σ H R => ∃ (a : Addr) (ws : List V), σ[i]? = some (some (.ref a)) ∧ (SqL K H a ws ∨ SqT K H a ws) ∧
  ∀ (J : It) (G : Hp → Prop), Walk J ws.length G (YAt ws) → (∀ H2 : Hp, (∀ o, H a = some o → H2 a = some o) → G H2) → R J H
theorem sql_keep {K : PySem.W.Frag} {H H2 : Hp} {a : Addr} {ws : List V} (h : SqL K H a ws) (k : ∀ o, H a = some o → H2 a = some o) : SqL K H2 a ws := by
  rcases h with (e | ⟨o, e⟩) | h
  · exact .inl (.inl (k _ e))
  · exact .inl (.inr ⟨o, k _ e⟩)
  · exact .inr h
theorem sqt_keep {K : PySem.W.Frag} {H H2 : Hp} {a : Addr} {ws : List V} (h : SqT K H a ws) (k : ∀ o, H a = some o → H2 a = some o) : SqT K H2 a ws := by
  rcases h with (e | ⟨o, e⟩) | h
  · exact .inl (.inl (k _ e))
  · exact .inl (.inr ⟨o, k _ e⟩)
  · exact .inr h
theorem pi_seqV {i : Nat} (h : PE X it (tVar i)) : PI X tg it (iSeqV X.K i) := by
  refine ⟨fun pins s σ H R I hw => ?_⟩
  obtain ⟨a, ws, e, hs, q⟩ := hw
  rcases hs with hs | hs
  · exact (pi_list h).run pins s σ H R I ⟨_, e, a, rfl, ⟨ws, hs⟩, q _ _ walk_list fun H2 k => sql_keep hs k⟩
  · exact (pi_tup h).run pins s σ H R I ⟨_, e, a, rfl, ⟨ws, hs⟩, q _ _ walk_tup fun H2 k => sqt_keep hs k⟩
theorem pe_fldB {K : PySem.W.Frag} {o : Expr} {f : Str} {pos : Pos} {ta : TE} (hK : X.K = K) (ho : PE X o ta) (hp : attributeBase o f X.env (eval o X.env) = eval o X.env) : PE X (.Attribute o f pos) (tFld K ta f) := hK ▸ pe_fld ho hp
def rJoinK (K : PySem.W.Frag) : V → List V → Hp → VK → Prop := fun x xs H Q => ∃ a p, ∃ ys : List Str, x = .str a ∧ xs = [.ref p] ∧ (SqL K H p (ys.map V.str) ∨ SqT K H p (ys.map V.str)) ∧ (ys.map (·.length)).sum + ys.length * a.length ≤ 16777216 ∧ Q (.str (Txt.join a ys)) H
theorem pe_joinB {K : PySem.W.Frag} {o e : Expr} {to te : TE} {apos pos : Pos} (hK : X.K = K) (ho : PE X o to) (he : PE X e te) (hs : starEach [e] X.env = [(false, eval e X.env)] := by rfl) (hbase : attributeBase o "join" X.env (eval o X.env) = eval o X.env := by rfl)
    (hline : (apos.endLine == pos.line) = true := by rfl) : PE X (.Call (.Attribute o "join" apos) [e] [] pos) (tM1 (rJoinK K) to te) := hK ▸ pe_join ho he hs hbase hline
end
end RyS
/-! A law that calls repr: its def is run at the claim's own caller, whose guards are known. -/
namespace RyG
open PySem PySem.Spec PyProof.Rows
open L2 hiding St
abbrev St := L2.St
/-- a law's def run by the claim -/
def LawRun (P : Program) (w : World) (K : PySem.W.Frag) (mg : Str → Option Value) (base : Heap) (CX : CXT) (f : Addr) (fd : FuncData) (ps : List Str) (sp : Sp) : Prop :=
  ∀ (s : Shared) (H : Hp) (args : Args) (us : List Value) (vs : List V) (Q : VK) (E : XK), Env0 P w K mg base callerA [] s H → BindsTo s fd args (ps.zip us) → Vals vs us → sp vs H Q E → codeAny (model P w) callerA (.call (.ref f) args) (CR CX [] P w H s Q E) s
section
variable {CX : CXT} {P : Program} {w : World} {K : PySem.W.Frag} {mg : Str → Option Value} {base : Heap}
theorem run_of {k : Nat} {f : Addr} {x qual : Str} {params : Arguments} {body : List Stmt} {scope : Scope} {dvs : List V} {kws : List (Str × V)} {fd : FuncData} {N ps : List Str} {sp : Sp} (F : FunD K x qual params body scope dvs kws f fd) (S : FnScope N ps scope)
    (len : ∀ vs H Q E, sp vs H Q E → vs.length = ps.length) (hR : Room (k + 1) callerA)
    (hbody : ∀ (cdv : Value) (s : Shared) (H : Hp) (vs : List V) (Q : VK) (E : XK), Room k (callerA.deeper (envOfC qual scope s.heap.objs.size f cdv)) → sp vs H Q E →
      ∃ t, PSs (cxOf CX P w K mg base N qual scope f cdv callerA [] s H E) body t ∧ t { nx := fun _ H' => Q .non H', rt := Q } (start N vs) H) : LawRun P w K mg base CX f fd ps sp := by
  intro s H args us vs Q E env bt rel wish
  obtain ⟨oc, od, dV, kV, doc, pm, an, cdv, ct, osl, rfl, lk, codes, _, _⟩ := F.ex
  have sizes := len _ _ _ _ wish
  have inK : K.In s.heap := env.mod.kin.keeps fun b o e => (env.bs b o e).1
  have nolim : s.heap.NoLimit := env.mod.nolimit.keeps (fun b o e => (env.bs b o e).1)
  have kinds : ∀ pr ∈ ps.zip us, scope.names.lookup pr.1 = some .local ∨ (scope.names.lookup pr.1 = some .cell ∧ ((cellsFrom (s.heap.objs.size + 1) scope.names []).lookup pr.1).isSome = true) := by
    rintro ⟨nm, u⟩ hm
    exact (S.par nm (List.of_mem_zip hm).1).imp id (fun q => ⟨q, PySem.W.cellsFrom_some _ _ _ (.inl q)⟩)
  refine codeAny_call_function hR.depth (inK _ _ lk) rfl S.co S.gen rfl (PySem.W.codeRec_of inK codes) (bt _ _ _ _ (wpAny_newFunctionEnv_cells S.kind kinds ?_))
  intro en he s1 made
  subst he
  obtain ⟨t, deriv, holds⟩ := hbody cdv s H vs Q E (hR.deeper _) wish
  refine ⟨nolim.keeps made.toInCall.keep, codeAny_func (wpAny_mono (deriv.run [] s1 (start N vs) H _ (inv_start S hR.hd env sizes rel made) holds) ?_ fun _ _ z => z)⟩
  intro fl s' z
  match fl, z with
  | .ret _, z => obtain ⟨v, _, H', J, rv, q⟩ := z; exact ⟨v, H', J.os, J.bare, J.base, J.hok, rv, q⟩
  | .next, z => obtain ⟨_, H', J, q⟩ := z; exact ⟨V.non, H', J.os, J.bare, J.base, J.hok, rfl, q⟩
  | .brk, z => obtain ⟨_, _, _, q⟩ := z; exact False.elim q
  | .cont, z => obtain ⟨_, _, _, q⟩ := z; exact False.elim q
section
variable {fa a : Addr} {fd : FuncData} {x : Str} {sp : Sp} {mb : Str → Option Value} {s₁ : Shared} {vs : List Value} {ns : List Int} {H : Hp}
/-- what the claim asks of the run's end -/
def Fine (s₁ : Shared) : Result → Shared → Prop := fun r s' => r = .ok (.ret (.bool true)) ∧ OldK s₁.heap s'.heap ∧ s'.os = s₁.os ∧ AllBare s'.gens
theorem hid_none {b : Addr} (hA : ∀ b, H b ≠ none → b = a) (n : b ≠ a) : H b = none := Classical.byContradiction fun z => n (hA b z)
theorem claim_core (KX : K.In s₁.heap) (gl : s₁.heap.Ns mainGlobals mg) (bl : s₁.heap.Ns builtinsNs mb) (bb : ∀ x : Str, x ≠ "__name__" → mb x = bootBuiltins x) (nl : s₁.heap.NoLimit) (gz : s₁.gens = #[])
    (at_a : s₁.heap.get? a = some { cls := .type "list", data := .seq vs.toArray }) (F : ∀ base : Heap, K.In base → base.Ns mainGlobals mg → LawRun P w K mg base CX fa fd [x] sp) (bind : ∀ (s : Shared) (u : Value), BindsTo s fd ⟨[u], []⟩ [(x, u)])
    (hCX : ∀ e s', CX [] H s₁ (fun _ _ _ => False) e s' → False) (wish : sp [.ref a] H (fun v _ => v = .bl true) fun _ _ _ => False) (only : Only H) (ok : HOk P w H s₁.heap) (hA : ∀ b, H b ≠ none → b = a) (hK : H a ≠ none → K.lookup a = none) :
    codeAny (model P w) callerA (.call (.ref fa) ⟨[.ref a], []⟩) (Fine s₁) s₁ := by
  have nd : ∀ {b : Addr} {o : Obj} {es : Array DictEntry} {ep : Nat}, s₁.heap.get? b = some o → o.data = .dict es ep → H b = none := by
    intro b o es ep e d
    refine hid_none hA fun z => ?_
    rw [z, at_a] at e
    cases e
    cases (show Data.seq vs.toArray 0 = Data.dict es ep from d)
  have nsb : ∀ {b : Addr} {m : Str → Option Value}, s₁.heap.Ns b m → (hidT s₁.heap H).Ns b m := by
    rintro b m ⟨o, es, ep, e, d, r⟩
    exact ⟨o, es, ep, hidT_get e (nd e d), d, r⟩
  have inb : K.In (hidT s₁.heap H) := by
    intro b o e
    refine hidT_get (KX b o e) (Classical.byContradiction fun z => ?_)
    have y := hA b z
    subst y
    rw [hK z] at e
    cases e
  obtain ⟨mc, c1, c2⟩ := nl
  have env : Env0 P w K mg (hidT s₁.heap H) callerA [] s₁ H := ⟨rfl, ⟨inb, nsb gl, ⟨mb, nsb bl, bb⟩, ⟨mc, nsb c1, c2⟩⟩, (fun b o e => of_hidT e), Nat.le_of_eq (hidT_size _ _), trivial, (fun b z => by cases z), ok, .of_eq gz⟩
  refine codeAny_mono (F _ inb (nsb gl) s₁ H ⟨[.ref a], []⟩ [.ref a] [.ref a] _ _ env (bind s₁ (.ref a)) (.cons rfl .nil) wish) ?_
  intro r s' z
  match r, z with
  | .error e, z => exact (hCX e s' z).elim
  | .ok .next, z => exact False.elim z
  | .ok .brk, z => exact False.elim z
  | .ok .cont, z => exact False.elim z
  | .ok (.ret u), z =>
    obtain ⟨v, H', os, bare, un, ok', rv, rfl⟩ := z
    cases (show u = Value.bool true from rv)
    refine ⟨rfl, OldK.of_keep ?_, os, bare⟩
    intro b o e
    rcases only b with q | ⟨ob, xs, q⟩
    · exact un.keep b o e q (fun y => by cases y) (fun y => by cases y)
    · have k1 := (ok b _ q).1
      have k2 := (ok' b _ (un.frzs b ob _ q)).1
      rw [e] at k1
      cases k1
      exact k2
theorem claim_run (KX : K.In s₁.heap) (gl : s₁.heap.Ns mainGlobals mg) (bl : s₁.heap.Ns builtinsNs mb) (bb : ∀ x : Str, x ≠ "__name__" → mb x = bootBuiltins x) (nl : s₁.heap.NoLimit) (gz : s₁.gens = #[])
    (at_a : s₁.heap.get? a = some { cls := .type "list", data := .seq vs.toArray }) (nums : IntsAre vs ns) (few : ns.length ≤ sizeLine) (F : ∀ base : Heap, K.In base → base.Ns mainGlobals mg → LawRun P w K mg base CX fa fd [x] sp) (bind : ∀ (s : Shared) (u : Value), BindsTo s fd ⟨[u], []⟩ [(x, u)])
    (wish : ∀ H : Hp, Only H → SqL K H a (ns.map V.int) → sp [.ref a] H (fun v _ => v = .bl true) fun _ _ _ => False) (hCX : ∀ H e s', CX [] H s₁ (fun _ _ _ => False) e s' → False) :
    codeAny (model P w) callerA (.call (.ref fa) ⟨[.ref a], []⟩) (Fine s₁) s₁ := by
  have rel := vals_ints nums
  have lv := nums.length
  cases kl : K.lookup a with
  | some o =>
    have e := KX a o kl
    rw [at_a] at e
    cases e
    have none_all : Only (fun _ => none) := fun _ => .inl rfl
    exact claim_core (H := fun _ => none) KX gl bl bb nl gz at_a F bind (fun e s' => hCX _ e s') (wish _ none_all (.inr ⟨_, vs.toArray, 0, kl, rfl, rfl, rfl, by rw [List.size_toArray, lv]; exact few, by rw [List.toList_toArray]; exact rel⟩)) none_all (fun b u z => by cases z) (fun b z => absurd rfl z) fun z => absurd rfl z
  | none =>
    have only : Only (fun b => if b = a then some (.frz { cls := .type "list", data := .seq vs.toArray } (.lst (ns.map V.int))) else none) := by
      intro b
      by_cases y : b = a
      · exact .inr ⟨_, _, if_pos y⟩
      · exact .inl (if_neg y)
    refine claim_core KX gl bl bb nl gz at_a F bind (fun e s' => hCX _ e s') (wish _ only (.inl (.inr ⟨_, if_pos rfl⟩))) only ?_ ?_ fun _ => kl
    · intro b u z
      by_cases y : b = a
      · have w1 := (if_pos y).symm.trans z
        cases w1
        rw [y]
        exact ⟨at_a, by rw [List.length_map]; exact few, vs, 0, rel, at_a⟩
      · have w1 := (if_neg y).symm.trans z
        cases w1
    · intro b z
      exact Classical.byContradiction fun y => z (if_neg y)
end
end
/-- the law's end -/
theorem walk_run {l : PySem.W.OpenLaw} {n : Nat} {q : Program} {loose : List Str} {XP : (Str → Option Value) → Heap → Prop} {YP : World → Heap → Prop} {d : DefRec} {CX : CXT} {x : Str} (most : l.most = some n) (few : n ≤ sizeLine) (nodef : d.params.defaults = [])
    (F : ∀ (w : World) (mg : Str → Option Value) (fa : Addr) (h : Heap), YP w h → h.Ns mainGlobals mg → mg d.name = some (.ref fa) →
      ∃ (K : PySem.W.Frag) (fd : FuncData) (sp : Sp), K.In h ∧ (∀ (s : Shared) (u : Value), BindsTo s fd ⟨[u], []⟩ [(x, u)]) ∧
        (∀ (H : Hp) (a : Addr) (ns : List Int), ns.length ≤ n → Only H → SqL K H a (ns.map V.int) → sp [.ref a] H (fun v _ => v = .bl true) fun _ _ _ => False) ∧ ∀ base : Heap, K.In base → base.Ns mainGlobals mg → LawRun l.prog w K mg base CX fa fd [x] sp)
    (hCX : ∀ (H : Hp) (s : Shared) (e : Value) (s' : Shared), CX [] H s (fun _ _ _ => False) e s' → False) : PySem.W.WalkO q loose XP YP l.row.toRowW d [] (fun f vs => PySem.call f vs) := by
  refine Att.attach_call most nodef ?_
  intro w s₀ s₁ mg mb fa o pm cd doc a vs ns G Y ho hd hcd hmg hobj hints hlen hg
  obtain ⟨K, fd, sp, KX, bind, wish, runs⟩ := F w mg fa _ Y G.T.g hmg
  exact claim_run KX G.T.g G.T.b G.T.builtins G.T.nolimit hg hobj hints (Nat.le_trans hlen few) runs bind (fun H o z => wish H a ns hlen o z) fun H e s' => hCX H s₁ e s'
/-! ### repr of data -/
section
variable {X : Cx}
theorem shown_of {pins : List (Addr × Obj)} {σ : L2.St} {H : Hp} {s : Shared} (I : L2.Inv X pins σ H s) {v : V} {u : Value} {d : PyData} (h : Dp X.K H v d) (r : RelV v u) : ∃ as, Reads s.heap u d as := Dp.reads I d v u h r
/-- repr(x), x a list of data without dicts -/
theorem cr_reprD (hg : X.A.guards = some []) (hu : X.A.units + 64 < cLine) : CallR X (.builtin "repr") (fun xs H Q => ∃ (a : Addr) (d : PyData), xs = [.ref a] ∧ Dp X.K H (.ref a) d ∧ d.showable = true ∧ d.hasDict = false ∧ d.depth ≤ 60 ∧ d.shown.length ≤ sizeLine ∧ Q (.str d.shown) H) := by
  intro pins s σ H xs us Q I r h
  obtain ⟨a, d, rfl, hd, h1, h2, h3, h4, q⟩ := h
  obtain rfl := Vals.ref1 r
  obtain ⟨as, rd⟩ := shown_of I hd (show RelV (.ref a) (Value.ref a) from rfl)
  refine repr_of_reads' rd h1 (PyData.noDict_hsm h2) hg (by omega) (fun _ _ e => e) (fun h' u tk k => ?_) h4
  exact ⟨.str d.shown, H, I.kept (t' := tk) k, ⟨u, rfl⟩, q⟩
end
end RyG
/-! x.rpartition(y); tuples and texts compared; a dict whose keys are tuples of the text, as it is written and read. -/
namespace RyV
open PySem PySem.Spec PyProof.Rows
open L2 hiding St
abbrev St := L2.St
section
variable {X : Cx}
/-- x.rpartition(y) -/
def rpart (a b : Str) : Str × Str × Str := match PySem.Builtin.Str.lastOccurrence a b 0 a.length with
  | some i => (PySem.Builtin.Str.strSub a 0 i, b, PySem.Builtin.Str.strSub a (i + b.length) a.length)
  | none => ("", "", a)
theorem mt_rpartition : MtR X "str.rpartition" (fun x xs H Q => ∃ a b, x = .str a ∧ xs = [.str b] ∧ (b.length == 0) = false ∧ a.length ≤ sizeLine ∧ ∀ p, H p = none → Q (.ref p) (upd H p (.tup [.str (rpart a b).1, .str (rpart a b).2.1, .str (rpart a b).2.2]))) := by
  intro pins s σ H x xs v us Q I rx rs h
  obtain ⟨a, b, rfl, rfl, hb, hz, h⟩ := h
  obtain ⟨t, rfl⟩ := rx
  cases rs with
  | cons r1 rs =>
    cases rs
    obtain ⟨u, rfl⟩ := r1
    refine call_meets F.slot_str_rpartition (typeIs_str _ _ _) F.entry_str_rpartition (F.args_str_rpartition_2 _ _) (meets_str_rpartition a b t u hb hz) ?_
    unfold rpart at h
    revert h
    cases PySem.Builtin.Str.lastOccurrence a b 0 a.length with
    | none => intro h; exact laid_parts I h
    | some i => intro h; exact laid_parts I h
/-- tuples and the empty one -/
def rNilT (K : PySem.W.Frag) (neg : Bool) : R2 := fun x y H Q => ∃ (a b : Addr) (xs : List V), x = .ref a ∧ y = .ref b ∧ SqT K H a xs ∧ SqT K H b [] ∧ Q (.bl (if neg then !xs.isEmpty else xs.isEmpty)) H
theorem op_neNilT (hu : X.A.units + 64 < cLine) : OpR X (compareOp .NotEq) (rNilT X.K true) := by
  intro pins s σ H x y v u Q I rx ry h
  obtain ⟨a, b, xs, rfl, rfl, ha, hb, q⟩ := h
  cases rx
  cases ry
  obtain ⟨its, rv, pl, _⟩ := I.tuple ha
  obtain ⟨its2, rv2, pl2, _⟩ := I.tuple hb
  have e2 : its2 = [] := List.eq_nil_of_length_eq_zero rv2.length.symm
  subst e2
  have hu0 : X.A.units < cLine := by omega
  have z := SeqAt.RcNeAt.tuples (e := fun _ => true) pl pl2 hu0 (fun j _ h1 => absurd h1 (Nat.not_lt_zero _)) X.prog X.w X.xe (fun v s' => ∃ w H', Inv X pins σ H' s' ∧ RelV w v ∧ Q w H')
  have e : (!((List.range (min its.toArray.size ([] : List Value).toArray.size)).all (fun _ => true) && its.toArray.size == ([] : List Value).toArray.size)) = !xs.isEmpty := by
    cases xs with
    | nil =>
      have e1 : its = [] := List.eq_nil_of_length_eq_zero rv.length.symm
      subst e1
      rfl
    | cons z xs =>
      have hl := rv.length
      rw [List.length_cons] at hl
      have e3 : (its.toArray.size == ([] : List Value).toArray.size) = false := by
        rw [List.size_toArray, ← hl]
        rfl
      rw [e3, Bool.and_false]
      rfl
  exact z ⟨.bl _, H, I, by rw [e]; rfl, q⟩
/-- a text or a tuple, beside a text -/
def rNeC (K : PySem.W.Frag) : R2 := fun x y H Q => ∃ b, y = .str b ∧ ((∃ a, x = .str a ∧ Q (.bl (!decide (V.str a = V.str b))) H) ∨ ∃ a xs, x = .ref a ∧ SqT K H a xs ∧ Q (.bl true) H)
theorem op_neC (hu : X.A.units + 64 < cLine) : OpR X (compareOp .NotEq) (rNeC X.K) := by
  intro pins s σ H x y v u Q I rx ry h
  obtain ⟨b, rfl, h⟩ := h
  rcases h with ⟨a, rfl, q⟩ | ⟨a, xs, rfl, ha, q⟩
  · exact op_ne pins s σ H _ _ v u Q I rx ry ⟨rfl, q⟩
  · cases rx
    obtain ⟨t, rfl⟩ := ry
    obtain ⟨its, rv, pl, _⟩ := I.tuple ha
    exact SeqAt.RcNeAt.tuple_str b t pl (by omega) X.prog X.w X.xe _ ⟨.bl true, H, I, rfl, q⟩
end
/-- o.m(e, ..) of a built-in's method, the rule named with its K -/
theorem pe_bmB {X : Cx} {K : PySem.W.Frag} {o e : Expr} {es : List Expr} {to : TE} {t : TA} {name : Str} {apos cpos : Pos} {T id : String} {r : V → List V → Hp → VK → Prop} (hK : X.K = K) (pa : PlainAttrs T) (slot : Slot T name id) (hty : typeOf (.builtin id) = pure (.type "method_descriptor")) (hm : MtR X id r) (ho : PE X o to) (ha : PA X (e :: es) t)
    (hbase : attributeBase o name X.env (eval o X.env) = eval o X.env := by rfl)
    (hfew : ((backTo cpos (starEach (e :: es) X.env)).all (fun x => !x.1) && (backToKw cpos (keywordEach [] X.env)).all (fun x => x.1.isSome)
      && decide ((e :: es).length + ([] : List Keyword).length + (if ([] : List Keyword).isEmpty then 0 else 1) < 30)) = true := by rfl)
    (hline : (apos.endLine == cpos.line) = true := by rfl) (hs : starEach (e :: es) X.env = (false, eval e X.env) :: starEach es X.env := by rfl) (hplain : (backTo cpos (starEach es X.env)).any (·.1) = false := by rfl) :
    PE X (.Call (.Attribute o name apos) (e :: es) [] cpos) (tBM K T r to t) := hK ▸ pe_bm pa slot hty hm ho ha hbase hfew hline hs hplain
/-- tuple(x), the rule named with its K -/
def rTupOf (K : PySem.W.Frag) : List V → Hp → VK → Prop := fun xs H Q => ∃ p ys, xs = [.ref p] ∧ ((SqL K H p ys ∧ ∀ l, H l = none → Q (.ref l) (upd H l (.tup ys))) ∨ (SqT K H p ys ∧ Q (.ref p) H))
theorem call_tupOf {X : Cx} : CallR X (.type "tuple") (rTupOf X.K) := call_tuple_of
/-- a tuple or a list is unpacked -/
theorem pg_or {X : Cx} {tg : Expr} {t1 t2 : TG} (h1 : PG X tg t1) (h2 : PG X tg t2) : PG X tg (fun v σ H Q => t1 v σ H Q ∨ t2 v σ H Q) :=
  ⟨fun pins s σ H v u Q I r hw => hw.elim (fun z => h1.run pins s σ H v u Q I r z) fun z => h2.run pins s σ H v u Q I r z⟩
/-! ### dicts whose keys are tuples that may stand in the text -/
section
variable {P : Program} {w : World} {K : PySem.W.Frag}
def TxRel (xs : List (List Key × Addr × V)) (ys : List (List Key × Addr × Value)) : Prop := Paired (fun (p : List Key × Addr × V) (q : List Key × Addr × Value) => p.1 = q.1 ∧ p.2.1 = q.2.1 ∧ RelV p.2.2 q.2.2) xs ys
def TxO (P : Program) (w : World) (a : Addr) (xs : List (List Key × Addr × V)) : HO := .ext fun h => (a == sysModules) = false ∧ ∃ ys, TxRel xs ys ∧ ∃ o es ep, h.get? a = some o ∧ o.ExactDict ∧ o.data = .dict es ep ∧ es.toList = ys.map (entryOfKey (tupleKind (mixKind P w))) ∧ (ys.map (·.1)).Nodup
def txAt (xs : List (List Key × Addr × V)) (k : List Key) : Option V := (xs.find? fun x => decide (x.1 = k)).map (·.2.2)
theorem tx_at {xs : List (List Key × Addr × V)} {ys : List (List Key × Addr × Value)} (h : TxRel xs ys) (k : List Key) : RelO (txAt xs k) ((atKey ys k).map (·.2)) := by
  induction h with
  | nil => exact True.intro
  | @cons p q ps qs r t ih =>
    unfold txAt atKey
    by_cases e : p.1 = k
    · have e' : q.1 = k := r.1.symm.trans e
      simp only [List.find?_cons, e, e', decide_true]
      exact r.2.2
    · have e' : ¬ q.1 = k := fun z => e (r.1.trans z)
      simp only [List.find?_cons, e, e', decide_false]
      exact ih
end
section
variable {X : Cx} {pins : List (Addr × Obj)} {σ : St} {H : Hp} {s : Shared}
theorem key_sq {ks : List Key} {a : Addr} (I : L2.Inv X pins σ H s) (h : SqT X.K H a (ks.map kV)) : (tupleKind (mixKind X.prog X.w)).is s.heap ks a := by
  obtain ⟨its, r, ⟨o, h1, h2, n, h3⟩, _⟩ := I.tuple h
  exact ⟨o, its.toArray, n, h1, h2, h3, by simpa using items_are r⟩
theorem tx_of {a : Addr} {xs : List (List Key × Addr × V)} (I : L2.Inv X pins σ H s) (e : H a = some (TxO X.prog X.w a xs)) (hk : ∀ x ∈ xs, SqT X.K H x.2.1 (x.1.map kV)) : (a == sysModules) = false ∧ ∃ ys, TxRel xs ys ∧ s.heap.DictOfH (tupleKind (mixKind X.prog X.w)) a ys := by
  obtain ⟨⟨z, ys, r, o, es, ep, h1, h2, h3, h4, h5⟩, -⟩ := (show ObjOk X.prog X.w H s.heap a (TxO X.prog X.w a xs) from I.hok a _ e)
  refine ⟨z, ys, r, o, es, ep, h1, h2, h3, h4, ?_, h5⟩
  clear h4 h5 e
  induction r with
  | nil => intro x hx; cases hx
  | @cons p q ps qs r t ih =>
    intro x hx
    rcases List.mem_cons.mp hx with rfl | hx
    · rw [← r.1, ← r.2.1]
      exact key_sq I (hk p (List.mem_cons_self ..))
    · exact ih (fun y hy => hk y (List.mem_cons_of_mem _ hy)) x hx
/-- d[t] of such a dict -/
def rIxTx (P : Program) (w : World) (K : PySem.W.Frag) : V → V → Hp → VK → Prop := fun x y H Q => ∃ (a b : Addr) (xs : List (List Key × Addr × V)) (k : List Key) (v : V), x = .ref a ∧ y = .ref b ∧ H a = some (TxO P w a xs) ∧ (∀ x ∈ xs, SqT K H x.2.1 (x.1.map kV)) ∧ SqT K H b (k.map kV) ∧ txAt xs k = some v ∧ Q v H
theorem ix_tx (hu : X.A.units + 1 < cLine) : IxR X (rIxTx X.prog X.w X.K) := by
  intro value slice pins s σ H x y v u Q I rx ry h hs
  obtain ⟨a, b, xs, k, z, rfl, rfl, ea, hk, hb, ex, q⟩ := h
  cases rx
  cases ry
  obtain ⟨_, ys, r, dd⟩ := tx_of I ea hk
  have rl := tx_at r k
  rw [ex] at rl
  obtain ⟨w', hw, rw'⟩ := RelO.some_of rl
  obtain ⟨p, hp, hp2⟩ := Option.map_eq_some_iff.mp hw
  refine tail_any dd.typeIs slot_dict_getitem.lookup (wpAny_getItem_heap (tupleKind_room_in1 hu) (key_sq I hb) dd hp ?_) hs
  rw [hp2]
  exact ⟨z, H, I.tok _, rw', q⟩
end
theorem storedAll_new {κ : Type} [DecidableEq κ] : ∀ (ps acc : List (κ × Addr × Value)), ((acc ++ ps).map (·.1)).Nodup → storedAllH acc ps = acc ++ ps
  | [], acc, _ => (List.append_nil acc).symm
  | p :: ps, acc, h => by
    have e : atKey acc p.1 = none := by
      unfold atKey
      rw [Option.map_eq_none_iff, List.find?_eq_none]
      intro x hx z
      have z' := of_decide_eq_true z
      rw [List.map_append, List.nodup_append] at h
      exact h.2.2 x.1 (List.mem_map.mpr ⟨x, hx, rfl⟩) p.1 (List.mem_map.mpr ⟨p, List.mem_cons_self .., rfl⟩) z'
    show storedAllH (storedH acc p.1 p.2.1 p.2.2) ps = _
    rw [storedH_new e, storedAll_new ps _ (by rw [List.append_assoc]; exact h), List.append_assoc]
    rfl
section
variable {X : Cx} {pins : List (Addr × Obj)} {σ : St} {H : Hp} {s : Shared}
/-- {t: v, ..}, each t a tuple of ints and texts; they are different -/
def tDispT (P : Program) (w : World) (K : PySem.W.Frag) (trs : List (TE × TE)) : TE := fun σ H Q => ∀ p, H p = none → tPairs trs σ (upd H p (.dT [])) fun ps H2 => H2 p = some (.dT []) ∧ ∃ xs : List (List Key × Addr × V), ps = xs.map (fun x => (V.ref x.2.1, x.2.2)) ∧ xs.length ≤ 15 ∧ (xs.map (·.1)).Nodup ∧
  (∀ x ∈ xs, SqT K H2 x.2.1 (x.1.map kV)) ∧ Q (.ref p) (upd H2 p (TxO P w p xs))
theorem carriesH_of {xs : List (List Key × Addr × V)} (I : L2.Inv X pins σ H s) : ∀ {ws : List (Value × Value)}, (∀ x ∈ xs, SqT X.K H x.2.1 (x.1.map kV)) → VV (xs.map fun x => (V.ref x.2.1, x.2.2)) ws → ∃ ys, CarriesH (tupleKind (mixKind X.prog X.w)) s.heap ws ys ∧ TxRel xs ys := by
  induction xs with
  | nil => intro ws _ r; rw [List.map_nil] at r; cases r; exact ⟨[], True.intro, .nil⟩
  | cons p xs ih =>
    intro ws hk r
    rw [List.map_cons] at r
    cases r with
    | @cons a b as bs h t =>
      obtain ⟨ys, c, q⟩ := ih (fun x hx => hk x (List.mem_cons_of_mem _ hx)) t
      obtain ⟨b1, b2⟩ := b
      obtain ⟨h1, h2⟩ := h
      cases (show b1 = Value.ref p.2.1 from h1)
      exact ⟨(p.1, p.2.1, b2) :: ys, ⟨rfl, rfl, key_sq I (hk p (List.mem_cons_self ..)), c⟩, .cons ⟨rfl, rfl, h2⟩ q⟩
theorem pe_dispT {pos : Pos} {keys : List (Option Expr)} {values : List Expr} {trs : List (TE × TE)} (hu : X.A.units + 1 < cLine) (h : PPs X pos keys values trs) (hall : keys.all (·.isSome) = true) (hl : keys.length = values.length) (h0 : keys ≠ [])
    (h15 : keys.length ≤ 15) : PE X (.Dict keys values pos) (tDispT X.prog X.w X.K trs) := by
  refine ⟨fun pins s σ H Q I q => ?_⟩
  have hn := I.hok.fresh (Nat.le_refl s.heap.objs.size)
  have I1 := I.laid (a := s.heap.objs.size) (o := .dT []) (h' := s.heap.push { cls := .type "dict", data := .dict #[] }) (t' := s.toks) (fun _ _ q => Heap.get?_push_of_some _ q) (Nat.le_refl _) (dt_empty s.heap I.big)
  have hlen := pairTrees_length keys values X.env pos hall hl
  rw [arm_eval_Dict, zip_pairTrees keys values X.env pos hall hl, dictDisplay_pairs _ (fun z => h0 (List.length_eq_zero_iff.mp (by rw [← hlen, z]; rfl))) (by rw [hlen]; omega)]
  refine wpAny_bind (wpAny_standAt (wpAny_bind (wpAny_subDictH (knd := tupleKind (mixKind X.prog X.w)) (Q := fun d s' => wpAny (model X.prog X.w) X.A (pure (Value.ref d)) (EP X pins σ Q) X.xe s') (show X.A.units < cLine by omega) (by rw [hlen]; exact h15) ?_)))
  refine thn (h.run pins _ σ _ _ I1 (q _ hn)) fun ws s2 ⟨ps, H2, I2, rel, e, xs, ep, lk, nd, hk, q2⟩ => ?_
  subst ep
  obtain ⟨ys, c, r⟩ := carriesH_of I2 hk rel
  obtain ⟨z, hd, zs, r0, dd⟩ := dt_of I2.hok e
  cases r0
  refine ⟨ys, c, dd, fun h' tk dd' hs => wpAny_pure ?_⟩
  have ek : ys.map (·.1) = xs.map (·.1) := by
    clear dd' c hk lk nd q2 rel
    induction r with
    | nil => rfl
    | cons r t ih => rw [List.map_cons, List.map_cons, ih, r.1]
  rw [storedAll_new ys [] (by rw [List.nil_append, ek]; exact nd), List.nil_append] at dd'
  obtain ⟨o, es, ep, h1, h2, h3, h4, _, h5⟩ := dd'
  refine ⟨.ref s.heap.objs.size, _, ?_, rfl, q2⟩
  refine d_write I2 (by rw [e]; exact True.intro) hs ⟨o, h1⟩ ?_
  exact ⟨⟨hd, ys, r, o, es, ep, h1, h2, h3, h4, h5⟩, ⟨o, h1⟩, fun ha hb ⟨z1, ys1, r1, o1, es1, ep1, g1, g2, g3, g4, g5⟩ st => ⟨z1, ys1, r1, o1, es1, ep1, st _ g1, g2, g3, g4, g5⟩⟩
end
end RyV
set_option pp.maxSteps 400
namespace Ry
open PySem PySem.Spec PyProof.Rows L2 He RyH
open C8 (pss_cut tCut Cal Met Mak pe_c pe_mk pe_mt pe_mt0 pe_gc)
/-! ### the stream of draws -/
/-- the list at s, the script's rest at l; at most n draws were mixed -/
def StAt (H : Hp) (s l : Addr) (n : Nat) : Prop := ∃ (ns : List Int) (a c e : Int), H s = some (.lst [.ref l, .int a, .int c, .int e]) ∧ H l = some (.lst (ns.map V.int)) ∧ ns.length ≤ 63 ∧ 0 ≤ a ∧ 0 ≤ c ∧ c ≤ n ∧ 0 ≤ e ∧ e < 2147483647
/-- all but the objects of M stand as they stood -/
def Kp (M : Addr → Prop) (H H' : Hp) : Prop := ∀ b o, H b = some o → ¬ M b → H' b = some o
def onSt (s l : Addr) : Addr → Prop := fun b => b = s ∨ b = l
theorem Kp.refl {M : Addr → Prop} {H : Hp} : Kp M H H := fun _ _ h _ => h
theorem Kp.trans {M : Addr → Prop} {H H1 H2 : Hp} (a : Kp M H H1) (b : Kp M H1 H2) : Kp M H H2 := fun c o h n => b c o (a c o h n) n
theorem Kp.same {M : Addr → Prop} {H H1 : Hp} (a : Same H H1) : Kp M H H1 := fun c o h _ => a c o h
theorem Kp.new {M : Addr → Prop} {H : Hp} {p : Addr} {o : HO} (h : H p = none) : Kp M H (upd H p o) := fun b u e _ => by rw [upd_ne (ne_of_none e h)]; exact e
theorem Kp.at {M : Addr → Prop} {H : Hp} {p : Addr} {o : HO} (h : M p) : Kp M H (upd H p o) := fun b u e n => by rw [upd_ne (fun z => n (by rw [z]; exact h))]; exact e
theorem Kp.free {M : Addr → Prop} {H H' : Hp} (k : Kp M H H') {p : Addr} (h : H' p = none) (hm : ∀ b, M b → H' b ≠ none) : H p = none := by
  cases q : H p with
  | none => rfl
  | some o =>
    by_cases hp : M p
    · exact absurd h (hm p hp)
    · rw [k p o q hp] at h
      cases h
theorem st_ne {H : Hp} {s l : Addr} {xs : List V} {ns : List Int} (h1 : H s = some (.lst (.ref l :: xs))) (h2 : H l = some (.lst (ns.map V.int))) : s ≠ l := ne_of h1 h2 fun z => by
  cases ns with
  | nil => cases z
  | cons n ns => cases z
theorem dp_ints {K : PySem.W.Frag} {H : Hp} : ∀ ns : List Int, DpAll K H (ns.map V.int) (ns.map PyData.int)
  | [] => .nil
  | n :: ns => .cons (.int n) (dp_ints ns)
theorem canLay_ints : ∀ ns : List Int, PyData.canLayAll0 (ns.map PyData.int) = true
  | [] => by simp [PyData.canLayAll0]
  | n :: ns => by
    show PyData.canLayAll0 (PyData.int n :: ns.map PyData.int) = true
    rw [PyData.canLayAll0, canLay_ints ns]
    simp [PyData.canLay0]
theorem depth_ints : ∀ ns : List Int, PyData.depthAll (ns.map PyData.int) = 0
  | [] => by simp [PyData.depthAll]
  | n :: ns => by
    show PyData.depthAll (PyData.int n :: ns.map PyData.int) = 0
    rw [PyData.depthAll, depth_ints ns]
    simp [PyData.depth]
theorem shaped_ints (ns : List Int) : SeqAt.shaped (.list (ns.map PyData.int)) = true := by
  unfold SeqAt.shaped
  rw [PyData.canLay0, canLay_ints, PyData.depth, depth_ints]
  decide
theorem eqv_ints_nil (ns : List Int) : PyData.eqv (.list (ns.map PyData.int)) (.list []) = ns.isEmpty := by
  cases ns <;> simp [PyData.eqv, PyData.eqvAll]
theorem seqIndex_zero (n : Nat) : seqIndex? 0 (n + 1) = some 0 := by
  unfold seqIndex?
  simp
local macro_rules | `(tactic| walk_at "s") => `(tactic| first
  | refine ⟨_, rfl, ?_⟩
  | refine ⟨_, _, rfl, rfl, ?_⟩
  | refine ⟨_, _, _, _, rfl, rfl, SqL.of upd_same, rfl, ?_⟩
  | refine ⟨_, _, _, _, rfl, rfl, SqL.of (by assumption), rfl, ?_⟩)
def spDraw : Sp := fun vs H Q _ => ∃ (s l : Addr) (m : Int) (n : Nat), vs = [.ref s, .int m] ∧ StAt H s l n ∧ n < 1000000 ∧ 0 < m ∧ m < 1073741824 ∧
  ∀ (d : Int) (H' : Hp), 0 ≤ d → d < m → StAt H' s l (n + 1) → Kp (onSt s l) H H' → Q (.int d) H'
section
variable {P : Program} {w : World} {K : PySem.W.Frag} {mg : Str → Option Value} {base : Heap}
theorem sc_law_draw : FnScope ["_law_stream", "_law_many", "_law_digit", "_law_mixed", "_law_last"] ["_law_stream", "_law_many"] (defScope s_law_draw) := ⟨rfl, rfl, rfl, by decide +kernel, rfl, by decide +kernel, by decide +kernel⟩
theorem ok_law_draw {f : Addr} {fd : FuncData} (T : Txt w K mg) (F : FunD K "_law_draw" "_law_draw" (defArgs s_law_draw) (defBody s_law_draw) (defScope s_law_draw) [] [] f fd) : FnOk P w K mg base CX0 1 f fd ["_law_stream", "_law_many"] spDraw := by
  refine F.ok sc_law_draw (fun vs H Q E h => ?_) (fun cdv A outer s H vs Q E hr h => ?_)
  · obtain ⟨s, l, m, n, rfl, _⟩ := h
    rfl
  · obtain ⟨s, l, m, n, rfl, hs, hn, hm0, hm1, k⟩ := h
    refine ⟨_, PSs.nox (pss_cut (ps_while PassesOwn.never (PW.pt (pw_and (pt_cmpR op_eq (pe_ix ix_list (pv 0) pe_int (fun _ _ => rfl)) pe_int (nomark _)) (pw_and1 (pt_cmpR (op_neD hr.units) (pe_ix ix_list (pv 0) pe_int (fun _ _ => rfl)) (pe_lst pa_nil) (nomark _)))))
    (pss_cons (ps_asg (pe_bm PySem.F.plainAttrs_list PySem.F.slot_list_pop PySem.F.type_list_pop mt_popAt (pe_ix ix_list (pv 0) pe_int (fun _ _ => rfl)) (pa_cons pe_int pa_nil)) (pg_sub (pv 0) pe_int set_list))
    (pss_one (ps_if (pt_cmpR op_lt (pe_ix ix_list (pv 0) pe_int (fun _ _ => rfl)) (pe_op op_pow pe_int pe_int) (nomark _))
      (pss_cons (ps_asg (pe_op op_mod (pe_callTy call_int1 (by rfl) T.f_int (by decide +kernel) (pa_cons (pe_op op_add (pe_op op_add (pe_op op_mul (pe_ix ix_list (pv 0) pe_int (fun _ _ => rfl)) pe_int) (pe_ix ix_list (pv 0) pe_int (fun _ _ => rfl))) pe_int) pa_nil)) pe_int) (pg_sub (pv 0) pe_int set_list))
      (pss_one (ps_asg pe_int (pg_sub (pv 0) pe_int set_list))))
      pss_nil))))
  (pss_cons (ps_if (pt_cmpR op_gt (pe_ix ix_list (pv 0) pe_int (fun _ _ => rfl)) pe_int (nomark _))
    (pss_cons (ps_set (i := 2) sc_law_draw.nd rfl (Or.inl rfl) (pe_op op_mod (pe_callTy call_int1 (by rfl) T.f_int (by decide +kernel) (pa_cons (pe_ix ix_list (pv 0) pe_int (fun _ _ => rfl)) pa_nil)) (pv 1)))
    (pss_cons (ps_asg (pe_op op_fdiv (pe_ix ix_list (pv 0) pe_int (fun _ _ => rfl)) (pv 1)) (pg_sub (pv 0) pe_int set_list))
    (pss_one (ps_ret (pv 2)))))
    pss_nil)
  (pss_cons (ps_asg (pe_op op_add (pe_ix ix_list (pv 0) pe_int (fun _ _ => rfl)) pe_int) (pg_sub (pv 0) pe_int set_list))
  (pss_cons (ps_set (i := 3) sc_law_draw.nd rfl (Or.inl rfl) (pe_op op_mod (pe_callTy call_int1 (by rfl) T.f_int (by decide +kernel) (pa_cons (pe_op op_pow (pe_op op_add (pe_op op_add (pe_ix ix_list (pv 0) pe_int (fun _ _ => rfl)) (pe_op op_mul pe_int (pe_ix ix_list (pv 0) pe_int (fun _ _ => rfl)))) pe_int) pe_int) pa_nil)) pe_int))
  (pss_cons (ps_set (i := 4) sc_law_draw.nd rfl (Or.inl rfl) (pe_op op_mod (pe_callTy call_int1 (by rfl) T.f_int (by decide +kernel) (pa_cons (pe_op op_pow (pe_op op_add (pe_op op_add (pe_op op_mul (pv 3) pe_int) (pe_op op_mul (pe_op op_mul pe_int (pe_ix ix_list (pv 0) pe_int (fun _ _ => rfl))) (pe_ix ix_list (pv 0) pe_int (fun _ _ => rfl)))) pe_int) pe_int) pa_nil)) pe_int))
  (pss_one (ps_ret (pe_op op_mod (pe_callTy call_int1 (by rfl) T.f_int (by decide +kernel) (pa_cons (pv 4) pa_nil)) (pv 1))))))))), ?_⟩
    obtain ⟨ns0, a0, c0, e0, hS0, hL0, hlen0, ha0, hc0, hcn0, he0, he1⟩ := hs
    let Rest : Hp → Prop := fun H1 => ∃ (ns : List Int) (a e : Int), H1 s = some (.lst [.ref l, .int a, .int c0, .int e]) ∧ H1 l = some (.lst (ns.map V.int)) ∧ ns.length ≤ 63 ∧ 0 ≤ a ∧ 0 ≤ e ∧ e < 2147483647 ∧ Kp (onSt s l) H H1
    refine ⟨fun σ H1 => σ = [some (.ref s), some (.int m), none, none, none] ∧ Rest H1, ⟨fun r σ H1 => σ = [some (.ref s), some (.int m), none, none, none] ∧ ∃ (ns : List Int) (a e : Int), r = ns.length ∧ H1 s = some (.lst [.ref l, .int a, .int c0, .int e]) ∧ H1 l = some (.lst (ns.map V.int)) ∧
      ns.length ≤ 63 ∧ 0 ≤ a ∧ 0 ≤ e ∧ e < 2147483647 ∧ Kp (onSt s l) H H1, ⟨_, rfl, ns0, a0, e0, rfl, hS0, hL0, hlen0, ha0, he0, he1, Kp.refl⟩, ?_⟩, ?_⟩
    · rintro r σ H1 ⟨rfl, ns, a, e, rfl, hS, hL, hlen, ha, he0', he1', hk⟩
      have hsl : s ≠ l := st_ne hS hL
      -- while stream[1] == 0 and ..
      walk_at "s"; walk_at "s"; refine ⟨rfl, _, rfl, ?_⟩
      refine ite2 (fun h1 => ?_) (fun h1 => ?_)
      · have hz : a = 0 := by simpa using h1
        subst hz
        walk_at "s"; walk_at "s"
        refine ⟨Nat.zero_le _, fun p hp => ?_⟩
        have hsp : s ≠ p := ne_of_none hS hp
        have hlp : l ≠ p := ne_of_none hL hp
        have hS1 : upd H1 p (.lst []) s = some (.lst [.ref l, .int 0, .int c0, .int e]) := by rw [upd_ne hsp]; exact hS
        have hL1 : upd H1 p (.lst []) l = some (.lst (ns.map V.int)) := by rw [upd_ne hlp]; exact hL
        have hk1 : Kp (onSt s l) H (upd H1 p (.lst [])) := hk.trans (Kp.new hp)
        refine ⟨_, _, Dp.lst (SqL.of hL1) (dp_ints ns), Dp.lst (SqL.of upd_same) .nil, shaped_ints ns, rfl, _, rfl, ?_⟩
        rw [eqv_ints_nil]
        cases ns with
        | nil => exact iteF ⟨rfl, [], 0, e, hS1, hL1, hlen, ha, he0', he1', hk1⟩
        | cons x ns =>
          refine iteT ⟨_, fun σ' H' h => ⟨ns.length, Nat.lt_succ_self _, h⟩, ?_⟩
          -- stream[1] = stream[0].pop(0)
          walk_at "s"; walk_at "s"
          refine ⟨.inl ⟨rfl, _, SqL.of hL1⟩, _, _, _, _, _, rfl, rfl, hL1, by decide, by decide, seqIndex_zero _, rfl, ?_⟩
          have hS2 := (upd_ne (H := upd H1 p (.lst [])) (o := .lst (ns.map V.int)) hsl).trans hS1
          refine ⟨_, rfl, _, _, _, _, rfl, rfl, hS2, rfl, ?_⟩
          -- if stream[1] < 10 ** 18
          walk_at "s"; walk_at "s"
          refine ⟨_, _, rfl, rfl, ⟨by decide, by decide, by decide⟩, _, _, rfl, rfl, _, rfl, ?_⟩
          have hL3 : ∀ o, upd (upd (upd H1 p (.lst [])) l (.lst (ns.map V.int))) s o l = some (.lst (ns.map V.int)) := fun o => by rw [upd_ne hsl.symm, upd_same]
          have hk3 : ∀ o, Kp (onSt s l) H (upd (upd (upd H1 p (.lst [])) l (.lst (ns.map V.int))) s o) := fun o => (hk1.trans (Kp.at (Or.inr rfl))).trans (Kp.at (Or.inl rfl))
          have hlen' : ns.length ≤ 63 := by simp at hlen; omega
          refine ite2 (fun h2 => ?_) (fun h2 => ?_)
          · walk_at "s"; walk_at "s"
            refine ⟨_, _, rfl, rfl, .inl ⟨by omega, by omega⟩, ?_⟩
            walk_at "s"; walk_at "s"; walk_at "s"; walk_at "s"
            refine .inl ⟨_, rfl, _, _, rfl, rfl, (by show (0 : Int) < 2147483647; decide), ?_⟩
            refine ⟨_, rfl, _, _, _, _, rfl, rfl, upd_same, rfl, ?_⟩
            refine ⟨_, rfl, _, _, _, _, rfl, rfl, upd_same, rfl, ?_⟩
            rw [upd_upd, upd_upd]
            exact ⟨rfl, ns, 0, _, rfl, upd_same, hL3 _, hlen', Int.le_refl _, Int.emod_nonneg _ (by decide), Int.emod_lt_of_pos _ (by decide), hk3 _⟩
          · have hx : ¬ x < 10 ^ 18 := by simpa using h2
            exact ⟨rfl, ns, x, e, rfl, upd_same, hL3 _, hlen', by omega, he0', he1', hk3 _⟩
      · refine iteF ⟨rfl, ns, a, e, hS, hL, hlen, ha, he0', he1', hk⟩
    · rintro σ H1 ⟨rfl, ns, a, e, hS, hL, hlen, ha, he0', he1', hk⟩
      have hsl : s ≠ l := st_ne hS hL
      -- if stream[1] > 0
      walk_at "s"; walk_at "s"
      refine ⟨_, _, rfl, rfl, _, rfl, ?_⟩
      refine ite2 (fun h1 => ?_) (fun h1 => ?_)
      · walk_at "s"; walk_at "s"
        refine .inl ⟨_, rfl, _, rfl, _, _, rfl, rfl, hm0, ?_⟩
        walk_at "s"; walk_at "s"; walk_at "s"
        refine ⟨_, _, rfl, rfl, ⟨hm0, hm1⟩, ?_⟩
        refine ⟨_, rfl, _, _, _, _, rfl, rfl, hS, rfl, ?_⟩
        refine ⟨_, rfl, ?_⟩
        refine k _ _ (Int.emod_nonneg _ (by omega)) (Int.emod_lt_of_pos _ hm0) ⟨ns, _, c0, e, upd_same, by rw [upd_ne hsl.symm]; exact hL, hlen, Int.ediv_nonneg ha (by omega), hc0, by omega, he0', he1'⟩ (hk.trans (Kp.at (Or.inl rfl)))
      · -- mixed
        walk_at "s"; walk_at "s"; walk_at "s"
        refine ⟨_, rfl, _, _, _, _, rfl, rfl, hS, rfl, ?_⟩
        walk_at "s"; walk_at "s"; walk_at "s"; walk_at "s"
        refine ⟨_, _, rfl, rfl, .inl ⟨by decide, by decide⟩, ?_⟩
        walk_at "s"; walk_at "s"
        refine ⟨_, _, rfl, rfl, ⟨by decide, by decide, ?_⟩, ?_⟩
        · omega
        refine .inl ⟨_, rfl, _, _, rfl, rfl, (by show (0 : Int) < 2147483629; decide), ?_⟩
        walk_at "s"
        refine ⟨_, _, rfl, rfl, .inl ⟨by omega, by omega⟩, ?_⟩
        walk_at "s"; walk_at "s"
        refine ⟨_, _, rfl, rfl, .inl ⟨by decide, by decide⟩, ?_⟩
        walk_at "s"; walk_at "s"
        refine ⟨_, _, rfl, rfl, .inr ⟨by omega, by omega⟩, ?_⟩
        walk_at "s"; walk_at "s"
        refine ⟨_, _, rfl, rfl, ⟨by decide, by decide, ?_⟩, ?_⟩
        · have h2 : (c0 + 1) * (c0 + 1) ≤ 1000000 * 1000000 := Int.mul_le_mul (by omega) (by omega) (by omega) (by decide)
          have h3 : 0 ≤ (c0 + 1) * (c0 + 1) := Int.mul_nonneg (by omega) (by omega)
          have e1 : 40503 * (c0 + 1) * (c0 + 1) = 40503 * ((c0 + 1) * (c0 + 1)) := Int.mul_assoc ..
          simp only [e1]
          generalize (c0 + 1) * (c0 + 1) = z at h2 h3
          omega
        refine .inl ⟨_, rfl, _, _, rfl, rfl, (by show (0 : Int) < 1000000007; decide), ?_⟩
        walk_at "s"
        refine .inl ⟨_, rfl, _, rfl, _, _, rfl, rfl, hm0, ?_⟩
        refine k _ _ (Int.emod_nonneg _ (by omega)) (Int.emod_lt_of_pos _ hm0) ⟨ns, a, c0 + 1, e, upd_same, by rw [upd_ne hsl.symm]; exact hL, hlen, ha, by omega, by omega, he0', he1'⟩ (hk.trans (Kp.at (Or.inl rfl)))
theorem cal_law_draw (T : Txt w K mg) : Cal P w K mg base 1 "_law_draw" spDraw [] := by
  obtain ⟨fd, F⟩ := T.df_law_draw
  exact ⟨_, fd, ["_law_stream", "_law_many"], [], ok_law_draw T F, T.m_law_draw, F.kp, F.bindsN (fun _ _ _ _ _ _ us hl => match us, hl with | [_, _], _ => rfl), .nil⟩
end
end Ry
set_option pp.maxSteps 600
namespace Ry
open PySem PySem.Spec PyProof.Rows L2 He RyH
open C8 (pss_cut tCut Cal Met Mak pe_c pe_mk pe_mt pe_mt0 pe_gc)
/-! ### keeping -/
theorem StAt.mono {H : Hp} {s l : Addr} {n m : Nat} (h : StAt H s l n) (k : n ≤ m) : StAt H s l m := by
  obtain ⟨ns, a, c, e, h1, h2, h3, h4, h5, h6, h7, h8⟩ := h
  exact ⟨ns, a, c, e, h1, h2, h3, h4, h5, by omega, h7, h8⟩
theorem StAt.s_some {H : Hp} {s l : Addr} {n : Nat} (h : StAt H s l n) : ∃ o, H s = some o := let ⟨_, _, _, _, h1, _⟩ := h; ⟨_, h1⟩
theorem StAt.l_some {H : Hp} {s l : Addr} {n : Nat} (h : StAt H s l n) : ∃ o, H l = some o := let ⟨_, _, _, _, _, h2, _⟩ := h; ⟨_, h2⟩
/-- a place that is free is none of the stream's -/
theorem StAt.off {H : Hp} {s l p : Addr} {n : Nat} (h : StAt H s l n) (hp : H p = none) : ¬ onSt s l p := by
  rintro (e | e)
  · obtain ⟨o, z⟩ := h.s_some
    rw [e, z] at hp
    cases hp
  · obtain ⟨o, z⟩ := h.l_some
    rw [e, z] at hp
    cases hp
theorem StAt.upd {H : Hp} {s l p : Addr} {n : Nat} {o : HO} (h : StAt H s l n) (hp : ¬ onSt s l p) : StAt (upd H p o) s l n := by
  obtain ⟨ns, a, c, e, h1, h2, h3, h4, h5, h6, h7, h8⟩ := h
  exact ⟨ns, a, c, e, by rw [upd_ne (fun z => hp (Or.inl z.symm))]; exact h1, by rw [upd_ne (fun z => hp (Or.inr z.symm))]; exact h2, h3, h4, h5, h6, h7, h8⟩
theorem StAt.new {H : Hp} {s l p : Addr} {n : Nat} {o : HO} (h : StAt H s l n) (hp : H p = none) : StAt (L2.upd H p o) s l n := h.upd (h.off hp)
theorem StAt.kp {M : Addr → Prop} {H H' : Hp} {s l : Addr} {n : Nat} (h : StAt H s l n) (k : Kp M H H') (hs : ¬ M s) (hl : ¬ M l) : StAt H' s l n := by
  obtain ⟨ns, a, c, e, h1, h2, h3, h4, h5, h6, h7, h8⟩ := h
  exact ⟨ns, a, c, e, k _ _ h1 hs, k _ _ h2 hl, h3, h4, h5, h6, h7, h8⟩
/-- what was free before may be written -/
theorem Kp.wr {M : Addr → Prop} {H H' : Hp} {p : Addr} {o : HO} (k : Kp M H H') (hp : H p = none) : Kp M H (upd H' p o) := fun b u e n => by
  rw [upd_ne (ne_of_none e hp)]
  exact k b u e n
theorem Kp.wrM {M : Addr → Prop} {H H' : Hp} {p : Addr} {o : HO} (k : Kp M H H') (hp : M p) : Kp M H (upd H' p o) := fun b u e n => by
  rw [upd_ne (fun z => n (by rw [z]; exact hp))]
  exact k b u e n
theorem Kp.mono {M N : Addr → Prop} {H H' : Hp} (k : Kp M H H') (h : ∀ b, M b → N b) : Kp N H H' := fun b u e n => k b u e fun z => n (h b z)
/-- what is free behind draws was free ahead of them -/
theorem Kp.was {H H' : Hp} {s l p : Addr} {n : Nat} (k : Kp (onSt s l) H H') (h : StAt H' s l n) (hp : H' p = none) : H p = none := by
  cases q : H p with
  | none => rfl
  | some o =>
    have z := k p o q (h.off hp)
    rw [hp] at z
    cases z
theorem upd_at {H : Hp} {p q : Addr} {o u : HO} (h : H q = some u) (hp : H p = none) : upd H p o q = some u := by
  rw [upd_ne (ne_of_none h hp)]
  exact h
/-- the budget of draws -/
abbrev Bud : Nat := 900000
theorem bud {n : Nat} (h : n < Bud) : n < 900000 := h
/-! ### a list that is made of draws, by a comprehension over range(m) -/
theorem lc_draws {s l : Addr} {n b : Nat} {H1 : Hp} {m j : Nat} {te : TE} {vs : List Nat} {σ : L2.St} {D : Addr} {Qd : Hp → Prop} (F : Hp → V → Prop) (hD : H1 D = none) (h0 : StAt H1 s l n) (hm : m < 1000)
    (hF : ∀ y H H', (∀ b, b = D → H b ≠ none) → Kp (onSt s l) H H' → F H y → F H' y) (hFD : ∀ y H o, F H y → F (upd H D o) y)
    (hw : ∀ v, wipe ((wipe σ vs).set j (some v)) vs = wipe σ vs)
    (hs : ∀ (i : Nat) (H : Hp) (Q : VK), i < m → StAt H s l (n + i * b) → Kp (onSt s l) H1 H → (∃ o, H D = some o) →
      (∀ y H4, StAt H4 s l (n + (i + 1) * b) → Kp (onSt s l) H H4 → F H4 y → Q y H4) → te ((wipe σ vs).set j (some (.int (0 + i)))) H Q)
    (hd : ∀ H ys, H D = some (.lst ys) → ys.length = m → (∀ y ∈ ys, F H y) → StAt H s l (n + m * b) → Kp (onSt s l) H1 H → Qd H) :
    ∃ W : Nat → Nat → Hp → Prop, (∃ m', W 0 m' (upd H1 D (.lst []))) ∧ ∀ i m' H, W i m' H →
      ((Itr 0 m).stop i H ∧ Qd H) ∨ ((Itr 0 m).go i H ∧ ∃ Nx : Hp → Prop, (∀ H', Nx H' → ∃ m'', m'' < m' ∧ W (i + 1) m'' H') ∧ ∀ x H', (Itr 0 m).yld i H x H' → gName j x (wipe σ vs) H' fun σ2 H2 => wipe σ2 vs = wipe σ vs ∧ tYes σ2 H2 fun b H3 =>
        if b = true then te σ2 H3 fun y H4 => ∃ acc, H4 D = some (.lst acc) ∧ acc.length < sizeLine ∧ Nx (upd H4 D (.lst (acc ++ [y]))) else Nx H3) := by
  have offD : ¬ onSt s l D := h0.off hD
  refine lc_range (lo := 0) (n := m) (fun i H => i ≤ m ∧ StAt H s l (n + i * b) ∧ Kp (onSt s l) H1 H ∧ ∃ ys, H D = some (.lst ys) ∧ ys.length = i ∧ ∀ y ∈ ys, F H y) ⟨Nat.zero_le _, by rw [Nat.zero_mul]; exact h0.new hD, Kp.refl.wr hD, [], upd_same, rfl, fun y hy => nomatch hy⟩ ?_ ?_
  · rintro i H hi ⟨_, hst, hk, ys, hys, hl, hf⟩
    refine ⟨hw _, ?_⟩
    dsimp only [tYes]
    rw [if_pos rfl]
    refine hs i H _ hi hst hk ⟨_, hys⟩ fun y H4 h4 k4 f4 => ?_
    refine ⟨ys, k4 _ _ hys offD, by rw [hl, sizeLine_eq]; omega, by omega, h4.upd offD, (hk.trans k4).wr hD, ys ++ [y], upd_same, by simp [hl], fun z hz => hFD _ _ _ ?_⟩
    rcases List.mem_append.mp hz with q | q
    · exact hF _ _ _ (fun b e z => by rw [e, hys] at z; cases z) k4 (hf z q)
    · rw [List.mem_singleton.mp q]
      exact f4
  · rintro H ⟨_, hst, hk, ys, hys, hl, hf⟩
    exact hd H ys hys hl hf hst hk
/-! ### one of a list -/
def spPick : Sp := fun vs H Q _ => ∃ (s p l : Addr) (n : Nat) (xs : List V), vs = [.ref s, .ref p] ∧ StAt H s l n ∧ n < Bud ∧ ¬ onSt s l p ∧ H p = some (.lst xs) ∧ 0 < xs.length ∧ xs.length < 1000 ∧
  ∀ x H', x ∈ xs → StAt H' s l (n + 1) → Kp (onSt s l) H H' → Q x H'
theorem atI_mem {xs : List V} {d : Int} (h0 : 0 ≤ d) (h1 : d < xs.length) : ∃ x, atI xs d = some x ∧ x ∈ xs := by
  obtain ⟨k, rfl⟩ := Int.eq_ofNat_of_zero_le h0
  have hk : k < xs.length := by omega
  exact ⟨xs[k], atI_nat (by simp [hk]), List.getElem_mem hk⟩
section
variable {P : Program} {w : World} {K : PySem.W.Frag} {mg : Str → Option Value} {base : Heap}
theorem sc_law_pick : FnScope ["_law_stream", "_law_some"] ["_law_stream", "_law_some"] (defScope s_law_pick) := ⟨rfl, rfl, rfl, by decide +kernel, rfl, by decide +kernel, by decide +kernel⟩
theorem cal_law_pick (T : Txt w K mg) : Cal P w K mg base 2 "_law_pick" (spPick) [] := by
  obtain ⟨fd, F⟩ := T.df_law_pick
  have c_law_draw := cal_law_draw (P := P) (base := base) T
  refine ⟨_, fd, ["_law_stream", "_law_some"], [], F.ok sc_law_pick (fun vs H Q E h => ?_) (fun cdv A outer s H vs Q E hr h => ?_), T.m_law_pick, F.kp, F.bindsN (fun _ _ _ _ _ _ us hl => match us, hl with | [_, _], _ => rfl), .nil⟩
  · obtain ⟨_, _, _, _, _, rfl, _⟩ := h
    rfl
  · obtain ⟨s, p, l, n, xs, rfl, hs, hn, hp, hx, hx0, hx1, k⟩ := h
    -- 0 _law_stream, 1 _law_some
    refine ⟨_, PSs.nox (pss_one (ps_ret (pe_ix ix_list (pv 1) (pe_c c_law_draw hr (by decide) (by rfl) (pa_cons (pv 0) (pa_cons (pe_callB call_len_seq (by rfl) T.f_len PySem.boot_len (pa_cons (pv 1) pa_nil)) pa_nil))) (fun _ _ => rfl)))), ?_⟩
    refine ⟨_, rfl, ?_⟩
    refine ⟨_, rfl, ?_⟩
    refine ⟨_, rfl, ?_⟩
    refine ⟨_, _, rfl, .inl (SqL.of hx), ?_⟩
    refine ⟨s, l, xs.length, n, rfl, hs, by have := bud hn; omega, by omega, by omega, fun d H' h0 h1 hst hk => ?_⟩
    obtain ⟨x, e, hm⟩ := atI_mem h0 h1
    exact ⟨_, _, _, _, rfl, rfl, SqL.of (hk _ _ hx hp), e, k x H' hm hst hk⟩
end
end Ry
namespace Ry
open PySem PySem.Spec PyProof.Rows L2 He RyH
open C8 (pss_cut tCut Cal Met Mak pe_c pe_mk pe_mt pe_mt0 pe_gc)
theorem small_size {n : Nat} (h : n ≤ 1000) : n ≤ sizeLine := by rw [sizeLine_eq]; omega
/-! ### levels, names -/
def levelMenu : List Int := [0, 0, 1, 5, 9, 10, 17, 20, 21, 30, 31, 40, 50, 99, 100]
def nameMenu : List Str := ["", "a", "a.b", "b", "a.b.c", "root", "z", "ab", "c.d", "A", "zzzz", "a.root"]
def spLevel : Sp := fun vs H Q _ => ∃ (s l : Addr) (n : Nat), vs = [.ref s] ∧ StAt H s l n ∧ n < Bud ∧ ∀ (v : Int) H', v ∈ levelMenu → StAt H' s l (n + 1) → Kp (onSt s l) H H' → Q (.int v) H'
def spNames : Sp := fun vs H Q _ => ∃ (s l : Addr) (n m : Nat), vs = [.ref s, .int m] ∧ StAt H s l n ∧ n + m + 2 < Bud ∧ m < 100 ∧
  ∀ (p : Addr) (xs : List Str) H', H p = none → (∀ x ∈ xs, x ∈ nameMenu) → xs.length ≤ m → H' p = some (.lst (xs.map V.str)) → StAt H' s l (n + m + 1) → Kp (onSt s l) H H' → Q (.ref p) H'
theorem strs_of {menu : List Str} : ∀ {ys : List V}, (∀ y ∈ ys, ∃ x, y = .str x ∧ x ∈ menu) → ∃ xs : List Str, ys = xs.map V.str ∧ ∀ x ∈ xs, x ∈ menu
  | [], _ => ⟨[], rfl, fun x h => nomatch h⟩
  | y :: ys, h => by
    obtain ⟨x, rfl, hx⟩ := h y (List.mem_cons_self ..)
    obtain ⟨xs, rfl, h2⟩ := strs_of fun z hz => h z (List.mem_cons_of_mem _ hz)
    refine ⟨x :: xs, rfl, fun z hz => ?_⟩
    rcases List.mem_cons.mp hz with e | e
    · rw [e]; exact hx
    · exact h2 z e
section
variable {P : Program} {w : World} {K : PySem.W.Frag} {mg : Str → Option Value} {base : Heap}
theorem sc_law_level : FnScope ["_law_stream"] ["_law_stream"] (defScope s_law_level) := ⟨rfl, rfl, rfl, by decide +kernel, rfl, by decide +kernel, by decide +kernel⟩
theorem cal_law_level (T : Txt w K mg) : Cal P w K mg base 3 "_law_level" (spLevel) [] := by
  obtain ⟨fd, F⟩ := T.df_law_level
  have c_law_pick := cal_law_pick (P := P) (base := base) T
  refine ⟨_, fd, ["_law_stream"], [], F.ok sc_law_level (fun vs H Q E h => ?_) (fun cdv A outer s H vs Q E hr h => ?_), T.m_law_level, F.kp, F.bindsN (fun _ _ _ _ _ _ us hl => match us, hl with | [_], _ => rfl), .nil⟩
  · obtain ⟨_, _, _, rfl, _⟩ := h
    rfl
  · obtain ⟨s, l, n, rfl, hs, hn, k⟩ := h
    refine ⟨_, PSs.nox (pss_one (ps_ret (pe_c c_law_pick hr (by decide) (by rfl) (pa_cons (pv 0) (pa_cons (pe_lst (pa_cons pe_int (pa_cons pe_int (pa_cons pe_int (pa_cons pe_int (pa_cons pe_int (pa_cons pe_int (pa_cons pe_int (pa_cons pe_int (pa_cons pe_int (pa_cons pe_int (pa_cons pe_int (pa_cons pe_int (pa_cons pe_int (pa_cons pe_int (pa_cons pe_int pa_nil)))))))))))))))) pa_nil))))), ?_⟩
    refine ⟨_, rfl, ?_⟩
    refine ⟨small_size (by decide), fun p hp => ?_⟩
    refine ⟨s, p, l, n, levelMenu.map V.int, rfl, hs.new hp, hn, hs.off hp, upd_same, by decide, by decide, fun x H' hm hst hk => ?_⟩
    obtain ⟨v, hv, rfl⟩ := List.mem_map.mp hm
    exact k v H' hv hst ((Kp.new hp).trans hk)
theorem sc_law_names : FnScope ["_law_stream", "_law_most", "_law_some", "_law_k"] ["_law_stream", "_law_most"] (defScope s_law_names) := ⟨rfl, rfl, rfl, by decide +kernel, rfl, by decide +kernel, by decide +kernel⟩
theorem cal_law_names (T : Txt w K mg) : Cal P w K mg base 3 "_law_names" (spNames) [] := by
  obtain ⟨fd, F⟩ := T.df_law_names
  have c_law_draw := cal_law_draw (P := P) (base := base) T
  have c_law_pick := cal_law_pick (P := P) (base := base) T
  refine ⟨_, fd, ["_law_stream", "_law_most"], [], F.ok sc_law_names (fun vs H Q E h => ?_) (fun cdv A outer s H vs Q E hr h => ?_), T.m_law_names, F.kp, F.bindsN (fun _ _ _ _ _ _ us hl => match us, hl with | [_, _], _ => rfl), .nil⟩
  · obtain ⟨_, _, _, _, rfl, _⟩ := h
    rfl
  · obtain ⟨s, l, n, m, rfl, hs, hn, hm, k⟩ := h
    -- 0 _law_stream, 1 _law_most, 2 _law_some, 3 _law_k
    refine ⟨_, PSs.nox (pss_cons (ps_set (i := 2) sc_law_names.nd rfl (Or.inr rfl) (pe_lst (pa_cons pe_str (pa_cons pe_str (pa_cons pe_str (pa_cons pe_str (pa_cons pe_str (pa_cons pe_str (pa_cons pe_str (pa_cons pe_str (pa_cons pe_str (pa_cons pe_str (pa_cons pe_str (pa_cons pe_str pa_nil))))))))))))))
      (pss_one (ps_ret (pe_lc (own := [("_law_k", 3)]) rfl sc_law_names.nd (pi_range1 (by rfl) T.f_range (pa_cons (pe_c c_law_draw hr (by decide) (by rfl) (pa_cons (pv 0) (pa_cons (pe_op op_add (pv 1) pe_int) pa_nil))) pa_nil)) (blkOk_by (N := ["_law_stream", "_law_most", "_law_some", "_law_k"]) (sc := defScope s_law_names) (own := [("_law_k", 3)]) (by decide +kernel)) (fun _ _ _ _ _ => pg_name (i := 3) sc_law_names.nd rfl (Or.inl rfl)) (fun _ _ _ _ _ => pts_nil) (fun _ _ _ _ _ => (pe_c c_law_pick hr (by decide) (by rfl) (pa_cons (pv 0) (pa_cons (pv 2) pa_nil)))))))), ?_⟩
    refine ⟨small_size (by decide), fun p hp => ?_⟩
    have hn' := bud hn
    refine ⟨_, rfl, ?_⟩
    refine ⟨_, rfl, ?_⟩
    refine ⟨_, _, rfl, rfl, ?_⟩
    refine ⟨s, l, _, n, rfl, hs.new hp, by omega, by omega, by omega, fun d H2 h0 h1 h2 k2 => ?_⟩
    obtain ⟨i, rfl⟩ := Int.eq_ofNat_of_zero_le h0
    have hi : i < m + 1 := by omega
    refine ⟨i, rfl, by omega, by omega, ?_⟩
    intro D hD
    have hp2 : H2 p = some (.lst (nameMenu.map V.str)) := k2 _ _ upd_same (hs.off hp)
    have k2' : Kp (onSt s l) H H2 := (Kp.new hp).trans k2
    refine lc_draws (b := 1) (fun _ y => ∃ x, y = .str x ∧ x ∈ nameMenu) hD h2 (by omega) (fun _ _ _ _ _ h => h) (fun _ _ _ h => h) (fun _ => rfl) ?_ ?_
    · intro j H3 Q3 hj h3 k3 _ kk
      refine ⟨_, rfl, ?_⟩
      refine ⟨_, rfl, ?_⟩
      refine ⟨s, p, l, _, _, rfl, h3, by have := bud hn; show _ < 900000; omega, hs.off hp, k3 _ _ hp2 (hs.off hp), by decide, by decide, fun x H4 hx h4 k4 => ?_⟩
      obtain ⟨z, hz, rfl⟩ := List.mem_map.mp hx
      exact kk _ H4 (h4.mono (by omega)) k4 ⟨z, rfl, hz⟩
    · intro H3 ys hys hl hf h3 k3
      obtain ⟨xs, rfl, hx⟩ := strs_of hf
      exact k D xs H3 (k2'.was h2 hD) hx (by simp at hl; omega) hys (h3.mono (by omega)) (k2'.trans k3)
end
end Ry
namespace Ry
open PySem PySem.Spec PyProof.Rows L2 He RyH
open C8 (pss_cut tCut Cal Met Mak pe_c pe_mk pe_mt pe_mt0 pe_gc)
/-! ### formats -/
inductive FP where
  | txt (x : Str) | mark (x : Str)
def txtMenu : List Str := ["a ", "x", "root ", "INFO", "Level ", "7", ":", "{", "}", "$", "a.b", "WARNING:", " ", "", "-"]
def menu0 : List Str := ["a ", "x", "root ", "INFO", "Level ", "7", ":", "{", "}", "$", "a.b", "WARNING:"]
def markMenu : List Str := ["message", "name", "levelname", "levelno"]
abbrev menuV : List V := [.str "a ", .str "x", .str "root ", .str "INFO", .str "Level ", .str "7", .str ":", .str "{", .str "}", .str "$", .str "a.b", .str "WARNING:"]
theorem menuV_eq : menuV = menu0.map V.str := rfl
def FP.ok : FP → Prop
  | .txt x => x ∈ txtMenu
  | .mark x => x ∈ markMenu
instance (p : FP) : Decidable p.ok := by
  cases p <;> (unfold FP.ok; infer_instance)
theorem was_none {H : Hp} {a b : Addr} {o : HO} (e : upd H a o b = none) : H b = none := by
  by_cases z : b = a
  · rw [z, upd_same] at e
    cases e
  · rwa [upd_ne z] at e
def FpAt (N : Addr → Prop) (H : Hp) (v : V) : FP → Prop
  | .txt x => v = .str x
  | .mark x => ∃ t, v = .ref t ∧ N t ∧ H t = some (.tup [.str x])
/-- a format's parts as they stand in a list -/
def FmtAt (N : Addr → Prop) (H : Hp) : List V → List FP → Prop := Paired (FpAt N H)
def FmtV (N : Addr → Prop) (H : Hp) (v : V) : Option (List FP) → Prop
  | none => v = .non
  | some ps => ∃ a ys, v = .ref a ∧ N a ∧ H a = some (.lst ys) ∧ FmtAt N H ys ps
theorem Paired.impl {α β : Type} {F G : α → β → Prop} : ∀ {xs : List α} {ys : List β}, Paired F xs ys → (∀ x y, F x y → G x y) → Paired G xs ys
  | _, _, .nil, _ => .nil
  | _, _, .cons r t, h => .cons (h _ _ r) (Paired.impl t h)
theorem FpAt.kp {N N' M : Addr → Prop} {H H' : Hp} {v : V} {p : FP} (h : FpAt N H v p) (k : Kp M H H') (hn : ∀ b, N b → N' b ∧ ¬ M b) : FpAt N' H' v p := by
  cases p with
  | txt x => exact h
  | mark x =>
    obtain ⟨t, e, n, q⟩ := h
    exact ⟨t, e, (hn t n).1, k _ _ q (hn t n).2⟩
theorem FmtAt.kp {N N' M : Addr → Prop} {H H' : Hp} {ys : List V} {ps : List FP} (h : FmtAt N H ys ps) (k : Kp M H H') (hn : ∀ b, N b → N' b ∧ ¬ M b) : FmtAt N' H' ys ps := Paired.impl h fun _ _ z => z.kp k hn
theorem FmtV.kp {N N' M : Addr → Prop} {H H' : Hp} {v : V} {o : Option (List FP)} (h : FmtV N H v o) (k : Kp M H H') (hn : ∀ b, N b → N' b ∧ ¬ M b) : FmtV N' H' v o := by
  cases o with
  | none => exact h
  | some ps =>
    obtain ⟨a, ys, e, n, q, f⟩ := h
    exact ⟨a, ys, e, (hn a n).1, k _ _ q (hn a n).2, f.kp k hn⟩
/-- a format of the plans -/
def fmtOk : Option (List FP) → Prop
  | none => True
  | some ps => (∀ p ∈ ps, p.ok) ∧ ps.length ≤ 6 ∧ 0 < ps.length
/-- what was free in H -/
def Fre (H : Hp) : Addr → Prop := fun b => H b = none
def spFormat : Sp := fun vs H Q _ => ∃ (s l : Addr) (n : Nat), vs = [.ref s] ∧ StAt H s l n ∧ n + 30 < Bud ∧
  ∀ v o H', fmtOk o → FmtV (Fre H) H' v o → StAt H' s l (n + 30) → Kp (onSt s l) H H' → Q v H'
theorem mem0 {x : Str} (h : x ∈ menu0) : x ∈ txtMenu := by
  have e : txtMenu = menu0 ++ ([" ", "", "-"] : List Str) := rfl
  rw [e]
  exact List.mem_append_left _ h
theorem fps_of {N : Addr → Prop} {H : Hp} : ∀ {ys : List V}, (∀ y ∈ ys, ∃ p, FpAt N H y p ∧ p.ok) → ∃ ps : List FP, FmtAt N H ys ps ∧ (∀ p ∈ ps, p.ok) ∧ ps.length = ys.length
  | [], _ => ⟨[], .nil, (fun p h => nomatch h), rfl⟩
  | y :: ys, h => by
    obtain ⟨p, h1, h2⟩ := h y (List.mem_cons_self ..)
    obtain ⟨ps, h3, h4, h5⟩ := fps_of fun z hz => h z (List.mem_cons_of_mem _ hz)
    refine ⟨p :: ps, .cons h1 h3, fun q hq => ?_, by rw [List.length_cons, List.length_cons, h5]⟩
    rcases List.mem_cons.mp hq with e | e
    · rw [e]; exact h2
    · exact h4 q e
theorem ssz {n : Nat} (h : Nat.ble n 1000 = true) : n ≤ sizeLine := small_size (Nat.le_of_ble_eq_true h)
/-- what the four marks are -/
theorem mark_of {N : Addr → Prop} {H : Hp} {t1 t2 t3 t4 : Addr} {x : V} (h : x ∈ [V.ref t1, .ref t2, .ref t3, .ref t4]) (n1 : N t1) (n2 : N t2) (n3 : N t3) (n4 : N t4) (e1 : H t1 = some (.tup [.str "message"])) (e2 : H t2 = some (.tup [.str "name"]))
    (e3 : H t3 = some (.tup [.str "levelname"])) (e4 : H t4 = some (.tup [.str "levelno"])) : ∃ p, FpAt N H x p ∧ p.ok := by
  simp only [List.mem_cons, List.not_mem_nil, or_false] at h
  rcases h with rfl | rfl | rfl | rfl
  · exact ⟨.mark "message", ⟨_, rfl, n1, e1⟩, by decide⟩
  · exact ⟨.mark "name", ⟨_, rfl, n2, e2⟩, by decide⟩
  · exact ⟨.mark "levelname", ⟨_, rfl, n3, e3⟩, by decide⟩
  · exact ⟨.mark "levelno", ⟨_, rfl, n4, e4⟩, by decide⟩
theorem txt_of {N : Addr → Prop} {H : Hp} {x : V} (h : x ∈ menuV) : ∃ p, FpAt N H x p ∧ p.ok := by
  rw [menuV_eq] at h
  obtain ⟨z, hz, rfl⟩ := List.mem_map.mp h
  exact ⟨.txt z, rfl, mem0 hz⟩
theorem sep_mem {z : Str} (h : z ∈ ([" ", "", "-"] : List Str)) : FP.ok (.txt z) := by
  have e : txtMenu = menu0 ++ ([" ", "", "-"] : List Str) := rfl
  show z ∈ txtMenu
  rw [e]
  exact List.mem_append_right _ h
section
variable {P : Program} {w : World} {K : PySem.W.Frag} {mg : Str → Option Value} {base : Heap}
theorem sc_law_format : FnScope ["_law_stream", "_law_way", "_law_menu", "_law_marks", "_law_found", "_law_k"] ["_law_stream"] (defScope s_law_format) := ⟨rfl, rfl, rfl, by decide +kernel, rfl, by decide +kernel, by decide +kernel⟩
theorem cal_law_format (T : Txt w K mg) : Cal P w K mg base 3 "_law_format" (spFormat) [] := by
  obtain ⟨fd, F⟩ := T.df_law_format
  have c_law_draw := cal_law_draw (P := P) (base := base) T
  have c_law_pick := cal_law_pick (P := P) (base := base) T
  refine ⟨_, fd, ["_law_stream"], [], F.ok sc_law_format (fun vs H Q E h => ?_) (fun cdv A outer s H vs Q E hr h => ?_), T.m_law_format, F.kp, F.bindsN (fun _ _ _ _ _ _ us hl => match us, hl with | [_], _ => rfl), .nil⟩
  · obtain ⟨_, _, _, rfl, _⟩ := h
    rfl
  · obtain ⟨s, l, n, rfl, hs, hn, k⟩ := h
    have hn' := bud hn
    -- 0 _law_stream, 1 _law_way, 2 _law_menu, 3 _law_marks, 4 _law_found, 5 _law_k
    refine ⟨_, PSs.nox (pss_cons (ps_set (i := 1) sc_law_format.nd rfl (Or.inl rfl) (pe_c c_law_draw hr (by decide) (by rfl) (pa_cons (pv 0) (pa_cons pe_int pa_nil))))
      (pss_cons (ps_if (pt_cmpR op_lt (pv 1) pe_int (nomark _))
        (pss_one (ps_ret pe_non))
        pss_nil)
      (pss_cons (ps_set (i := 2) sc_law_format.nd rfl (Or.inr rfl) (pe_lst (pa_cons pe_str (pa_cons pe_str (pa_cons pe_str (pa_cons pe_str (pa_cons pe_str (pa_cons pe_str (pa_cons pe_str (pa_cons pe_str (pa_cons pe_str (pa_cons pe_str (pa_cons pe_str (pa_cons pe_str pa_nil))))))))))))))
      (pss_cons (ps_set (i := 3) sc_law_format.nd rfl (Or.inr rfl) (pe_lst (pa_cons (pe_tup (pa_cons pe_str pa_nil)) (pa_cons (pe_tup (pa_cons pe_str pa_nil)) (pa_cons (pe_tup (pa_cons pe_str pa_nil)) (pa_cons (pe_tup (pa_cons pe_str pa_nil)) pa_nil))))))
      (pss_cons (ps_if (pt_cmpR op_lt (pv 1) pe_int (nomark _))
        (pss_cons (ps_set (i := 4) sc_law_format.nd rfl (Or.inl rfl) (pe_lst (pa_cons (pe_c c_law_pick hr (by decide) (by rfl) (pa_cons (pv 0) (pa_cons (pv 2) pa_nil))) (pa_cons (pe_c c_law_pick hr (by decide) (by rfl) (pa_cons (pv 0) (pa_cons (pv 3) pa_nil))) (pa_cons (pe_c c_law_pick hr (by decide) (by rfl) (pa_cons (pv 0) (pa_cons (pe_lst (pa_cons pe_str (pa_cons pe_str (pa_cons pe_str pa_nil)))) pa_nil))) (pa_cons (pe_tup (pa_cons pe_str pa_nil)) pa_nil))))))
        (pss_one (ps_ret (pe_slice sl_list (pv 4) po_none (po_some (pe_op op_sub pe_int (pe_callTy call_int1 (by rfl) T.f_int (by decide +kernel) (pa_cons (pe_cmpR op_eq (pe_c c_law_draw hr (by decide) (by rfl) (pa_cons (pv 0) (pa_cons pe_int pa_nil))) pe_int (nomark _)) pa_nil))))))))
        pss_nil)
      (pss_cut (ps_if (PW.pt (pw_and (pt_cmpR op_eq (pv 1) pe_int (nomark _)) (pw_and1 (pt_cmpR op_eq (pe_c c_law_draw hr (by decide) (by rfl) (pa_cons (pv 0) (pa_cons pe_int pa_nil))) pe_int (nomark _)))))
        (pss_one (ps_ret (pe_lst (pa_cons (pe_c c_law_pick hr (by decide) (by rfl) (pa_cons (pv 0) (pa_cons (pe_op op_cat (pv 2) (pe_lst (pa_cons pe_str pa_nil))) pa_nil))) pa_nil))))
        pss_nil)
      (pss_cons (ps_setLc (i := 4) (own := [("_law_k", 5)]) rfl sc_law_format.nd rfl rfl (sw_true rfl rfl rfl (by decide +kernel)) (pi_range1 (by rfl) T.f_range (pa_cons (pe_c c_law_draw hr (by decide) (by rfl) (pa_cons (pv 0) (pa_cons pe_int pa_nil))) pa_nil)) (blkOk_by (N := ["_law_stream", "_law_way", "_law_menu", "_law_marks", "_law_found", "_law_k"]) (sc := defScope s_law_format) (own := [("_law_k", 5)]) (by decide +kernel)) (fun _ _ _ _ _ => pg_name (i := 5) sc_law_format.nd rfl (Or.inl rfl)) (fun _ _ _ _ _ => pts_nil) (fun _ _ _ _ _ => (pe_c c_law_pick hr (by decide) (by rfl) (pa_cons (pv 0) (pa_cons (pe_op op_cat (pe_op op_cat (pv 2) (pv 3)) (pv 3)) pa_nil)))))
      (pss_one (ps_ret (pe_op op_cat (pv 4) (pe_lst (pa_cons (pe_c c_law_pick hr (by decide) (by rfl) (pa_cons (pv 0) (pa_cons (pv 3) pa_nil))) pa_nil)))))))))))), ?_⟩
    refine ⟨_, rfl, ?_⟩
    refine ⟨s, l, 8, n, rfl, hs, by omega, by omega, by omega, fun d H1 h0 h1 hs1 k1 => ?_⟩
    refine ⟨_, rfl, ?_⟩
    refine ⟨_, _, rfl, rfl, _, rfl, ?_⟩
    refine ite2 (fun e1 => ?_) (fun e1 => ?_)
    · exact k _ none H1 trivial rfl (hs1.mono (by omega)) k1
    -- menu, marks
    refine ⟨ssz rfl, fun pm hpm => ?_⟩
    refine ⟨ssz rfl, fun t1 ht1 => ?_⟩
    refine ⟨ssz rfl, fun t2 ht2 => ?_⟩
    refine ⟨ssz rfl, fun t3 ht3 => ?_⟩
    refine ⟨ssz rfl, fun t4 ht4 => ?_⟩
    refine ⟨ssz rfl, fun pk hpk => ?_⟩
    -- the heap behind
    have fr : ∀ q, H1 q = none → Fre H q := fun q hq => k1.was hs1 hq
    have hs2 := ((((((hs1.new (o := .lst menuV) hpm).new (o := .tup [.str "message"]) ht1).new (o := .tup [.str "name"]) ht2).new (o := .tup [.str "levelname"]) ht3).new (o := .tup [.str "levelno"]) ht4).new (o := .lst [.ref t1, .ref t2, .ref t3, .ref t4]) hpk)
    have k2 := k1.trans ((((((Kp.new (M := onSt s l) (o := .lst menuV) hpm).trans (Kp.new (o := .tup [.str "message"]) ht1)).trans (Kp.new (o := .tup [.str "name"]) ht2)).trans (Kp.new (o := .tup [.str "levelname"]) ht3)).trans (Kp.new (o := .tup [.str "levelno"]) ht4)).trans (Kp.new (o := .lst [.ref t1, .ref t2, .ref t3, .ref t4]) hpk))
    have fm := upd_at (o := .lst [.ref t1, .ref t2, .ref t3, .ref t4]) (upd_at (o := .tup [.str "levelno"]) (upd_at (o := .tup [.str "levelname"]) (upd_at (o := .tup [.str "name"]) (upd_at (o := .tup [.str "message"]) (upd_same (H := H1) (a := pm) (o := .lst menuV)) ht1) ht2) ht3) ht4) hpk
    have f1 := upd_at (o := .lst [.ref t1, .ref t2, .ref t3, .ref t4]) (upd_at (o := .tup [.str "levelno"]) (upd_at (o := .tup [.str "levelname"]) (upd_at (o := .tup [.str "name"]) (upd_same (H := upd H1 pm (.lst menuV)) (a := t1) (o := .tup [.str "message"])) ht2) ht3) ht4) hpk
    have f2 := upd_at (o := .lst [.ref t1, .ref t2, .ref t3, .ref t4]) (upd_at (o := .tup [.str "levelno"]) (upd_at (o := .tup [.str "levelname"]) (upd_same (H := upd (upd H1 pm (.lst menuV)) t1 (.tup [.str "message"])) (a := t2) (o := .tup [.str "name"])) ht3) ht4) hpk
    have f3 := upd_at (o := .lst [.ref t1, .ref t2, .ref t3, .ref t4]) (upd_at (o := .tup [.str "levelno"]) (upd_same (H := upd (upd (upd H1 pm (.lst menuV)) t1 (.tup [.str "message"])) t2 (.tup [.str "name"])) (a := t3) (o := .tup [.str "levelname"])) ht4) hpk
    have f4 := upd_at (o := .lst [.ref t1, .ref t2, .ref t3, .ref t4]) (upd_same (H := upd (upd (upd (upd H1 pm (.lst menuV)) t1 (.tup [.str "message"])) t2 (.tup [.str "name"])) t3 (.tup [.str "levelname"])) (a := t4) (o := .tup [.str "levelno"])) hpk
    have fk := upd_same (H := upd (upd (upd (upd (upd H1 pm (.lst menuV)) t1 (.tup [.str "message"])) t2 (.tup [.str "name"])) t3 (.tup [.str "levelname"])) t4 (.tup [.str "levelno"])) (a := pk) (o := .lst [.ref t1, .ref t2, .ref t3, .ref t4])
    have nm := fr pm hpm
    have n1 := fr t1 (was_none ht1)
    have n2 := fr t2 (was_none (was_none ht2))
    have n3 := fr t3 (was_none (was_none (was_none ht3)))
    have n4 := fr t4 (was_none (was_none (was_none (was_none ht4))))
    have nk := fr pk (was_none (was_none (was_none (was_none (was_none hpk)))))
    clear fr hpm ht1 ht2 ht3 ht4 hpk
    refine ⟨_, rfl, ?_⟩
    refine ⟨_, _, rfl, rfl, _, rfl, ?_⟩
    generalize (L2.upd (L2.upd (L2.upd (L2.upd (L2.upd (L2.upd H1 pm (.lst menuV)) t1 (.tup [.str "message"])) t2 (.tup [.str "name"])) t3 (.tup [.str "levelname"])) t4 (.tup [.str "levelno"])) pk (.lst [.ref t1, .ref t2, .ref t3, .ref t4])) = H2 at *
    have om := hs.off nm
    have ok := hs.off nk
    refine ite2 (fun e2 => ?_) (fun e2 => ?_)
    · -- a fixed shape
      refine ⟨_, rfl, _, rfl, ?_⟩
      refine ⟨s, pm, l, _, menuV, rfl, hs2, by simp only [Bud]; omega, om, fm, by decide, by decide, fun x1 H3 hx1 hs3 k3 => ?_⟩
      refine ⟨_, rfl, _, rfl, ?_⟩
      refine ⟨s, pk, l, _, [.ref t1, .ref t2, .ref t3, .ref t4], rfl, hs3, by simp only [Bud]; omega, ok, k3 _ _ fk ok, (Nat.lt_of_sub_eq_succ rfl), (Nat.le_of_ble_eq_true rfl), fun x2 H4 hx2 hs4 k4 => ?_⟩
      refine ⟨_, rfl, ssz rfl, fun q hq => ?_⟩
      refine ⟨s, q, l, _, ([" ", "", "-"] : List Str).map V.str, rfl, hs4.new hq, by simp only [Bud]; omega, hs4.off hq, upd_same, by decide, by decide, fun x3 H5 hx3 hs5 k5 => ?_⟩
      refine ⟨ssz rfl, fun t5 ht5 => ?_⟩
      refine ⟨ssz rfl, fun r hr5 => ?_⟩
      have K5 : Kp (onSt s l) H2 H5 := (k3.trans k4).trans ((Kp.new hq).trans k5)
      have hs6 := (hs5.new (o := .tup [.str "message"]) ht5).new (o := .lst [x1, x2, x3, .ref t5]) hr5
      have K6 := K5.trans ((Kp.new (M := onSt s l) (o := .tup [.str "message"]) ht5).trans (Kp.new (o := .lst [x1, x2, x3, .ref t5]) hr5))
      have n5 : Fre H t5 := (k2.trans K5).was hs5 ht5
      have nr : Fre H r := (k2.trans K5).was hs5 (was_none hr5)
      have f5 := upd_at (o := .lst [x1, x2, x3, .ref t5]) (upd_same (H := H5) (a := t5) (o := .tup [.str "message"])) hr5
      have fr := upd_same (H := upd H5 t5 (.tup [.str "message"])) (a := r) (o := .lst [x1, x2, x3, .ref t5])
      generalize (L2.upd (L2.upd H5 t5 (.tup [.str "message"])) r (.lst [x1, x2, x3, .ref t5])) = H6 at *
      refine ⟨_, rfl, ?_⟩
      refine ⟨_, rfl, ?_⟩
      refine ⟨s, l, 4, _, rfl, hs6, by omega, by omega, by omega, fun d2 H7 _ _ hs7 k7 => ?_⟩
      refine ⟨rfl, .inr ⟨_, rfl, ?_⟩⟩
      refine ⟨_, _, rfl, rfl, ?_⟩
      refine ⟨_, rfl, ?_⟩
      refine ⟨_, _, rfl, SqL.of (k7 _ _ fr (hs.off nr)), fun p hp => ?_⟩
      have np : Fre H p := (k2.trans (K6.trans k7)).was hs7 hp
      have K7 : Kp (onSt s l) H2 (upd H7 p (.lst (cutV [x1, x2, x3, V.ref t5] none (some (4 - if decide (V.int d2 = V.int 0) = true then 1 else 0))))) := (K6.trans k7).trans (Kp.new hp)
      have q5 := upd_at (o := .lst (cutV [x1, x2, x3, V.ref t5] none (some (4 - if decide (V.int d2 = V.int 0) = true then 1 else 0)))) (k7 _ _ f5 (hs.off n5)) hp
      have qp := upd_same (H := H7) (a := p) (o := .lst (cutV [x1, x2, x3, V.ref t5] none (some (4 - if decide (V.int d2 = V.int 0) = true then 1 else 0))))
      have sf := hs7.new (o := .lst (cutV [x1, x2, x3, V.ref t5] none (some (4 - if decide (V.int d2 = V.int 0) = true then 1 else 0)))) hp
      have hc : ∃ ys, cutV [x1, x2, x3, V.ref t5] none (some (4 - if decide (V.int d2 = V.int 0) = true then 1 else 0)) = ys ∧ (ys = [x1, x2, x3, V.ref t5] ∨ ys = [x1, x2, x3]) := by
        refine ⟨_, rfl, ?_⟩
        split
        · exact .inr rfl
        · exact .inl rfl
      obtain ⟨ys, ey, hy⟩ := hc
      rw [ey] at K7 q5 qp sf ⊢
      generalize L2.upd H7 p (.lst ys) = Hf at *
      have g1 : ∃ p, FpAt (Fre H) Hf x1 p ∧ p.ok := txt_of hx1
      have g2 : ∃ p, FpAt (Fre H) Hf x2 p ∧ p.ok := mark_of hx2 n1 n2 n3 n4 (K7 _ _ f1 (hs.off n1)) (K7 _ _ f2 (hs.off n2)) (K7 _ _ f3 (hs.off n3)) (K7 _ _ f4 (hs.off n4))
      have g3 : ∃ p, FpAt (Fre H) Hf x3 p ∧ p.ok := by
        obtain ⟨z, hz, rfl⟩ := List.mem_map.mp hx3
        exact ⟨.txt z, rfl, sep_mem hz⟩
      have g5 : ∃ p, FpAt (Fre H) Hf (.ref t5) p ∧ p.ok := ⟨.mark "message", ⟨_, rfl, n5, q5⟩, by decide⟩
      have hall : ∀ y ∈ ys, ∃ p, FpAt (Fre H) Hf y p ∧ p.ok := by
        intro y hm
        rcases hy with e | e <;> rw [e] at hm
        · simp only [List.mem_cons, List.not_mem_nil, or_false] at hm
          rcases hm with rfl | rfl | rfl | rfl <;> assumption
        · simp only [List.mem_cons, List.not_mem_nil, or_false] at hm
          rcases hm with rfl | rfl | rfl <;> assumption
      have hlen : ys.length ≤ 6 ∧ 0 < ys.length := by rcases hy with e | e <;> rw [e] <;> exact ⟨Nat.le_of_ble_eq_true rfl, Nat.lt_of_sub_eq_succ rfl⟩
      obtain ⟨ps, p1, p2, p3⟩ := fps_of hall
      exact k _ (some ps) Hf ⟨p2, by omega, by omega⟩ ⟨p, ys, rfl, np, qp, p1⟩ (sf.mono (by omega)) (k2.trans K7)
    · -- way 6, 7
      refine ⟨fun σ' H' => σ' = [some (.ref s), some (.int d), some (.ref pm), some (.ref pk), none, none] ∧ StAt H' s l (n + 2) ∧ Kp (onSt s l) H2 H', ?_, ?_⟩
      · refine ⟨_, rfl, ?_⟩
        refine ⟨rfl, _, rfl, ?_⟩
        refine ite2 (fun e3 => ?_) (fun e3 => ?_)
        · refine ⟨_, rfl, ?_⟩
          refine ⟨s, l, 2, _, rfl, hs2, by omega, by omega, by omega, fun d2 H3 _ _ hs3 k3 => ?_⟩
          refine ⟨rfl, _, rfl, ?_⟩
          refine ite2 (fun e4 => ?_) (fun e4 => ?_)
          · refine ⟨_, rfl, _, rfl, ssz rfl, fun q hq => ?_⟩
            refine ⟨_, _, _, _, rfl, rfl, upd_at (k3 _ _ fm om) hq, upd_same, ssz rfl, fun c hc => ?_⟩
            have hc0 := was_none hc
            refine ⟨s, c, l, _, menuV ++ [V.str ""], rfl, (hs3.new hq).new hc, by simp only [Bud]; omega, hs3.off hc0, upd_same, by decide, by decide, fun x H4 hx hs4 k4 => ?_⟩
            refine ⟨ssz rfl, fun r hr4 => ?_⟩
            have K4 : Kp (onSt s l) H2 (L2.upd H4 r (.lst [x])) := ((k3.trans ((Kp.new hq).trans (Kp.new hc))).trans k4).trans (Kp.new hr4)
            have nr : Fre H r := (k2.trans ((k3.trans ((Kp.new hq).trans (Kp.new hc))).trans k4)).was hs4 hr4
            have hx' : ∃ p, FpAt (Fre H) (L2.upd H4 r (.lst [x])) x p ∧ p.ok := by
              rcases List.mem_append.mp hx with z | z
              · exact txt_of z
              · rw [List.mem_singleton.mp z]
                exact ⟨.txt "", rfl, by decide⟩
            obtain ⟨p, p1, p2⟩ := hx'
            exact k _ (some [p]) _ ⟨fun q hq => by rw [List.mem_singleton.mp hq]; exact p2, Nat.le_of_ble_eq_true rfl, Nat.lt_of_sub_eq_succ rfl⟩ ⟨r, [x], rfl, nr, upd_same, .cons p1 .nil⟩ ((hs4.new hr4).mono (by omega)) (k2.trans K4)
          · exact ⟨rfl, hs3.mono (by omega), k3⟩
        · refine iteF ?_
          exact ⟨rfl, hs2.mono (by omega), Kp.refl⟩
      · rintro σ' H3 ⟨rfl, hs3, k3⟩
        refine ⟨_, rfl, ?_⟩
        refine ⟨s, l, 6, _, rfl, hs3, by omega, by omega, by omega, fun m H4 hm0 hm1 hs4 k4 => ?_⟩
        obtain ⟨i, rfl⟩ := Int.eq_ofNat_of_zero_le hm0
        refine ⟨i, rfl, by omega, by omega, ?_⟩
        intro D hD
        have K4 := k3.trans k4
        have nD : Fre H D := (k2.trans K4).was hs4 hD
        have a1 := K4 _ _ f1 (hs.off n1)
        have a2 := K4 _ _ f2 (hs.off n2)
        have a3 := K4 _ _ f3 (hs.off n3)
        have a4 := K4 _ _ f4 (hs.off n4)
        have am := K4 _ _ fm om
        have ak := K4 _ _ fk ok
        refine lc_draws (b := 1) (fun H' y => ∃ p, FpAt (fun b => Fre H b ∧ b ≠ D) H' y p ∧ p.ok) hD hs4 (by omega) ?_ ?_ (fun _ => rfl) ?_ ?_
        · rintro y Ha Hb _ kab ⟨p, z1, z2⟩
          exact ⟨p, z1.kp kab fun b hb => ⟨hb, hs.off hb.1⟩, z2⟩
        · rintro y Ha o ⟨p, z1, z2⟩
          exact ⟨p, z1.kp (M := fun b => b = D) (Kp.at rfl) fun b hb => ⟨hb, hb.2⟩, z2⟩
        · intro j Ha Qa hj ha ka _ kk
          refine ⟨_, rfl, _, rfl, _, rfl, ?_⟩
          refine ⟨_, _, _, _, rfl, rfl, ka _ _ am om, ka _ _ ak ok, ssz rfl, fun q hq => ?_⟩
          refine ⟨_, rfl, ?_⟩
          refine ⟨_, _, _, _, rfl, rfl, upd_same, upd_at (ka _ _ ak ok) hq, ssz rfl, fun c hc => ?_⟩
          have hc0 := was_none hc
          refine ⟨s, c, l, _, (menuV ++ [.ref t1, .ref t2, .ref t3, .ref t4]) ++ [.ref t1, .ref t2, .ref t3, .ref t4], rfl, (ha.new hq).new hc, by simp only [Bud]; omega, ha.off hc0, upd_same, (Nat.lt_of_sub_eq_succ rfl), (Nat.le_of_ble_eq_true rfl), fun x Hb hx hb kb => ?_⟩
          have kab : Kp (onSt s l) Ha Hb := ((Kp.new hq).trans (Kp.new hc)).trans kb
          have kb4 := ka.trans kab
          refine kk x Hb (hb.mono (by omega)) kab ?_
          have am : ∀ {t}, H4 t ≠ none → t ≠ D := fun hne e => hne (by rw [e]; exact hD)
          have mk : ∀ (z : x ∈ [V.ref t1, .ref t2, .ref t3, .ref t4]), ∃ p, FpAt (fun b => Fre H b ∧ b ≠ D) Hb x p ∧ p.ok := fun z =>
            mark_of z ⟨n1, am (by rw [a1]; simp)⟩ ⟨n2, am (by rw [a2]; simp)⟩ ⟨n3, am (by rw [a3]; simp)⟩ ⟨n4, am (by rw [a4]; simp)⟩ (kb4 _ _ a1 (hs.off n1)) (kb4 _ _ a2 (hs.off n2)) (kb4 _ _ a3 (hs.off n3)) (kb4 _ _ a4 (hs.off n4))
          rcases List.mem_append.mp hx with z | z
          · rcases List.mem_append.mp z with z | z
            · exact txt_of z
            · exact mk z
          · exact mk z
        · intro H5 ys hys hl hf hs5 k5
          refine ⟨_, rfl, ?_⟩
          refine ⟨_, rfl, _, rfl, ?_⟩
          refine ⟨s, pk, l, _, [.ref t1, .ref t2, .ref t3, .ref t4], rfl, hs5, by simp only [Bud]; omega, ok, k5 _ _ ak ok, (Nat.lt_of_sub_eq_succ rfl), (Nat.le_of_ble_eq_true rfl), fun x H6 hx hs6 k6 => ?_⟩
          refine ⟨ssz rfl, fun q hq => ?_⟩
          refine ⟨_, _, _, _, rfl, rfl, upd_at (k6 _ _ hys (hs.off nD)) hq, upd_same, small_size (by simp; omega), fun c hc => ?_⟩
          have K6 : Kp (onSt s l) H4 H6 := k5.trans k6
          have K7 : Kp (onSt s l) H6 (L2.upd (L2.upd H6 q (.lst [x])) c (.lst (ys ++ [x]))) := (Kp.new hq).trans (Kp.new hc)
          have nc : Fre H c := ((k2.trans K4).trans K6).was hs6 (was_none hc)
          have K47 := K6.trans K7
          have g : ∀ y ∈ ys ++ [x], ∃ p, FpAt (Fre H) (L2.upd (L2.upd H6 q (.lst [x])) c (.lst (ys ++ [x]))) y p ∧ p.ok := by
            intro y hy
            rcases List.mem_append.mp hy with z | z
            · obtain ⟨p, p1, p2⟩ := hf y z
              exact ⟨p, p1.kp (k6.trans K7) fun b hb => ⟨hb.1, hs.off hb.1⟩, p2⟩
            · rw [List.mem_singleton.mp z]
              exact mark_of hx n1 n2 n3 n4 (K47 _ _ a1 (hs.off n1)) (K47 _ _ a2 (hs.off n2)) (K47 _ _ a3 (hs.off n3)) (K47 _ _ a4 (hs.off n4))
          obtain ⟨ps, p1, p2, p3⟩ := fps_of g
          rw [List.length_append, List.length_singleton] at p3
          exact k _ (some ps) _ ⟨p2, by omega, by omega⟩ ⟨c, _, rfl, nc, upd_same, p1⟩ (((hs6.new hq).new hc).mono (by omega)) ((k2.trans K4).trans K47)
end
end Ry
namespace Ry
open PySem PySem.Spec PyProof.Rows L2 He RyH
open C8 (pss_cut tCut Cal Met Mak pe_c pe_mk pe_mt pe_mt0 pe_gc)
/-! ### does a format name a field -/
theorem Same.wr {H H' : Hp} {p : Addr} {o : HO} (k : Same H H') (hp : H p = none) : Same H (upd H' p o) := fun b u e => by
  rw [upd_ne (ne_of_none e hp)]
  exact k b u e
theorem Same.rfl' {H : Hp} : Same H H := fun _ _ h => h
theorem Same.tr {H H1 H2 : Hp} (a : Same H H1) (b : Same H1 H2) : Same H H2 := fun c o h => b c o (a c o h)
theorem Same.nw {H : Hp} {p : Addr} {o : HO} (h : H p = none) : Same H (upd H p o) := fun b u e => by rw [upd_ne (ne_of_none e h)]; exact e
theorem Same.was {H H' : Hp} {p : Addr} (k : Same H H') (hp : H' p = none) : H p = none := by
  cases q : H p with
  | none => rfl
  | some o =>
    rw [k p o q] at hp
    cases hp
theorem FmtAt.same {N : Addr → Prop} {H H' : Hp} {ys : List V} {ps : List FP} (h : FmtAt N H ys ps) (k : Same H H') : FmtAt N H' ys ps := h.kp (M := fun _ => False) (Kp.same k) fun b hb => ⟨hb, fun z => z⟩
def FP.isMark : FP → Bool
  | .txt _ => false
  | .mark _ => true
theorem Paired.nth {α β : Type} {F : α → β → Prop} : ∀ {xs : List α} {ys : List β} {i : Nat} {x : α}, Paired F xs ys → xs[i]? = some x → ∃ y, ys[i]? = some y ∧ F x y
  | _, _, 0, _, .cons r _, e => ⟨_, rfl, by cases e; exact r⟩
  | _, _, i + 1, _, .cons _ t, e => Paired.nth (i := i) t e
theorem take_nth {α : Type} {xs : List α} {i : Nat} {x : α} (h : xs[i]? = some x) : xs.take (i + 1) = xs.take i ++ [x] := by
  rw [List.take_add_one, h]
  rfl
def spHasField : Sp := fun vs H Q _ => ∃ (p : Addr) (N : Addr → Prop) (ys : List V) (ps : List FP), vs = [.ref p] ∧ H p = some (.lst ys) ∧ FmtAt N H ys ps ∧ ps.length ≤ 100 ∧ ∀ H', Same H H' → Q (.bl (ps.any FP.isMark)) H'
theorem FpAt.isTup {N : Addr → Prop} {K : PySem.W.Frag} {H : Hp} {x : V} {p : FP} (h : FpAt N H x p) : ∃ t, TyX K H x t ∧ PySem.W.kitOne K t (.type "tuple") = some p.isMark := by
  cases p with
  | txt z =>
    cases h
    exact ⟨_, .base (.str z), kit_ty (show kitB "str" "tuple" = some false by decide +kernel)⟩
  | mark z =>
    obtain ⟨t, rfl, _, e⟩ := h
    exact ⟨_, .base (.tup e), kit_ty (show kitB "tuple" "tuple" = some true by decide +kernel)⟩
section
variable {P : Program} {w : World} {K : PySem.W.Frag} {mg : Str → Option Value} {base : Heap}
theorem sc_law_has_field : FnScope ["_law_parts", "_law_part"] ["_law_parts"] (defScope s_law_has_field) := ⟨rfl, rfl, rfl, by decide +kernel, rfl, by decide +kernel, by decide +kernel⟩
theorem cal_law_has_field (T : Txt w K mg) : Cal P w K mg base 1 "_law_has_field" (spHasField) [] := by
  obtain ⟨fd, F⟩ := T.df_law_has_field
  refine ⟨_, fd, ["_law_parts"], [], F.ok sc_law_has_field (fun vs H Q E h => ?_) (fun cdv A outer s H vs Q E hr h => ?_), T.m_law_has_field, F.kp, F.bindsN (fun _ _ _ _ _ _ us hl => match us, hl with | [_], _ => rfl), .nil⟩
  · obtain ⟨_, _, _, _, rfl, _⟩ := h
    rfl
  · obtain ⟨p, N, ys, ps, rfl, hp, hf, hl, k⟩ := h
    -- 0 _law_parts, 1 _law_part
    refine ⟨_, PSs.nox (pss_one (ps_ret (pe_callB (id := "any") (cr_any rfl) (by rfl) T.f_any (by decide +kernel) (pa_cons (pe_lc (own := [("_law_part", 1)]) rfl sc_law_has_field.nd (pi_list (pv 0)) (blkOk_by (N := ["_law_parts", "_law_part"]) (sc := defScope s_law_has_field) (own := [("_law_part", 1)]) (by decide +kernel)) (fun _ _ _ _ _ => pg_name (i := 1) sc_law_has_field.nd rfl (Or.inl rfl)) (fun _ _ _ _ _ => pts_nil) (fun _ _ _ _ _ => (pe_callB (id := "isinstance") (r := rIsi K) call_isi (by rfl) T.f_isinstance (by decide +kernel) (pa_cons (pv 1) (pa_cons (pe_bltn (v := .ty "tuple") (by rfl) T.f_tuple (by decide +kernel) rfl) pa_nil))))) pa_nil)))), ?_⟩
    refine ⟨_, rfl, ?_⟩
    refine ⟨p, rfl, ⟨ys, SqL.of hp⟩, ?_⟩
    intro D hD
    have hlen : ys.length = ps.length := Paired.length hf
    refine lc_list (xs := ys) (fun i H' => Same H H' ∧ H' D = some (.lst (((ps.take i).map FP.isMark).map V.bl))) ⟨Same.nw hD, upd_same⟩ (fun i H' _ h => SqL.of (h.1 _ _ hp)) ?_ ?_
    · rintro i x H' hx ⟨k1, h1⟩
      obtain ⟨q, hq, fq⟩ := Paired.nth hf hx
      refine ⟨rfl, ?_⟩
      refine ⟨_, rfl, ?_⟩
      obtain ⟨t, ty, kt⟩ := FpAt.isTup (K := K) (fq.kp (M := fun _ => False) (Kp.same k1) fun b hb => ⟨hb, fun z => z⟩)
      refine ⟨_, _, t, _, _, rfl, .ty _, ty, kt, ?_⟩
      refine ⟨_, h1, small_size (by simp; omega), Same.wr k1 hD, ?_⟩
      rw [upd_same, take_nth hq, List.map_append, List.map_append]
      rfl
    · rintro H' ⟨k1, h1⟩
      refine ⟨D, _, rfl, SqL.of h1, ?_⟩
      have e : (((ps.take ys.length).map FP.isMark).any id) = ps.any FP.isMark := by
        rw [hlen, List.take_length, List.any_map]
        rfl
      rw [e]
      exact k H' k1
end
end Ry
namespace Ry
open PySem PySem.Spec PyProof.Rows L2 He RyH RyT
open C8 (pss_cut tCut Cal Met Mak pe_c pe_mk pe_mt pe_mt0 pe_gc)
/-! ### a format's text -/
def styleOf (b : Bool) : Str := if b then "{" else "$"
def partText (b : Bool) : FP → Str
  | .mark x => if b then ("{" : Str) ++ x ++ "}" else ("${" : Str) ++ x ++ "}"
  | .txt x => if b then Txt.replace (Txt.replace x "{" "{{") "}" "}}" else Txt.replace x "$" "$$"
def fmtText (b : Bool) (ps : List FP) : Str := ps.foldl (fun acc p => acc ++ partText b p) ""
theorem fmtText_take {b : Bool} {ps : List FP} {i : Nat} {p : FP} (h : ps[i]? = some p) : fmtText b (ps.take (i + 1)) = fmtText b (ps.take i) ++ partText b p := by
  unfold fmtText
  rw [take_nth h, List.foldl_append]
  rfl
theorem len_app (x y : Str) : (x ++ y).length = x.length + y.length := by
  show (x.cps ++ y.cps).size = _
  rw [Array.size_append]
  rfl
theorem txt_len : ∀ x ∈ txtMenu, x.length ≤ 10 := by decide +kernel
theorem txt_lenB : ∀ x ∈ txtMenu, (Txt.replace x "{" "{{").length ≤ 20 ∧ (Txt.replace (Txt.replace x "{" "{{") "}" "}}").length ≤ 20 ∧ (Txt.replace x "$" "$$").length ≤ 20 := by decide +kernel
theorem mark_len : ∀ x ∈ markMenu, x.length ≤ 10 := by decide +kernel
theorem part_len {b : Bool} {p : FP} (h : p.ok) : (partText b p).length ≤ 20 := by
  cases p with
  | txt x =>
    have z := txt_lenB x h
    cases b
    · exact z.2.2
    · exact z.2.1
  | mark x =>
    have z := mark_len x h
    have z1 : ("{" : Str).length = 1 := rfl
    have z2 : ("}" : Str).length = 1 := rfl
    have z3 : ("${" : Str).length = 2 := rfl
    cases b
    · show (("${" : Str) ++ x ++ "}").length ≤ 20
      rw [len_app, len_app]
      omega
    · show (("{" : Str) ++ x ++ "}").length ≤ 20
      rw [len_app, len_app]
      omega
theorem fmt_len {b : Bool} : ∀ {ps : List FP} {acc : Str} {n : Nat}, (∀ p ∈ ps, p.ok) → acc.length ≤ n → (ps.foldl (fun acc p => acc ++ partText b p) acc).length ≤ n + 20 * ps.length
  | [], acc, n, _, h => by simpa using h
  | p :: ps, acc, n, ho, h => by
    rw [List.foldl_cons]
    have h1 := part_len (b := b) (ho p (List.mem_cons_self ..))
    have h2 := fmt_len (b := b) (ps := ps) (acc := acc ++ partText b p) (n := n + 20) (fun q hq => ho q (List.mem_cons_of_mem _ hq)) (by rw [len_app]; omega)
    rw [List.length_cons]
    omega
theorem fmt_len' {b : Bool} {ps : List FP} (ho : ∀ p ∈ ps, p.ok) : (fmtText b ps).length ≤ 20 * ps.length := by
  have z := fmt_len (b := b) (acc := "") (n := 0) ho (Nat.le_refl _)
  unfold fmtText
  omega
def spFormatText : Sp := fun vs H Q _ => ∃ (p : Addr) (N : Addr → Prop) (ys : List V) (ps : List FP) (b : Bool), vs = [.ref p, .str (styleOf b)] ∧ H p = some (.lst ys) ∧ FmtAt N H ys ps ∧ (∀ q ∈ ps, q.ok) ∧ ps.length ≤ 100 ∧ Q (.str (fmtText b ps)) H
theorem style_eq (b : Bool) : decide (V.str (styleOf b) = V.str "{") = b := by cases b <;> decide
section
variable {P : Program} {w : World} {K : PySem.W.Frag} {mg : Str → Option Value} {base : Heap}
theorem sc_law_format_text : FnScope ["_law_parts", "_law_style", "_law_found", "_law_part"] ["_law_parts", "_law_style"] (defScope s_law_format_text) := ⟨rfl, rfl, rfl, by decide +kernel, rfl, by decide +kernel, by decide +kernel⟩
theorem cal_law_format_text (T : Txt w K mg) : Cal P w K mg base 1 "_law_format_text" (spFormatText) [] := by
  obtain ⟨fd, F⟩ := T.df_law_format_text
  refine ⟨_, fd, ["_law_parts", "_law_style"], [], F.ok sc_law_format_text (fun vs H Q E h => ?_) (fun cdv A outer s H vs Q E hr h => ?_), T.m_law_format_text, F.kp, F.bindsN (fun _ _ _ _ _ _ us hl => match us, hl with | [_, _], _ => rfl), .nil⟩
  · obtain ⟨_, _, _, _, _, rfl, _⟩ := h
    rfl
  · obtain ⟨p, N, ys, ps, b, rfl, hp, hf, ho, hl, k⟩ := h
    -- 0 _law_parts, 1 _law_style, 2 _law_found, 3 _law_part
    refine ⟨_, PSs.nox (pss_str (i := 2) sc_law_format_text.nd rfl (Or.inl rfl)
      (psst_cons (pst_forT PassesOwn.never rfl (pi_list (pv 0)) (pg_name (i := 3) sc_law_format_text.nd rfl (Or.inl rfl))
        (psst_one (pst_if (pt_val (pe_callB (id := "isinstance") call_isi (by rfl) T.f_isinstance (by decide +kernel) (pa_cons (pv 3) (pa_cons (pe_bltn (v := .ty "tuple") (by rfl) T.f_tuple (by decide +kernel) rfl) pa_nil))))
          (PSsT.of (pss_one (ps_set (i := 2) sc_law_format_text.nd rfl (Or.inl rfl) (pe_op op_add_str (pv 2) (pe_ifExp (pt_cmpR op_eq (pv 1) pe_str (nomark _)) (pe_op op_add_str (pe_op op_add_str pe_str (pe_ix ix_tup (pv 3) pe_int (fun _ _ => rfl))) pe_str) (pe_op op_add_str (pe_op op_add_str pe_str (pe_ix ix_tup (pv 3) pe_int (fun _ _ => rfl))) pe_str))))))
          (psst_one (pst_if (pt_cmpR op_eq (pv 1) pe_str (nomark _))
            (psst_one (pst_set (i := 2) sc_law_format_text.nd rfl (Or.inl rfl) (pet_op op_add_str (pv 2) (pet_repl (by decide) (pet_repl (by decide) (pet_of (pv 3)))))))
            (psst_one (pst_set (i := 2) sc_law_format_text.nd rfl (Or.inl rfl) (pet_op op_add_str (pv 2) (pet_repl (by decide) (pet_of (pv 3)))))))))))
      (PSsT.of (pss_one (ps_ret (pv 2)))))), ?_⟩
    refine ⟨_, rfl, p, rfl, ⟨ys, SqL.of hp⟩, ?_⟩
    have hlen : ys.length = ps.length := Paired.length hf
    refine for_list (xs := ys) (fun i σ' H' => H' = H ∧ ∃ o, σ' = [some (.ref p), some (.str (styleOf b)), some (.str (fmtText b (ps.take i))), o]) ⟨rfl, _, rfl⟩ (fun i σ' H' _ h => by rw [h.1]; exact SqL.of hp) ?_ ?_
    · rintro i x σ' H' hx ⟨rfl, o, rfl⟩
      obtain ⟨q, hq, fq⟩ := Paired.nth hf hx
      have hok : q.ok := ho q (List.mem_of_getElem? hq)
      have hi : i < ps.length := by
        rcases Nat.lt_or_ge i ps.length with z | z
        · exact z
        · rw [List.getElem?_eq_none z] at hq
          cases hq
      have hacc : (fmtText b (ps.take i)).length ≤ 2000 := by
        have z := fmt_len' (b := b) (ps := ps.take i) fun r hr => ho r (List.mem_of_mem_take hr)
        rw [List.length_take] at z
        omega
      obtain ⟨t, ty, kt⟩ := FpAt.isTup (K := K) fq
      refine ⟨_, rfl, ?_⟩
      refine ⟨_, _, t, _, _, rfl, .ty _, ty, kt, ?_⟩
      refine ⟨_, rfl, ?_⟩
      have fin : ∀ z : Str, z = partText b q → (fmtText b (ps.take i)).length + z.length ≤ sizeLine ∧ fmtText b (ps.take i) ++ z = fmtText b (ps.take (i + 1)) := fun z e => by
        rw [e, fmtText_take hq]
        have := part_len (b := b) hok
        exact ⟨by rw [sizeLine_eq]; omega, rfl⟩
      cases q with
      | mark z =>
        obtain ⟨a, rfl, _, ea⟩ := fq
        have hz := mark_len z hok
        have z1 : ("{" : Str).length = 1 := rfl
        have z2 : ("}" : Str).length = 1 := rfl
        have z3 : ("${" : Str).length = 2 := rfl
        refine iteT ?_
        refine ⟨_, rfl, ?_⟩
        refine ⟨_, rfl, ?_⟩
        refine ⟨rfl, _, rfl, ?_⟩
        rw [style_eq]
        cases b with
        | true =>
          refine iteT ?_
          refine ⟨_, rfl, ?_⟩
          refine ⟨_, _, _, _, rfl, rfl, SqT.of ea, rfl, ?_⟩
          refine ⟨_, _, rfl, rfl, by rw [sizeLine_eq]; omega, ?_⟩
          refine ⟨_, _, rfl, rfl, by rw [len_app, sizeLine_eq]; omega, ?_⟩
          obtain ⟨l1, l2⟩ := fin _ rfl
          refine ⟨_, _, rfl, rfl, l1, ?_⟩
          exact ⟨rfl, _, by rw [← l2]; rfl⟩
        | false =>
          refine iteF ?_
          refine ⟨_, rfl, ?_⟩
          refine ⟨_, _, _, _, rfl, rfl, SqT.of ea, rfl, ?_⟩
          refine ⟨_, _, rfl, rfl, by rw [sizeLine_eq]; omega, ?_⟩
          refine ⟨_, _, rfl, rfl, by rw [len_app, sizeLine_eq]; omega, ?_⟩
          obtain ⟨l1, l2⟩ := fin _ rfl
          refine ⟨_, _, rfl, rfl, l1, ?_⟩
          exact ⟨rfl, _, by rw [← l2]; rfl⟩
      | txt z =>
        cases fq
        have hz := txt_len z hok
        have hB := txt_lenB z hok
        refine iteF ?_
        refine ⟨_, rfl, ?_⟩
        refine ⟨rfl, _, rfl, ?_⟩
        rw [style_eq]
        have y1 : ("{{" : Str).length = 2 := rfl
        have y2 : ("}}" : Str).length = 2 := rfl
        have y3 : ("$$" : Str).length = 2 := rfl
        cases b with
        | true =>
          refine iteT ?_
          refine ⟨_, rfl, ?_⟩
          refine ⟨_, rfl, ?_⟩
          refine ⟨_, rfl, by rw [y1]; omega, ?_⟩
          refine ⟨_, rfl, by rw [y2]; omega, ?_⟩
          obtain ⟨l1, l2⟩ := fin _ rfl
          refine ⟨_, _, rfl, rfl, l1, ?_⟩
          exact ⟨rfl, _, by rw [← l2]; rfl⟩
        | false =>
          refine iteF ?_
          refine ⟨_, rfl, ?_⟩
          refine ⟨_, rfl, ?_⟩
          refine ⟨_, rfl, by rw [y3]; omega, ?_⟩
          obtain ⟨l1, l2⟩ := fin _ rfl
          refine ⟨_, _, rfl, rfl, l1, ?_⟩
          exact ⟨rfl, _, by rw [← l2]; rfl⟩
    · rintro σ' H' ⟨rfl, o, rfl⟩
      refine ⟨_, rfl, ?_⟩
      rw [hlen, List.take_length]
      exact k
end
end Ry
namespace Ry
open PySem PySem.Spec PyProof.Rows L2 He RyH
open C8 (pss_cut tCut Cal Met Mak pe_c pe_mk pe_mt pe_mt0 pe_gc)
theorem lsz {n : Nat} (h : Nat.ble (n + 1) 1000 = true) : n < sizeLine := by
  have := Nat.le_of_ble_eq_true h
  rw [sizeLine_eq]
  omega
theorem Fre.ne {H : Hp} {a b : Addr} {o : HO} (h : Fre H b) (e : H a = some o) : b ≠ a := fun z => by
  have h' : H b = none := h
  rw [z, e] at h'
  cases h'
/-! ### the plan of a handler -/
structure HP where
  stream : Str
  level : Int
  filters : List Str
  null : Bool
  fmt : Option (List FP)
  style : Bool
  term : Str
  called : Option Str
abbrev kS (x : Str) : Key := Sum.inr x
def calV : Option Str → V
  | none => .non
  | some x => .str x
def streamMenu : List Str := ["out", "out", "err", "stderr"]
def endMenu : List Str := ["", ";", "\n\n", "\n"]
structure HPok (h : HP) : Prop where
  stream : h.stream ∈ streamMenu
  level : h.level ∈ levelMenu
  filters : ∀ x ∈ h.filters, x ∈ nameMenu
  few : h.filters.length ≤ 2
  fmt : fmtOk h.fmt
  term : h.term ∈ endMenu
def hpK (h : HP) (fl : Addr) (fv : V) : List (Key × V) := [(kS "stream", .str h.stream), (kS "level", .int h.level), (kS "filters", .ref fl), (kS "null", .bl h.null), (kS "format", fv), (kS "style", .str (styleOf h.style)), (kS "end", .str h.term), (kS "called", calV h.called)]
def HPlanAt (N : Addr → Prop) (H : Hp) (p : Addr) (h : HP) : Prop := ∃ fl fv, N p ∧ H p = some (.dK (hpK h fl fv)) ∧ N fl ∧ H fl = some (.lst (h.filters.map V.str)) ∧ FmtV N H fv h.fmt
theorem HPlanAt.kp {N N' M : Addr → Prop} {H H' : Hp} {p : Addr} {h : HP} (x : HPlanAt N H p h) (k : Kp M H H') (hn : ∀ b, N b → N' b ∧ ¬ M b) : HPlanAt N' H' p h := by
  obtain ⟨fl, fv, n1, e1, n2, e2, f⟩ := x
  exact ⟨fl, fv, (hn p n1).1, k _ _ e1 (hn p n1).2, (hn fl n2).1, k _ _ e2 (hn fl n2).2, f.kp k hn⟩
def spHandlerPlan : Sp := fun vs H Q _ => ∃ (s l : Addr) (n : Nat), vs = [.ref s] ∧ StAt H s l n ∧ n + 60 < Bud ∧
  ∀ p h H', HPok h → h.called = none → HPlanAt (Fre H) H' p h → StAt H' s l (n + 60) → Kp (onSt s l) H H' → Q (.ref p) H'
theorem mg1 (a b : V) : mergeK [] [(kS "stream", a), (kS "level", b)] = [(kS "stream", a), (kS "level", b)] := by kernel_rfl
theorem mg2 (a b c d : V) : mergeK [(kS "stream", a), (kS "level", b)] (mergeK [] [(kS "filters", c), (kS "null", d)]) = [(kS "stream", a), (kS "level", b), (kS "filters", c), (kS "null", d)] := by kernel_rfl
theorem mg3 (a b c d e f g : V) : mergeK [(kS "stream", a), (kS "level", b), (kS "filters", c), (kS "null", d)] (mergeK [] [(kS "format", e), (kS "style", f), (kS "end", g)]) = [(kS "stream", a), (kS "level", b), (kS "filters", c), (kS "null", d), (kS "format", e), (kS "style", f), (kS "end", g)] := by kernel_rfl
theorem mg4 (a b c d e f g h : V) : putK [(kS "stream", a), (kS "level", b), (kS "filters", c), (kS "null", d), (kS "format", e), (kS "style", f), (kS "end", g)] (kS "called") h = [(kS "stream", a), (kS "level", b), (kS "filters", c), (kS "null", d), (kS "format", e), (kS "style", f), (kS "end", g), (kS "called", h)] := by kernel_rfl
theorem mg5 (a b c d e f g h z : V) : putK [(kS "stream", a), (kS "level", b), (kS "filters", c), (kS "null", d), (kS "format", e), (kS "style", f), (kS "end", g), (kS "called", h)] (kS "end") z = [(kS "stream", a), (kS "level", b), (kS "filters", c), (kS "null", d), (kS "format", e), (kS "style", f), (kS "end", z), (kS "called", h)] := by kernel_rfl
theorem mg6 (a b c d e f g h z : V) : putK [(kS "stream", a), (kS "level", b), (kS "filters", c), (kS "null", d), (kS "format", e), (kS "style", f), (kS "end", g), (kS "called", h)] (kS "null") z = [(kS "stream", a), (kS "level", b), (kS "filters", c), (kS "null", z), (kS "format", e), (kS "style", f), (kS "end", g), (kS "called", h)] := by kernel_rfl
section
variable {P : Program} {w : World} {K : PySem.W.Frag} {mg : Str → Option Value} {base : Heap}
theorem sc_law_handler_plan : FnScope ["_law_stream", "_law_found"] ["_law_stream"] (defScope s_law_handler_plan) := ⟨rfl, rfl, rfl, by decide +kernel, rfl, by decide +kernel, by decide +kernel⟩
theorem cal_law_handler_plan (T : Txt w K mg) : Cal P w K mg base 4 "_law_handler_plan" (spHandlerPlan) [] := by
  obtain ⟨fd, F⟩ := T.df_law_handler_plan
  have c_law_pick := cal_law_pick (P := P) (base := base) T
  have c_law_level := cal_law_level (P := P) (base := base) T
  have c_law_draw := cal_law_draw (P := P) (base := base) T
  have c_law_names := cal_law_names (P := P) (base := base) T
  have c_law_format := cal_law_format (P := P) (base := base) T
  refine ⟨_, fd, ["_law_stream"], [], F.ok sc_law_handler_plan (fun vs H Q E h => ?_) (fun cdv A outer s H vs Q E hr h => ?_), T.m_law_handler_plan, F.kp, F.bindsN (fun _ _ _ _ _ _ us hl => match us, hl with | [_], _ => rfl), .nil⟩
  · obtain ⟨_, _, _, rfl, _⟩ := h
    rfl
  · obtain ⟨s, l, n, rfl, hs, hn, k⟩ := h
    have hn' := bud hn
    -- 0 _law_stream, 1 _law_found
    refine ⟨_, PSs.nox (pss_cons (ps_set (i := 1) sc_law_handler_plan.nd rfl (Or.inl rfl) (pe_disp (pps_cons pe_str (pe_c c_law_pick hr (by decide) (by rfl) (pa_cons (pv 0) (pa_cons (pe_lst (pa_cons pe_str (pa_cons pe_str (pa_cons pe_str (pa_cons pe_str pa_nil))))) pa_nil))) (pps_cons pe_str (pe_c c_law_level hr (by decide) (by rfl) (pa_cons (pv 0) pa_nil)) pps_nil)) (by rfl) (by rfl) (fun z => by cases z) (by decide)))
      (pss_cut (ps_expr (RyR.pe_dupd (pv 1) (pe_disp (pps_cons pe_str (pe_ifExp (pt_cmpR op_eq (pe_c c_law_draw hr (by decide) (by rfl) (pa_cons (pv 0) (pa_cons pe_int pa_nil))) pe_int (nomark _)) (pe_c c_law_names hr (by decide) (by rfl) (pa_cons (pv 0) (pa_cons pe_int pa_nil))) (pe_lst pa_nil)) (pps_cons pe_str pe_bl pps_nil)) (by rfl) (by rfl) (fun z => by cases z) (by decide)) (by constructor <;> rfl)))
      (pss_cons (ps_expr (RyR.pe_dupd (pv 1) (pe_disp (pps_cons pe_str (pe_c c_law_format hr (by decide) (by rfl) (pa_cons (pv 0) pa_nil)) (pps_cons pe_str (pe_c c_law_pick hr (by decide) (by rfl) (pa_cons (pv 0) (pa_cons (pe_lst (pa_cons pe_str (pa_cons pe_str pa_nil))) pa_nil))) (pps_cons pe_str pe_str pps_nil))) (by rfl) (by rfl) (fun z => by cases z) (by decide)) (by constructor <;> rfl)))
      (pss_cons (ps_dput (hu_of hr) (pv 1) pe_str pe_non rfl)
      (pss_cut (ps_if (pt_cmpR op_eq (pe_c c_law_draw hr (by decide) (by rfl) (pa_cons (pv 0) (pa_cons pe_int pa_nil))) pe_int (nomark _))
        (pss_one (ps_dput (hu_of hr) (pv 1) pe_str (pe_c c_law_pick hr (by decide) (by rfl) (pa_cons (pv 0) (pa_cons (pe_lst (pa_cons pe_str (pa_cons pe_str (pa_cons pe_str pa_nil)))) pa_nil))) rfl))
        pss_nil)
      (pss_cons (ps_dput (hu_of hr) (pv 1) pe_str (pe_cmpR op_eq (pe_c c_law_draw hr (by decide) (by rfl) (pa_cons (pv 0) (pa_cons pe_int pa_nil))) pe_int (nomark _)) rfl)
      (pss_one (ps_ret (pv 1))))))))), ?_⟩
    refine fun p hp => ?_
    have op : ¬ onSt s l p := hs.off hp
    refine ⟨_, rfl, ssz rfl, fun q hq => ?_⟩
    refine ⟨s, q, l, n, streamMenu.map V.str, rfl, (hs.new hp).new hq, by simp only [Bud]; omega, (hs.new hp).off hq, upd_same, by decide, by decide, fun x H1 hx hs1 k1 => ?_⟩
    obtain ⟨st, hst, rfl⟩ := List.mem_map.mp hx
    refine ⟨_, rfl, ?_⟩
    refine ⟨s, l, _, rfl, hs1, by simp only [Bud]; omega, fun lv H2 hlv hs2 k2 => ?_⟩
    have e2 : H2 p = some (.dK []) := k2 _ _ (k1 _ _ (upd_at upd_same hq) op) op
    have K2 : Kp (onSt s l) H H2 := (((Kp.new hp).trans (Kp.new hq)).trans k1).trans k2
    refine ⟨e2, [(kS "stream", .str st), (kS "level", .int lv)], rfl, Nat.le_of_ble_eq_true rfl, ?_⟩
    rw [mg1]
    have hs3 := hs2.upd (o := .dK [(kS "stream", .str st), (kS "level", .int lv)]) op
    have K3 := K2.wr (o := .dK [(kS "stream", .str st), (kS "level", .int lv)]) hp
    have e3 := upd_same (H := H2) (a := p) (o := .dK [(kS "stream", .str st), (kS "level", .int lv)])
    generalize L2.upd H2 p (.dK [(kS "stream", .str st), (kS "level", .int lv)]) = H3 at *
    refine ⟨fun σ' H' => σ' = [some (.ref s), some (.ref p)] ∧ StAt H' s l (n + 6) ∧ Kp (onSt s l) H H' ∧ ∃ (fl : Addr) (fs : List Str), (∀ x ∈ fs, x ∈ nameMenu) ∧ fs.length ≤ 2 ∧ Fre H fl ∧ H' fl = some (.lst (fs.map V.str)) ∧
      H' p = some (.dK [(kS "stream", .str st), (kS "level", .int lv), (kS "filters", .ref fl), (kS "null", .bl false)]), ?_, ?_⟩
    · refine ⟨_, rfl, ?_⟩
      refine ⟨p, rfl, .inl ⟨_, .inl e3⟩, ?_⟩
      refine fun d hd => ?_
      have nd : Fre H d := K3.was hs3 hd
      have od : ¬ onSt s l d := hs.off nd
      have hpd : p ≠ d := ne_of_none e3 hd
      refine ⟨_, rfl, ?_⟩
      refine ⟨s, l, 2, _, rfl, hs3.new hd, by omega, by omega, by omega, fun b H4 _ _ hs4 k4 => ?_⟩
      refine ⟨rfl, _, rfl, ?_⟩
      have e4 : H4 p = some (.dK [(kS "stream", .str st), (kS "level", .int lv)]) := k4 _ _ (upd_at e3 hd) op
      have d4 : H4 d = some (.dK []) := k4 _ _ upd_same od
      have K4 : Kp (onSt s l) H H4 := (K3.trans (Kp.new hd)).trans k4
      refine ite2 (fun _ => ?_) (fun _ => ?_)
      · refine ⟨_, rfl, ?_⟩
        refine ⟨s, l, _, 2, rfl, hs4, by simp only [Bud]; omega, by decide, fun fl fs H5 nfl hfs lfs efl hs5 k5 => ?_⟩
        have nfl' : Fre H fl := K4.was hs4 nfl
        have hdf : fl ≠ d := fun z => by rw [z, d4] at nfl; cases nfl
        have hpf : fl ≠ p := fun z => by rw [z, e4] at nfl; cases nfl
        refine ⟨k5 _ _ d4 od, [(kS "filters", .ref fl), (kS "null", .bl false)], rfl, Nat.le_of_ble_eq_true rfl, ?_⟩
        refine ⟨d, _, _, rfl, hpd, by rw [upd_ne hpd]; exact k5 _ _ e4 op, upd_same, ssz rfl, ?_⟩
        rw [mg2]
        refine ⟨rfl, ((hs5.upd od).upd op).mono (by omega), ((K4.trans k5).wr nd).wr hp, fl, fs, hfs, lfs, nfl', ?_, upd_same⟩
        rw [upd_ne hpf, upd_ne hdf]
        exact efl
      · refine ⟨ssz rfl, fun fl nfl => ?_⟩
        have nfl' : Fre H fl := K4.was hs4 nfl
        have hdf : fl ≠ d := fun z => by rw [z, d4] at nfl; cases nfl
        have hpf : fl ≠ p := fun z => by rw [z, e4] at nfl; cases nfl
        refine ⟨upd_at d4 nfl, [(kS "filters", .ref fl), (kS "null", .bl false)], rfl, Nat.le_of_ble_eq_true rfl, ?_⟩
        refine ⟨d, _, _, rfl, hpd, by rw [upd_ne hpd]; exact upd_at e4 nfl, upd_same, ssz rfl, ?_⟩
        rw [mg2]
        refine ⟨rfl, (((hs4.new nfl).upd od).upd op).mono (by omega), ((K4.wr nfl').wr nd).wr hp, fl, [], (fun x h => nomatch h), Nat.zero_le _, nfl', ?_, upd_same⟩
        rw [upd_ne hpf, upd_ne hdf]
        exact upd_same
    · rintro σ' H4 ⟨rfl, hs4, K4, fl, fs, hfs, lfs, nfl, efl, e4⟩
      have ofl : ¬ onSt s l fl := hs.off nfl
      have hfp : fl ≠ p := ne_of efl e4 (fun z => nomatch z)
      refine ⟨_, rfl, ?_⟩
      refine ⟨p, rfl, .inl ⟨_, .inl e4⟩, ?_⟩
      refine fun d hd => ?_
      have nd : Fre H d := K4.was hs4 hd
      have od : ¬ onSt s l d := hs.off nd
      have hpd : p ≠ d := ne_of_none e4 hd
      have hfd : fl ≠ d := ne_of_none efl hd
      refine ⟨_, rfl, ?_⟩
      refine ⟨s, l, _, rfl, hs4.new hd, by simp only [Bud]; omega, fun fv o H5 ho hf hs5 k5 => ?_⟩
      have hf' : FmtV (fun b => Fre H b ∧ b ≠ p ∧ b ≠ d) H5 fv o := hf.kp (M := fun _ => False) (Kp.same Same.rfl') fun b hb => ⟨⟨K4.was hs4 (was_none hb), Fre.ne hb (upd_at e4 hd), Fre.ne hb upd_same⟩, fun z => z⟩
      refine ⟨_, rfl, ssz rfl, fun q hq => ?_⟩
      have K5 : Kp (onSt s l) (L2.upd H4 d (.dK [])) H5 := k5
      refine ⟨s, q, l, _, ([true, false].map styleOf).map V.str, rfl, hs5.new hq, by simp only [Bud]; omega, hs5.off hq, upd_same, by decide, by decide, fun x H6 hx hs6 k6 => ?_⟩
      obtain ⟨z, hz, rfl⟩ := List.mem_map.mp hx
      obtain ⟨sty, _, rfl⟩ := List.mem_map.mp hz
      have K6 : Kp (onSt s l) (L2.upd H4 d (.dK [])) H6 := (k5.trans (Kp.new hq)).trans k6
      have d6 : H6 d = some (.dK []) := K6 _ _ upd_same od
      have e6 : H6 p = some (.dK [(kS "stream", .str st), (kS "level", .int lv), (kS "filters", .ref fl), (kS "null", .bl false)]) := K6 _ _ (upd_at e4 hd) op
      have f6 : H6 fl = some (.lst (fs.map V.str)) := K6 _ _ (upd_at efl hd) ofl
      have hf6 : FmtV (fun b => Fre H b ∧ b ≠ p ∧ b ≠ d) H6 fv o := hf'.kp ((Kp.new hq).trans k6) fun b hb => ⟨hb, hs.off hb.1⟩
      -- d and p are not of the format
      refine ⟨d6, [(kS "format", fv), (kS "style", .str (styleOf sty)), (kS "end", .str "\n")], rfl, Nat.le_of_ble_eq_true rfl, ?_⟩
      refine ⟨d, _, _, rfl, hpd, by rw [upd_ne hpd]; exact e6, upd_same, ssz rfl, ?_⟩
      rw [mg3]
      have hf8 : FmtV (fun b => Fre H b ∧ b ≠ p ∧ b ≠ d) (L2.upd (L2.upd H6 d (.dK (mergeK [] [(kS "format", fv), (kS "style", .str (styleOf sty)), (kS "end", .str "\n")]))) p
          (.dK [(kS "stream", .str st), (kS "level", .int lv), (kS "filters", .ref fl), (kS "null", .bl false), (kS "format", fv), (kS "style", .str (styleOf sty)), (kS "end", .str "\n")])) fv o :=
        (hf6.kp (M := fun b => b = d) (Kp.at rfl) fun b hb => ⟨hb, hb.2.2⟩).kp (M := fun b => b = p) (Kp.at rfl) fun b hb => ⟨hb, hb.2.1⟩
      have hs8 := (hs6.upd (o := .dK (mergeK [] [(kS "format", fv), (kS "style", .str (styleOf sty)), (kS "end", .str "\n")])) od).upd (o := .dK [(kS "stream", .str st), (kS "level", .int lv), (kS "filters", .ref fl), (kS "null", .bl false), (kS "format", fv), (kS "style", .str (styleOf sty)), (kS "end", .str "\n")]) op
      have K8 := ((K4.trans ((Kp.new hd).trans K6)).wr (o := .dK (mergeK [] [(kS "format", fv), (kS "style", .str (styleOf sty)), (kS "end", .str "\n")])) nd).wr (o := .dK [(kS "stream", .str st), (kS "level", .int lv), (kS "filters", .ref fl), (kS "null", .bl false), (kS "format", fv), (kS "style", .str (styleOf sty)), (kS "end", .str "\n")]) hp
      have e8 := upd_same (H := L2.upd H6 d (.dK (mergeK [] [(kS "format", fv), (kS "style", .str (styleOf sty)), (kS "end", .str "\n")]))) (a := p) (o := .dK [(kS "stream", .str st), (kS "level", .int lv), (kS "filters", .ref fl), (kS "null", .bl false), (kS "format", fv), (kS "style", .str (styleOf sty)), (kS "end", .str "\n")])
      have f8 : L2.upd (L2.upd H6 d (.dK (mergeK [] [(kS "format", fv), (kS "style", .str (styleOf sty)), (kS "end", .str "\n")]))) p
          (.dK [(kS "stream", .str st), (kS "level", .int lv), (kS "filters", .ref fl), (kS "null", .bl false), (kS "format", fv), (kS "style", .str (styleOf sty)), (kS "end", .str "\n")]) fl = some (.lst (fs.map V.str)) := by
        rw [upd_ne hfp, upd_ne hfd]
        exact f6
      generalize L2.upd (L2.upd H6 d (.dK (mergeK [] [(kS "format", fv), (kS "style", .str (styleOf sty)), (kS "end", .str "\n")]))) p
          (.dK [(kS "stream", .str st), (kS "level", .int lv), (kS "filters", .ref fl), (kS "null", .bl false), (kS "format", fv), (kS "style", .str (styleOf sty)), (kS "end", .str "\n")]) = H8 at *
      refine ⟨_, rfl, ?_⟩
      refine ⟨p, _, rfl, DPut.k (k := kS "called") e8 (lsz rfl), ?_⟩
      rw [mg4]
      refine ⟨fun σ' H' => σ' = [some (.ref s), some (.ref p)] ∧ StAt H' s l (n + 50) ∧ Kp (onSt s l) H H' ∧ FmtV (fun b => Fre H b ∧ b ≠ p ∧ b ≠ d) H' fv o ∧ H' fl = some (.lst (fs.map V.str)) ∧ ∃ tm, tm ∈ endMenu ∧
        H' p = some (.dK [(kS "stream", .str st), (kS "level", .int lv), (kS "filters", .ref fl), (kS "null", .bl false), (kS "format", fv), (kS "style", .str (styleOf sty)), (kS "end", .str tm), (kS "called", .non)]), ?_, ?_⟩
      · have hf9 := hf8.kp (H' := L2.upd H8 p (.dK [(kS "stream", .str st), (kS "level", .int lv), (kS "filters", .ref fl), (kS "null", .bl false), (kS "format", fv), (kS "style", .str (styleOf sty)), (kS "end", .str "\n"), (kS "called", .non)])) (N' := fun b => Fre H b ∧ b ≠ p ∧ b ≠ d) (M := fun b => b = p) (Kp.at rfl) fun b hb => ⟨hb, hb.2.1⟩
        refine ⟨_, rfl, ?_⟩
        refine ⟨s, l, 3, _, rfl, hs8.upd op, by omega, by omega, by omega, fun b H9 _ _ hs9 k9 => ?_⟩
        refine ⟨rfl, _, rfl, ?_⟩
        have e9 := k9 _ _ upd_same op
        have f9 := k9 _ _ (by rw [upd_ne hfp]; exact f8) ofl
        have hf10 := hf9.kp k9 (N' := fun b => Fre H b ∧ b ≠ p ∧ b ≠ d) fun b hb => ⟨hb, hs.off hb.1⟩
        have K9 := (K8.wr hp).trans k9
        refine ite2 (fun _ => ?_) (fun _ => ?_)
        · refine ⟨_, rfl, ssz rfl, fun q hq => ?_⟩
          refine ⟨s, q, l, _, (["", ";", "\n\n"] : List Str).map V.str, rfl, hs9.new hq, by simp only [Bud]; omega, hs9.off hq, upd_same, by decide, by decide, fun x Ha hx ha ka => ?_⟩
          obtain ⟨tm, htm, rfl⟩ := List.mem_map.mp hx
          have kqa := (Kp.new (M := onSt s l) (o := .lst ((["", ";", "\n\n"] : List Str).map V.str)) hq).trans ka
          refine ⟨_, rfl, ?_⟩
          refine ⟨p, _, rfl, DPut.k (k := kS "end") (kqa _ _ e9 op) (lsz rfl), ?_⟩
          rw [mg5]
          refine ⟨rfl, (ha.upd op).mono (by omega), ((K9.trans kqa).wr hp), (hf10.kp kqa (N' := fun b => Fre H b ∧ b ≠ p ∧ b ≠ d) fun b hb => ⟨hb, hs.off hb.1⟩).kp (M := fun b => b = p) (Kp.at rfl) fun b hb => ⟨hb, hb.2.1⟩, by rw [upd_ne hfp]; exact kqa _ _ f9 ofl, tm, ?_, upd_same⟩
          exact List.mem_append_left (["\n"] : List Str) htm
        · exact ⟨rfl, hs9.mono (by omega), K9, hf10, f9, "\n", by decide, e9⟩
      · rintro σ' H9 ⟨rfl, hs9, K9, hf9, f9, tm, htm, e9⟩
        refine ⟨_, rfl, ?_⟩
        refine ⟨s, l, 9, _, rfl, hs9, by omega, by omega, by omega, fun b Ha _ _ ha ka => ?_⟩
        refine ⟨rfl, ?_⟩
        refine ⟨_, rfl, ?_⟩
        refine ⟨p, _, rfl, DPut.k (k := kS "null") (ka _ _ e9 op) (lsz rfl), ?_⟩
        rw [mg6]
        refine ⟨_, rfl, ?_⟩
        have hfa := (hf9.kp ka (N' := fun b => Fre H b ∧ b ≠ p ∧ b ≠ d) fun b hb => ⟨hb, hs.off hb.1⟩)
        refine k p ⟨st, lv, fs, decide (V.int b = V.int 0), o, sty, tm, none⟩ _ ⟨hst, hlv, hfs, lfs, ho, htm⟩ rfl ⟨fl, fv, hp, upd_same, nfl, by rw [upd_ne hfp]; exact ka _ _ f9 ofl, hfa.kp (M := fun b => b = p) (Kp.at rfl) fun b hb => ⟨hb.1, hb.2.1⟩⟩ ((ha.upd op).mono (by omega)) ((K9.trans ka).wr hp)
end
end Ry
namespace Ry
open PySem PySem.Spec PyProof.Rows L2 He RyH
open C8 (pss_cut tCut Cal Met Mak pe_c pe_mk pe_mt pe_mt0 pe_gc)
/-! ### the plan of a logger -/
structure RP where
  level : Int
  prop : Bool
  handlers : List Nat
  filters : List Str
  disabled : Bool
structure RPok (many : Nat) (r : RP) : Prop where
  level : r.level ∈ levelMenu
  filters : ∀ x ∈ r.filters, x ∈ nameMenu
  fewF : r.filters.length ≤ 2
  handlers : ∀ i ∈ r.handlers, i < many
  nd : r.handlers.Nodup
  fewH : r.handlers.length ≤ 2
abbrev natV (k : Nat) : V := .int (k : Nat)
def rpK (r : RP) (hl fl : Addr) : List (Key × V) := [(kS "level", .int r.level), (kS "propagate", .bl r.prop), (kS "handlers", .ref hl), (kS "filters", .ref fl), (kS "disabled", .bl r.disabled)]
def RowAt (N : Addr → Prop) (H : Hp) (p : Addr) (r : RP) : Prop := ∃ hl fl, N p ∧ H p = some (.dK (rpK r hl fl)) ∧ N hl ∧ H hl = some (.lst (r.handlers.map natV)) ∧ N fl ∧ H fl = some (.lst (r.filters.map V.str))
theorem RowAt.kp {N N' M : Addr → Prop} {H H' : Hp} {p : Addr} {r : RP} (x : RowAt N H p r) (k : Kp M H H') (hn : ∀ b, N b → N' b ∧ ¬ M b) : RowAt N' H' p r := by
  obtain ⟨hl, fl, n1, e1, n2, e2, n3, e3⟩ := x
  exact ⟨hl, fl, (hn p n1).1, k _ _ e1 (hn p n1).2, (hn hl n2).1, k _ _ e2 (hn hl n2).2, (hn fl n3).1, k _ _ e3 (hn fl n3).2⟩
def spLoggerPlan : Sp := fun vs H Q _ => ∃ (s l : Addr) (n many : Nat), vs = [.ref s, natV many] ∧ StAt H s l n ∧ n + 20 < Bud ∧ many < 100 ∧
  ∀ p r H', RPok many r → RowAt (Fre H) H' p r → StAt H' s l (n + 20) → Kp (onSt s l) H H' → Q (.ref p) H'
theorem mr1 (a b c d : V) : mergeK [] [(kS "level", a), (kS "propagate", b), (kS "handlers", c), (kS "filters", d)] = [(kS "level", a), (kS "propagate", b), (kS "handlers", c), (kS "filters", d)] := by kernel_rfl
theorem mr2 (a b c d e : V) : putK [(kS "level", a), (kS "propagate", b), (kS "handlers", c), (kS "filters", d)] (kS "disabled") e = [(kS "level", a), (kS "propagate", b), (kS "handlers", c), (kS "filters", d), (kS "disabled", e)] := by kernel_rfl
theorem mr3 (a b c d e f : V) : putK [(kS "level", a), (kS "propagate", b), (kS "handlers", c), (kS "filters", d), (kS "disabled", e)] (kS "filters") f = [(kS "level", a), (kS "propagate", b), (kS "handlers", c), (kS "filters", f), (kS "disabled", e)] := by kernel_rfl
theorem mr4 (a b c d e : V) : valV [(kS "level", a), (kS "propagate", b), (kS "handlers", c), (kS "filters", d), (kS "disabled", e)] (kS "handlers") = some c := by kernel_rfl
theorem inV_nat (x : Nat) : ∀ hs : List Nat, inV (natV x) (hs.map natV) = decide (x ∈ hs)
  | [] => rfl
  | y :: hs => by
    have ih := inV_nat x hs
    unfold inV at ih ⊢
    rw [List.map_cons, List.any_cons, ih]
    by_cases e : x = y
    · subst e
      simp [eqV]
    · have e1 : ¬ y = x := fun z => e z.symm
      have e2 : ¬ ((y : Int) = (x : Int)) := fun z => e1 (by omega)
      simp [eqV, e, e2]
theorem flat_nat : ∀ hs : List Nat, (hs.map natV).all flatV = true
  | [] => rfl
  | y :: hs => by
    rw [List.map_cons, List.all_cons, flat_nat hs]
    rfl
section
variable {P : Program} {w : World} {K : PySem.W.Frag} {mg : Str → Option Value} {base : Heap}
theorem sc_law_logger_plan : FnScope ["_law_stream", "_law_many", "_law_found", "_law_k", "_law_at"] ["_law_stream", "_law_many"] (defScope s_law_logger_plan) := ⟨rfl, rfl, rfl, by decide +kernel, rfl, by decide +kernel, by decide +kernel⟩
theorem cal_law_logger_plan (T : Txt w K mg) : Cal P w K mg base 4 "_law_logger_plan" (spLoggerPlan) [] := by
  obtain ⟨fd, F⟩ := T.df_law_logger_plan
  have c_law_level := cal_law_level (P := P) (base := base) T
  have c_law_draw := cal_law_draw (P := P) (base := base) T
  have c_law_names := cal_law_names (P := P) (base := base) T
  refine ⟨_, fd, ["_law_stream", "_law_many"], [], F.ok sc_law_logger_plan (fun vs H Q E h => ?_) (fun cdv A outer s H vs Q E hr h => ?_), T.m_law_logger_plan, F.kp, F.bindsN (fun _ _ _ _ _ _ us hl => match us, hl with | [_, _], _ => rfl), .nil⟩
  · obtain ⟨_, _, _, _, rfl, _⟩ := h
    rfl
  · obtain ⟨s, l, n, many, rfl, hs, hn, hm, k⟩ := h
    have hn' := bud hn
    -- 0 _law_stream, 1 _law_many, 2 _law_found, 3 _law_k, 4 _law_at
    refine ⟨_, PSs.nox (pss_cons (ps_set (i := 2) sc_law_logger_plan.nd rfl (Or.inl rfl) (pe_disp (pps_cons pe_str (pe_c c_law_level hr (by decide) (by rfl) (pa_cons (pv 0) pa_nil)) (pps_cons pe_str (pe_cmpR op_gt (pe_c c_law_draw hr (by decide) (by rfl) (pa_cons (pv 0) (pa_cons pe_int pa_nil))) pe_int (nomark _)) (pps_cons pe_str (pe_lst pa_nil) (pps_cons pe_str (pe_lst pa_nil) pps_nil)))) (by rfl) (by rfl) (fun z => by cases z) (by decide)))
      (pss_cons (ps_dput (hu_of hr) (pv 2) pe_str (pe_cmpR op_eq (pe_c c_law_draw hr (by decide) (by rfl) (pa_cons (pv 0) (pa_cons pe_int pa_nil))) pe_int (nomark _)) rfl)
      (pss_cut (ps_if (pt_cmpR op_eq (pe_c c_law_draw hr (by decide) (by rfl) (pa_cons (pv 0) (pa_cons pe_int pa_nil))) pe_int (nomark _))
        (pss_one (ps_dput (hu_of hr) (pv 2) pe_str (pe_c c_law_names hr (by decide) (by rfl) (pa_cons (pv 0) (pa_cons pe_int pa_nil))) rfl))
        pss_nil)
      (pss_cons (ps_for PassesOwn.never rfl (pi_range1 (by rfl) T.f_range (pa_cons (RyT.pe_cutE (pe_ifExp (pt_cmpR op_gt (pv 1) pe_int (nomark _)) (pe_c c_law_draw hr (by decide) (by rfl) (pa_cons (pv 0) (pa_cons pe_int pa_nil))) pe_int)) pa_nil)) (pg_name (i := 3) sc_law_logger_plan.nd rfl (Or.inl rfl))
        (pss_cons (ps_set (i := 4) sc_law_logger_plan.nd rfl (Or.inl rfl) (pe_c c_law_draw hr (by decide) (by rfl) (pa_cons (pv 0) (pa_cons (pv 1) pa_nil))))
        (pss_one (ps_expr (pe_bm PySem.F.plainAttrs_list PySem.F.slot_list_extend PySem.F.type_list_extend mt_extend (pe_dget (hu_of hr) (pv 2) pe_str (fun _ _ => rfl)) (pa_cons (pe_op op_rep (pe_lst (pa_cons (pv 4) pa_nil)) (pe_callTy (T := "int") call_int1 (by rfl) T.f_int (by decide +kernel) (pa_cons (pe_cmpR op_notIn_seq (pv 4) (pe_dget (hu_of hr) (pv 2) pe_str (fun _ _ => rfl)) rfl) pa_nil))) pa_nil))))))
      (pss_one (ps_ret (pv 2))))))), ?_⟩
    refine fun p hp => ?_
    have op : ¬ onSt s l p := hs.off hp
    refine ⟨_, rfl, ?_⟩
    refine ⟨s, l, _, rfl, hs.new hp, by simp only [Bud]; omega, fun lv H1 hlv hs1 k1 => ?_⟩
    refine ⟨_, rfl, ?_⟩
    refine ⟨s, l, 5, _, rfl, hs1, by omega, by omega, by omega, fun b H2 _ _ hs2 k2 => ?_⟩
    refine ⟨_, _, rfl, rfl, ?_⟩
    refine ⟨ssz rfl, fun hl nhl => ?_⟩
    refine ⟨ssz rfl, fun fl nfl => ?_⟩
    have K2 : Kp (onSt s l) H H2 := ((Kp.new hp).trans k1).trans k2
    have e2 : H2 p = some (.dK []) := k2 _ _ (k1 _ _ upd_same op) op
    have nh : Fre H hl := K2.was hs2 nhl
    have nf : Fre H fl := K2.was hs2 (was_none nfl)
    have hph : hl ≠ p := fun z => by rw [z, e2] at nhl; cases nhl
    have hpf : fl ≠ p := fun z => by have q := was_none nfl; rw [z, e2] at q; cases q
    have hhf : hl ≠ fl := ne_of_none (upd_same (o := .lst [])) nfl
    refine ⟨upd_at (upd_at e2 nhl) nfl, [(kS "level", .int lv), (kS "propagate", _), (kS "handlers", .ref hl), (kS "filters", .ref fl)], rfl, Nat.le_of_ble_eq_true rfl, ?_⟩
    rw [mr1]
    have hs3 := ((hs2.new (o := .lst []) nhl).new (o := .lst []) nfl).upd (o := .dK [(kS "level", .int lv), (kS "propagate", .bl (decide (0 < b))), (kS "handlers", .ref hl), (kS "filters", .ref fl)]) op
    have K3 := ((K2.wr (o := .lst []) nh).wr (o := .lst []) nf).wr (o := .dK [(kS "level", .int lv), (kS "propagate", .bl (decide (0 < b))), (kS "handlers", .ref hl), (kS "filters", .ref fl)]) hp
    have e3 := upd_same (H := L2.upd (L2.upd H2 hl (.lst [])) fl (.lst [])) (a := p) (o := .dK [(kS "level", .int lv), (kS "propagate", .bl (decide (0 < b))), (kS "handlers", .ref hl), (kS "filters", .ref fl)])
    have h3 : L2.upd (L2.upd (L2.upd H2 hl (.lst [])) fl (.lst [])) p (.dK [(kS "level", .int lv), (kS "propagate", .bl (decide (0 < b))), (kS "handlers", .ref hl), (kS "filters", .ref fl)]) hl = some (.lst []) := by
      rw [upd_ne hph, upd_ne hhf, upd_same]
    have f3 : L2.upd (L2.upd (L2.upd H2 hl (.lst [])) fl (.lst [])) p (.dK [(kS "level", .int lv), (kS "propagate", .bl (decide (0 < b))), (kS "handlers", .ref hl), (kS "filters", .ref fl)]) fl = some (.lst []) := by
      rw [upd_ne hpf, upd_same]
    generalize decide (0 < b) = pr at *
    generalize L2.upd (L2.upd (L2.upd H2 hl (.lst [])) fl (.lst [])) p (.dK [(kS "level", .int lv), (kS "propagate", .bl pr), (kS "handlers", .ref hl), (kS "filters", .ref fl)]) = H3 at *
    -- disabled
    refine ⟨_, rfl, ?_⟩
    refine ⟨s, l, 8, _, rfl, hs3, by omega, by omega, by omega, fun b2 H4 _ _ hs4 k4 => ?_⟩
    refine ⟨rfl, ?_⟩
    refine ⟨_, rfl, ?_⟩
    refine ⟨p, _, rfl, DPut.k (k := kS "disabled") (k4 _ _ e3 op) (lsz rfl), ?_⟩
    rw [mr2]
    have oh : ¬ onSt s l hl := hs.off nh
    have of : ¬ onSt s l fl := hs.off nf
    have h4 := k4 _ _ h3 oh
    have f4 := k4 _ _ f3 of
    have K4 := K3.trans k4
    clear h3 f3 e3 hs3 K3 k4 K2 k1 k2 e2 hs1 hs2
    generalize decide (V.int b2 = V.int 0) = di at *
    refine ⟨fun σ' H' => σ' = [some (.ref s), some (natV many), some (.ref p), none, none] ∧ StAt H' s l (n + 10) ∧ Kp (onSt s l) H H' ∧ H' hl = some (.lst []) ∧ ∃ (f2 : Addr) (fs : List Str), (∀ x ∈ fs, x ∈ nameMenu) ∧ fs.length ≤ 2 ∧ Fre H f2 ∧ f2 ≠ hl ∧ f2 ≠ p ∧ H' f2 = some (.lst (fs.map V.str)) ∧
      H' p = some (.dK [(kS "level", .int lv), (kS "propagate", .bl pr), (kS "handlers", .ref hl), (kS "filters", .ref f2), (kS "disabled", .bl di)]), ?_, ?_⟩
    · refine ⟨_, rfl, ?_⟩
      refine ⟨s, l, 4, _, rfl, hs4.upd op, by omega, by omega, by omega, fun b3 H5 _ _ hs5 k5 => ?_⟩
      have K5 := (K4.wr (o := .dK [(kS "level", .int lv), (kS "propagate", .bl pr), (kS "handlers", .ref hl), (kS "filters", .ref fl), (kS "disabled", .bl di)]) hp).trans k5
      have e5 := k5 _ _ upd_same op
      have h5 := k5 _ _ (by rw [upd_ne hph]; exact h4) oh
      have f5 := k5 _ _ (by rw [upd_ne hpf]; exact f4) of
      refine ⟨rfl, _, rfl, ?_⟩
      refine ite2 (fun _ => ?_) (fun _ => ?_)
      · refine ⟨_, rfl, ?_⟩
        refine ⟨s, l, _, 2, rfl, hs5, by simp only [Bud]; omega, by decide, fun f2 fs H6 nf2 hfs lfs ef2 hs6 k6 => ?_⟩
        refine ⟨_, rfl, ?_⟩
        refine ⟨p, _, rfl, DPut.k (k := kS "filters") (k6 _ _ e5 op) (lsz rfl), ?_⟩
        rw [mr3]
        have n1 : f2 ≠ hl := Fre.ne nf2 h5
        have n2 : f2 ≠ p := Fre.ne nf2 e5
        exact ⟨rfl, (hs6.upd op).mono (by omega), (K5.trans k6).wr hp, by rw [upd_ne hph]; exact k6 _ _ h5 oh, f2, fs, hfs, lfs, K5.was hs5 nf2, n1, n2, by rw [upd_ne n2]; exact ef2, upd_same⟩
      · exact ⟨rfl, hs5.mono (by omega), K5, h5, fl, [], (fun x h => nomatch h), Nat.zero_le _, nf, Ne.symm hhf, hpf, f5, e5⟩
    · rintro σ' H5 ⟨rfl, hs5, K5, h5, f2, fs, hfs, lfs, nf2, n1, n2, ef2, e5⟩
      have of2 : ¬ onSt s l f2 := hs.off nf2
      refine ⟨fun v H' => ∃ c : Nat, v = natV c ∧ c ≤ 2 ∧ (0 < c → 0 < many) ∧ StAt H' s l (n + 11) ∧ Kp (onSt s l) H5 H', ?_, ?_⟩
      · refine ⟨_, rfl, ?_⟩
        refine ⟨_, _, rfl, rfl, _, rfl, ?_⟩
        refine ite2 (fun e => ?_) (fun _ => ?_)
        · have hm0 : 0 < many := by simpa using e
          refine ⟨_, rfl, ?_⟩
          refine ⟨s, l, 3, _, rfl, hs5, by omega, by omega, by omega, fun c H6 c0 c1 hs6 k6 => ?_⟩
          obtain ⟨c, rfl⟩ := Int.eq_ofNat_of_zero_le c0
          exact ⟨c, rfl, by omega, fun _ => hm0, hs6.mono (by omega), k6⟩
        · exact ⟨0, rfl, by omega, fun z => absurd z (by omega), hs5.mono (by omega), Kp.refl⟩
      · rintro v H6 ⟨c, rfl, c2, cm, hs6, k6⟩
        refine ⟨c, rfl, by omega, by omega, ?_⟩
        refine for_range (n := c) (fun i σ' H' => i ≤ c ∧ ∃ (o1 o2 : Option V) (hs' : List Nat), σ' = [some (.ref s), some (natV many), some (.ref p), o1, o2] ∧ StAt H' s l (n + 11 + i) ∧ Kp (onSt s l) H H' ∧ H' hl = some (.lst (hs'.map natV)) ∧ H' f2 = some (.lst (fs.map V.str)) ∧
          H' p = some (.dK [(kS "level", .int lv), (kS "propagate", .bl pr), (kS "handlers", .ref hl), (kS "filters", .ref f2), (kS "disabled", .bl di)]) ∧ hs'.length ≤ i ∧ hs'.Nodup ∧ ∀ x ∈ hs', x < many) ?_ ?_ ?_
        · exact ⟨Nat.zero_le _, _, _, [], rfl, hs6, K5.trans k6, k6 _ _ h5 oh, k6 _ _ ef2 of2, k6 _ _ e5 op, Nat.le_refl _, List.nodup_nil, fun x h => nomatch h⟩
        · rintro i σ' H7 hi ⟨_, o1, o2, hs', rfl, hs7, K7, h7, f7, e7, len7, nd7, lt7⟩
          have hm0 := cm (by omega)
          refine ⟨_, rfl, _, rfl, ?_⟩
          refine ⟨s, l, _, _, rfl, hs7, by omega, by omega, by omega, fun a H8 a0 a1 hs8 k8 => ?_⟩
          obtain ⟨a, rfl⟩ := Int.eq_ofNat_of_zero_le a0
          have e8 := k8 _ _ e7 op
          have h8 := k8 _ _ h7 oh
          have f8 := k8 _ _ f7 of2
          refine ⟨_, rfl, ?_⟩
          refine ⟨p, _, rfl, (by rw [← mr4 (.int lv) (.bl pr) (.ref hl) (.ref f2) (.bl di)]; exact DGet.k (k := kS "handlers") e8), ?_⟩
          refine ⟨.inl ⟨rfl, _, SqL.of h8⟩, ?_⟩
          refine ⟨_, rfl, ssz rfl, fun q hq => ?_⟩
          have hq8 : hl ≠ q := ne_of_none h8 hq
          refine ⟨_, rfl, ?_⟩
          refine ⟨_, rfl, ?_⟩
          refine ⟨p, _, rfl, (by rw [← mr4 (.int lv) (.bl pr) (.ref hl) (.ref f2) (.bl di)]; exact DGet.k (k := kS "handlers") (upd_at e8 hq)), ?_⟩
          refine ⟨hl, _, rfl, .inl (SqL.of (upd_at h8 hq)), rfl, flat_nat _, ?_⟩
          refine .inr ⟨_, rfl, ?_⟩
          have ev : (if true = true then !inV (natV a) (hs'.map natV) else inV (natV a) (hs'.map natV)) = !decide (a ∈ hs') := by rw [if_pos rfl, inV_nat]
          rw [ev]
          have nq : Fre H q := (K7.trans k8).was hs8 hq
          by_cases ha : a ∈ hs'
          · have e : (!decide (a ∈ hs')) = false := by simp [ha]
            rw [e]
            refine ⟨q, _, _, rfl, rfl, upd_same, by decide, by decide, ssz rfl, fun r hr7 => ?_⟩
            have nr : Fre H r := (K7.trans k8).was hs8 (was_none hr7)
            refine ⟨hl, r, hs'.map natV, [], rfl, rfl, upd_at (upd_at h8 hq) hr7, upd_same, small_size (by simp; omega), ?_⟩
            have x1 : f2 ≠ q := ne_of_none f8 hq
            have x2 : f2 ≠ r := ne_of_none (upd_at f8 hq) hr7
            have y1 : p ≠ q := ne_of_none e8 hq
            have y2 : p ≠ r := ne_of_none (upd_at e8 hq) hr7
            refine ⟨hi, _, _, hs', rfl, (((hs8.new hq).new hr7).upd oh).mono (by omega), (((K7.trans k8).wr nq).wr nr).wr nh, by rw [upd_same, List.append_nil], ?_, ?_, by omega, nd7, lt7⟩
            · rw [upd_ne n1, upd_ne x2, upd_ne x1]
              exact f8
            · rw [upd_ne (Ne.symm hph), upd_ne y2, upd_ne y1]
              exact e8
          · have e : (!decide (a ∈ hs')) = true := by simp [ha]
            rw [e]
            refine ⟨q, _, _, rfl, rfl, upd_same, by decide, by decide, ssz rfl, fun r hr7 => ?_⟩
            have nr : Fre H r := (K7.trans k8).was hs8 (was_none hr7)
            refine ⟨hl, r, hs'.map natV, [natV a], rfl, rfl, upd_at (upd_at h8 hq) hr7, upd_same, small_size (by simp; omega), ?_⟩
            have x1 : f2 ≠ q := ne_of_none f8 hq
            have x2 : f2 ≠ r := ne_of_none (upd_at f8 hq) hr7
            have y1 : p ≠ q := ne_of_none e8 hq
            have y2 : p ≠ r := ne_of_none (upd_at e8 hq) hr7
            refine ⟨hi, _, _, hs' ++ [a], rfl, (((hs8.new hq).new hr7).upd oh).mono (by omega), (((K7.trans k8).wr nq).wr nr).wr nh, by rw [upd_same, List.map_append]; rfl, ?_, ?_, by rw [List.length_append, List.length_singleton]; omega, ?_, ?_⟩
            · rw [upd_ne n1, upd_ne x2, upd_ne x1]
              exact f8
            · rw [upd_ne (Ne.symm hph), upd_ne y2, upd_ne y1]
              exact e8
            · exact List.nodup_append.mpr ⟨nd7, by simp, fun x hx y hy => by rw [List.mem_singleton.mp hy]; intro z; rw [z] at hx; exact ha hx⟩
            · intro x hx
              rcases List.mem_append.mp hx with z | z
              · exact lt7 x z
              · rw [List.mem_singleton.mp z]
                omega
        · rintro σ' H7 ⟨_, o1, o2, hs', rfl, hs7, K7, h7, f7, e7, len7, nd7, lt7⟩
          refine ⟨_, rfl, ?_⟩
          exact k p ⟨lv, pr, hs', fs, di⟩ H7 ⟨by assumption, hfs, lfs, lt7, nd7, Nat.le_trans len7 c2⟩ ⟨hl, f2, hp, e7, nh, h7, nf2, f7⟩ (hs7.mono (by omega)) K7
end
end Ry
namespace Ry
open PySem PySem.Spec PyProof.Rows L2 He RyH
open C8 (pss_cut tCut Cal Met Mak pe_c pe_mk pe_mt pe_mt0 pe_gc)
/-! ### a plan -/
structure Pl where
  handlers : List HP
  words : List (Int × Str)
  bar : Int
  loggers : List (Str × RP)
def barMenu : List Int := [0, 0, 0, 0, 4, 10, 19, 30]
def plMenu : List Str := ["a", "b", "a.b", "a.b.c", "b.c", "c", "a.d", "ab", "A", "a.b.c.d", "abcd", "q", "a.q", "rooted"]
/-- .. and those that laws add-/
def logMenu : List Str := ["a", "b", "a.b", "a.b.c", "b.c", "c", "a.d", "ab", "A", "a.b.c.d", "abcd", "q", "a.q", "rooted", "root.a", "b1.c", "a.B", "_", "x.y.z"]
theorem plMenu_log : ∀ x ∈ plMenu, x ∈ logMenu := by decide +kernel
def wlMenu : List Int := [7, 17, 20, 25, 31, 0]
def wxMenu : List Str := ["x", "INFO", "NOTE", ""]
/-- what is put under a text: in its place, or at the end -/
def putA {α : Type} (xs : List (Str × α)) (k : Str) (v : α) : List (Str × α) := if (xs.any fun kv => decide (kv.1 = k)) = true then xs.map (fun kv => if kv.1 = k then (kv.1, v) else kv) else xs ++ [(k, v)]
def rowE (x : Str × Addr) : Key × V := (kS x.1, .ref x.2)
theorem any_rowE (k : Str) : ∀ rows : List (Str × Addr), ((rows.map rowE).any fun kv => decide (kv.1 = kS k)) = rows.any fun kv => decide (kv.1 = k)
  | [] => rfl
  | r :: rows => by
    rw [List.map_cons, List.any_cons, List.any_cons, any_rowE k rows]
    have e : decide ((rowE r).1 = kS k) = decide (r.1 = k) := key_rr r.1 k
    rw [e]
theorem map_rowE (k : Str) (a : Addr) : ∀ rows : List (Str × Addr), ((rows.map rowE).map fun kv => if kv.1 = kS k then (kv.1, V.ref a) else kv) = (rows.map fun kv => if kv.1 = k then (kv.1, a) else kv).map rowE
  | [] => rfl
  | r :: rows => by
    rw [List.map_cons, List.map_cons, List.map_cons, List.map_cons, map_rowE k a rows]
    by_cases e : r.1 = k
    · have e2 : (rowE r).1 = kS k := by show Sum.inr r.1 = Sum.inr k; rw [e]
      rw [if_pos e, if_pos e2]
      rfl
    · have e2 : ¬ (rowE r).1 = kS k := fun z => e (Sum.inr.inj z)
      rw [if_neg e, if_neg e2]
theorem putK_row (rows : List (Str × Addr)) (k : Str) (a : Addr) : putK (rows.map rowE) (kS k) (.ref a) = (putA rows k a).map rowE := by
  unfold putK putA
  rw [any_rowE]
  split
  · exact map_rowE k a rows
  · rw [List.map_append]
    rfl
theorem putA_paired {α β : Type} {R : Str × α → Str × β → Prop} (hk : ∀ x y, R x y → x.1 = y.1) {k : Str} {a : α} {b : β} (hab : R (k, a) (k, b)) : ∀ {xs : List (Str × α)} {ys : List (Str × β)}, Paired R xs ys → Paired R (putA xs k a) (putA ys k b) := by
  intro xs ys h
  have ea : (xs.any fun kv => decide (kv.1 = k)) = ys.any fun kv => decide (kv.1 = k) := by
    induction h with
    | nil => rfl
    | cons r t ih => rw [List.any_cons, List.any_cons, ih, hk _ _ r]
  unfold putA
  rw [ea]
  split
  · rename_i z
    clear ea z
    induction h with
    | nil => exact .nil
    | @cons x y xs ys r t ih =>
      rw [List.map_cons, List.map_cons]
      refine .cons ?_ ih
      rw [hk _ _ r]
      by_cases e : y.1 = k
      · rw [if_pos e, if_pos e, e]
        exact hab
      · rw [if_neg e, if_neg e]
        exact r
  · rename_i z
    clear ea z
    induction h with
    | nil => exact .cons hab .nil
    | cons r t ih => exact .cons r ih
theorem putA_len {α : Type} (xs : List (Str × α)) (k : Str) (v : α) : (putA xs k v).length ≤ xs.length + 1 := by
  unfold putA
  split
  · rw [List.length_map]
    omega
  · rw [List.length_append, List.length_singleton]
    omega
theorem putA_mem {α : Type} {xs : List (Str × α)} {k : Str} {v : α} {x : Str × α} (h : x ∈ putA xs k v) : x ∈ xs ∨ x = (k, v) := by
  unfold putA at h
  split at h
  · obtain ⟨y, hy, e⟩ := List.mem_map.mp h
    by_cases z : y.1 = k
    · rw [if_pos z] at e
      rw [← e, z]
      exact .inr rfl
    · rw [if_neg z] at e
      rw [← e]
      exact .inl hy
  · rcases List.mem_append.mp h with z | z
    · exact .inl z
    · exact .inr (List.mem_singleton.mp z)
theorem putA_keys {α : Type} (xs : List (Str × α)) (k : Str) (v : α) : (putA xs k v).map (·.1) = if k ∈ xs.map (·.1) then xs.map (·.1) else xs.map (·.1) ++ [k] := by
  unfold putA
  have e : ((xs.any fun kv => decide (kv.1 = k)) = true) ↔ k ∈ xs.map (·.1) := by
    rw [List.any_eq_true, List.mem_map]
    constructor
    · rintro ⟨x, hx, z⟩
      exact ⟨x, hx, of_decide_eq_true z⟩
    · rintro ⟨x, hx, z⟩
      exact ⟨x, hx, decide_eq_true z⟩
  by_cases z : (xs.any fun kv => decide (kv.1 = k)) = true
  · rw [if_pos z, if_pos (e.mp z), List.map_map]
    refine List.map_congr_left fun x hx => ?_
    show (if x.1 = k then (x.1, v) else x).1 = x.1
    split <;> rfl
  · rw [if_neg z, if_neg (fun q => z (e.mpr q)), List.map_append]
    rfl
theorem putA_nodup {α : Type} {xs : List (Str × α)} {k : Str} {v : α} (h : (xs.map (·.1)).Nodup) : ((putA xs k v).map (·.1)).Nodup := by
  rw [putA_keys]
  split
  · exact h
  · rename_i z
    exact List.nodup_append.mpr ⟨h, by simp, fun x hx y hy => by rw [List.mem_singleton.mp hy]; intro q; rw [q] at hx; exact z hx⟩
def planK (hs ws lg : Addr) (bar : Int) : List (Key × V) := [(kS "handlers", .ref hs), (kS "words", .ref ws), (kS "bar", .int bar), (kS "loggers", .ref lg)]
def WordAt (N : Addr → Prop) (H : Hp) (v : V) (x : Int × Str) : Prop := ∃ t, v = .ref t ∧ N t ∧ H t = some (.tup [.int x.1, .str x.2])
def RowP (N : Addr → Prop) (H : Hp) (x : Str × Addr) (y : Str × RP) : Prop := x.1 = y.1 ∧ RowAt N H x.2 y.2
/-- the addresses of a plan's parts -/
def Inn (N : Addr → Prop) (p hs ws lg : Addr) : Addr → Prop := fun b => N b ∧ b ≠ p ∧ b ≠ hs ∧ b ≠ ws ∧ b ≠ lg
structure PlanW (N : Addr → Prop) (H : Hp) (p hs ws lg : Addr) (hps : List Addr) (wvs : List V) (rows : List (Str × Addr)) (pl : Pl) : Prop where
  np : N p
  nh : N hs
  nw : N ws
  nl : N lg
  d1 : p ≠ hs
  d2 : p ≠ ws
  d3 : p ≠ lg
  d4 : hs ≠ ws
  d5 : hs ≠ lg
  d6 : ws ≠ lg
  at_ : H p = some (.dK (planK hs ws lg pl.bar))
  hsE : H hs = some (.lst (hps.map V.ref))
  hsP : Paired (HPlanAt (Inn N p hs ws lg) H) hps pl.handlers
  wsE : H ws = some (.lst wvs)
  wsP : Paired (WordAt (Inn N p hs ws lg) H) wvs pl.words
  lgE : H lg = some (.dK (rows.map rowE))
  lgP : Paired (RowP (Inn N p hs ws lg) H) rows pl.loggers
def PlanAt (N : Addr → Prop) (H : Hp) (p : Addr) (pl : Pl) : Prop := ∃ hs ws lg hps wvs rows, PlanW N H p hs ws lg hps wvs rows pl
theorem WordAt.kp {N N' M : Addr → Prop} {H H' : Hp} {v : V} {x : Int × Str} (h : WordAt N H v x) (k : Kp M H H') (hn : ∀ b, N b → N' b ∧ ¬ M b) : WordAt N' H' v x := by
  obtain ⟨t, e, n, q⟩ := h
  exact ⟨t, e, (hn t n).1, k _ _ q (hn t n).2⟩
theorem RowP.kp {N N' M : Addr → Prop} {H H' : Hp} {x : Str × Addr} {y : Str × RP} (h : RowP N H x y) (k : Kp M H H') (hn : ∀ b, N b → N' b ∧ ¬ M b) : RowP N' H' x y := ⟨h.1, h.2.kp k hn⟩
theorem PlanW.kp {N N' M : Addr → Prop} {H H' : Hp} {p hs ws lg : Addr} {hps : List Addr} {wvs : List V} {rows : List (Str × Addr)} {pl : Pl} (x : PlanW N H p hs ws lg hps wvs rows pl) (k : Kp M H H') (hn : ∀ b, N b → N' b ∧ ¬ M b) : PlanW N' H' p hs ws lg hps wvs rows pl where
  np := (hn _ x.np).1
  nh := (hn _ x.nh).1
  nw := (hn _ x.nw).1
  nl := (hn _ x.nl).1
  d1 := x.d1
  d2 := x.d2
  d3 := x.d3
  d4 := x.d4
  d5 := x.d5
  d6 := x.d6
  at_ := k _ _ x.at_ (hn _ x.np).2
  hsE := k _ _ x.hsE (hn _ x.nh).2
  hsP := Paired.impl x.hsP fun _ _ z => z.kp k fun b hb => ⟨⟨(hn b hb.1).1, hb.2⟩, (hn b hb.1).2⟩
  wsE := k _ _ x.wsE (hn _ x.nw).2
  wsP := Paired.impl x.wsP fun _ _ z => z.kp k fun b hb => ⟨⟨(hn b hb.1).1, hb.2⟩, (hn b hb.1).2⟩
  lgE := k _ _ x.lgE (hn _ x.nl).2
  lgP := Paired.impl x.lgP fun _ _ z => z.kp k fun b hb => ⟨⟨(hn b hb.1).1, hb.2⟩, (hn b hb.1).2⟩
theorem PlanAt.kp {N N' M : Addr → Prop} {H H' : Hp} {p : Addr} {pl : Pl} (x : PlanAt N H p pl) (k : Kp M H H') (hn : ∀ b, N b → N' b ∧ ¬ M b) : PlanAt N' H' p pl := by
  obtain ⟨hs, ws, lg, hps, wvs, rows, x⟩ := x
  exact ⟨hs, ws, lg, hps, wvs, rows, x.kp k hn⟩
/-- a logger's plan is put under a name -/
theorem PlanW.row {N : Addr → Prop} {H : Hp} {p hs ws lg : Addr} {hps : List Addr} {wvs : List V} {rows : List (Str × Addr)} {pl : Pl} (x : PlanW N H p hs ws lg hps wvs rows pl) {k : Str} {a : Addr} {r : RP} (hr : RowAt (Inn N p hs ws lg) H a r) :
    PlanW N (upd H lg (.dK ((putA rows k a).map rowE))) p hs ws lg hps wvs (putA rows k a) { pl with loggers := putA pl.loggers k r } := by
  have kp : Kp (fun b => b = lg) H (upd H lg (.dK ((putA rows k a).map rowE))) := Kp.at rfl
  have hn : ∀ b, Inn N p hs ws lg b → Inn N p hs ws lg b ∧ ¬ b = lg := fun b hb => ⟨hb, hb.2.2.2.2⟩
  exact ⟨x.np, x.nh, x.nw, x.nl, x.d1, x.d2, x.d3, x.d4, x.d5, x.d6, kp _ _ x.at_ x.d3, kp _ _ x.hsE x.d5, Paired.impl x.hsP fun _ _ z => z.kp kp hn, kp _ _ x.wsE x.d6, Paired.impl x.wsP fun _ _ z => z.kp kp hn, upd_same,
    putA_paired (fun _ _ z => z.1) ⟨rfl, hr.kp kp hn⟩ (Paired.impl x.lgP fun _ _ z => z.kp kp hn)⟩
theorem Paired.snoc {α β : Type} {F : α → β → Prop} {x : α} {y : β} (h : F x y) : ∀ {xs : List α} {ys : List β}, Paired F xs ys → Paired F (xs ++ [x]) (ys ++ [y])
  | _, _, .nil => .cons h .nil
  | _, _, .cons r t => .cons r (Paired.snoc h t)
/-- a word is added -/
theorem PlanW.word {N : Addr → Prop} {H : Hp} {p hs ws lg : Addr} {hps : List Addr} {wvs : List V} {rows : List (Str × Addr)} {pl : Pl} (x : PlanW N H p hs ws lg hps wvs rows pl) {v : V} {y : Int × Str} (hr : WordAt (Inn N p hs ws lg) H v y) :
    PlanW N (upd H ws (.lst (wvs ++ [v]))) p hs ws lg hps (wvs ++ [v]) rows { pl with words := pl.words ++ [y] } := by
  have kp : Kp (fun b => b = ws) H (upd H ws (.lst (wvs ++ [v]))) := Kp.at rfl
  have hn : ∀ b, Inn N p hs ws lg b → Inn N p hs ws lg b ∧ ¬ b = ws := fun b hb => ⟨hb, hb.2.2.2.1⟩
  exact ⟨x.np, x.nh, x.nw, x.nl, x.d1, x.d2, x.d3, x.d4, x.d5, x.d6, kp _ _ x.at_ x.d2, kp _ _ x.hsE x.d4, Paired.impl x.hsP fun _ _ z => z.kp kp hn, upd_same, Paired.snoc (hr.kp kp hn) (Paired.impl x.wsP fun _ _ z => z.kp kp hn), kp _ _ x.lgE (Ne.symm x.d6),
    Paired.impl x.lgP fun _ _ z => z.kp kp hn⟩
structure PlOk (lo ha : Nat) (pl : Pl) : Prop where
  handlers : ∀ h ∈ pl.handlers, HPok h ∧ h.called = none
  fewH : pl.handlers.length ≤ ha
  bar : pl.bar ∈ barMenu
  words : ∀ x ∈ pl.words, x.1 ∈ wlMenu ∧ x.2 ∈ wxMenu
  fewW : pl.words.length ≤ 2
  loggers : ∀ x ∈ pl.loggers, x.1 ∈ ("" : Str) :: logMenu ∧ RPok pl.handlers.length x.2
  nd : (pl.loggers.map (·.1)).Nodup
  root : ("" : Str) ∈ pl.loggers.map (·.1)
  fewL : pl.loggers.length ≤ lo + 1
/-- all its parts stand in the heap -/
theorem FpAt.live {N : Addr → Prop} {H : Hp} {v : V} {p : FP} (h : FpAt N H v p) : FpAt (fun b => N b ∧ H b ≠ none) H v p := by
  cases p with
  | txt x => exact h
  | mark x =>
    obtain ⟨t, e, n, q⟩ := h
    exact ⟨t, e, ⟨n, by rw [q]; simp⟩, q⟩
theorem FmtV.live {N : Addr → Prop} {H : Hp} {v : V} {o : Option (List FP)} (h : FmtV N H v o) : FmtV (fun b => N b ∧ H b ≠ none) H v o := by
  cases o with
  | none => exact h
  | some ps =>
    obtain ⟨a, ys, e, n, q, f⟩ := h
    exact ⟨a, ys, e, ⟨n, by rw [q]; simp⟩, q, Paired.impl f fun _ _ z => z.live⟩
theorem HPlanAt.live {N : Addr → Prop} {H : Hp} {p : Addr} {h : HP} (x : HPlanAt N H p h) : HPlanAt (fun b => N b ∧ H b ≠ none) H p h := by
  obtain ⟨fl, fv, n1, e1, n2, e2, f⟩ := x
  exact ⟨fl, fv, ⟨n1, by rw [e1]; simp⟩, e1, ⟨n2, by rw [e2]; simp⟩, e2, f.live⟩
theorem RowAt.live {N : Addr → Prop} {H : Hp} {p : Addr} {r : RP} (x : RowAt N H p r) : RowAt (fun b => N b ∧ H b ≠ none) H p r := by
  obtain ⟨hl, fl, n1, e1, n2, e2, n3, e3⟩ := x
  exact ⟨hl, fl, ⟨n1, by rw [e1]; simp⟩, e1, ⟨n2, by rw [e2]; simp⟩, e2, ⟨n3, by rw [e3]; simp⟩, e3⟩
theorem HPlanAt.to {N N' : Addr → Prop} {H : Hp} {p : Addr} {h : HP} (x : HPlanAt N H p h) (hn : ∀ b, N b → H b ≠ none → N' b) : HPlanAt N' H p h := x.live.kp (M := fun _ => False) (Kp.same Same.rfl') fun b hb => ⟨hn b hb.1 hb.2, fun z => z⟩
theorem RowAt.to {N N' : Addr → Prop} {H : Hp} {p : Addr} {h : RP} (x : RowAt N H p h) (hn : ∀ b, N b → H b ≠ none → N' b) : RowAt N' H p h := x.live.kp (M := fun _ => False) (Kp.same Same.rfl') fun b hb => ⟨hn b hb.1 hb.2, fun z => z⟩
theorem live_ne {H : Hp} {a b : Addr} (h : H b ≠ none) (e : H a = none) : b ≠ a := fun z => h (by rw [z]; exact e)
theorem PlOk.row {lo ha : Nat} {pl : Pl} (h : PlOk lo ha pl) {k : Str} {r : RP} (hk : k ∈ logMenu) (hr : RPok pl.handlers.length r) : PlOk (lo + 1) ha { pl with loggers := putA pl.loggers k r } :=
  ⟨h.handlers, h.fewH, h.bar, h.words, h.fewW, fun x hx => by
    rcases putA_mem hx with z | z
    · exact h.loggers x z
    · rw [z]
      exact ⟨List.mem_cons_of_mem _ hk, hr⟩, putA_nodup h.nd, by
    rw [putA_keys]
    split
    · exact h.root
    · exact List.mem_append_left _ h.root, Nat.le_trans (putA_len _ _ _) (Nat.succ_le_succ h.fewL)⟩
theorem PlOk.lo {lo lo' ha : Nat} {pl : Pl} (h : PlOk lo ha pl) (k : lo ≤ lo') : PlOk lo' ha pl := ⟨h.handlers, h.fewH, h.bar, h.words, h.fewW, h.loggers, h.nd, h.root, Nat.le_trans h.fewL (Nat.succ_le_succ k)⟩
def spPlan : Sp := fun vs H Q _ => ∃ (s l : Addr) (n lo ha : Nat), vs = [.ref s, natV lo, natV ha] ∧ StAt H s l n ∧ n + 3000 < Bud ∧ lo ≤ 20 ∧ ha ≤ 20 ∧
  ∀ p pl H', PlOk lo ha pl → PlanAt (Fre H) H' p pl → StAt H' s l (n + 3000) → Kp (onSt s l) H H' → Q (.ref p) H'
theorem mp1 (a b : V) : mergeK [] [(kS "handlers", a), (kS "words", b)] = [(kS "handlers", a), (kS "words", b)] := by kernel_rfl
theorem mp2 (a b c : V) : putK [(kS "handlers", a), (kS "words", b)] (kS "bar") c = [(kS "handlers", a), (kS "words", b), (kS "bar", c)] := by kernel_rfl
theorem mp3 (a b c d : V) : putK [(kS "handlers", a), (kS "words", b), (kS "bar", c)] (kS "loggers") d = [(kS "handlers", a), (kS "words", b), (kS "bar", c), (kS "loggers", d)] := by kernel_rfl
theorem mp4 (a : V) : mergeK [] [(kS "", a)] = [(kS "", a)] := by kernel_rfl
theorem vp1 (a b : V) : valV [(kS "handlers", a), (kS "words", b)] (kS "handlers") = some a := by kernel_rfl
theorem vp2 (a b c d : V) : valV [(kS "handlers", a), (kS "words", b), (kS "bar", c), (kS "loggers", d)] (kS "loggers") = some d := by kernel_rfl
theorem vp3 (a b c d : V) : valV [(kS "handlers", a), (kS "words", b), (kS "bar", c), (kS "loggers", d)] (kS "words") = some b := by kernel_rfl
section
variable {P : Program} {w : World} {K : PySem.W.Frag} {mg : Str → Option Value} {base : Heap}
theorem sc_law_plan : FnScope ["_law_stream", "_law_loggers", "_law_handlers", "_law_plan_here", "_law_many", "_law_k", "_law_names_here", "_law_name", "_law_level_here"] ["_law_stream", "_law_loggers", "_law_handlers"] (defScope s_law_plan) := ⟨rfl, rfl, rfl, by decide +kernel, rfl, by decide +kernel, by decide +kernel⟩
theorem cal_law_plan (T : Txt w K mg) : Cal P w K mg base 5 "_law_plan" (spPlan) [] := by
  obtain ⟨fd, F⟩ := T.df_law_plan
  have c_law_draw := cal_law_draw (P := P) (base := base) T
  have c_law_handler_plan := cal_law_handler_plan (P := P) (base := base) T
  have c_law_pick := cal_law_pick (P := P) (base := base) T
  have c_law_logger_plan := cal_law_logger_plan (P := P) (base := base) T
  refine ⟨_, fd, ["_law_stream", "_law_loggers", "_law_handlers"], [], F.ok sc_law_plan (fun vs H Q E h => ?_) (fun cdv A outer s H vs Q E hr h => ?_), T.m_law_plan, F.kp, F.bindsN (fun _ _ _ _ _ _ us hl => match us, hl with | [_, _, _], _ => rfl), .nil⟩
  · obtain ⟨_, _, _, _, _, rfl, _⟩ := h
    rfl
  · obtain ⟨s, l, n, lo, ha, rfl, hs, hn, hlo, hha, k⟩ := h
    have hn' := bud hn
    -- 0 _law_stream, 1 _law_loggers, 2 _law_handlers, 3 _law_plan_here, 4 _law_many, 5 _law_k, 6 _law_names_here, 7 _law_name, 8 _law_level_here
    refine ⟨_, PSs.nox (pss_cons (ps_set (i := 3) sc_law_plan.nd rfl (Or.inl rfl) (pe_disp (pps_cons pe_str (pe_lc (own := [("_law_k", 5)]) rfl sc_law_plan.nd (pi_range1 (by rfl) T.f_range (pa_cons (pe_c c_law_draw hr (by decide) (by rfl) (pa_cons (pv 0) (pa_cons (pe_op op_add (pv 2) pe_int) pa_nil))) pa_nil)) (blkOk_by (N := ["_law_stream", "_law_loggers", "_law_handlers", "_law_plan_here", "_law_many", "_law_k", "_law_names_here", "_law_name", "_law_level_here"]) (sc := defScope s_law_plan) (own := [("_law_k", 5)]) (by decide +kernel)) (fun _ _ _ _ _ => pg_name (i := 5) sc_law_plan.nd rfl (Or.inl rfl)) (fun _ _ _ _ _ => pts_nil) (fun _ _ _ _ _ => (pe_c c_law_handler_plan hr (by decide) (by rfl) (pa_cons (pv 0) pa_nil)))) (pps_cons pe_str (pe_lst pa_nil) pps_nil)) (by rfl) (by rfl) (fun z => by cases z) (by decide)))
      (pss_cons (ps_set (i := 4) sc_law_plan.nd rfl (Or.inl rfl) (pe_callB (id := "len") call_len_seq (by rfl) T.f_len PySem.boot_len (pa_cons (pe_dget (hu_of hr) (pv 3) pe_str (fun _ _ => rfl)) pa_nil)))
      (pss_cons (ps_dput (hu_of hr) (pv 3) pe_str (pe_c c_law_pick hr (by decide) (by rfl) (pa_cons (pv 0) (pa_cons (pe_lst (pa_cons pe_int (pa_cons pe_int (pa_cons pe_int (pa_cons pe_int (pa_cons pe_int (pa_cons pe_int (pa_cons pe_int (pa_cons pe_int pa_nil))))))))) pa_nil))) rfl)
      (pss_cons (ps_dput (hu_of hr) (pv 3) pe_str (pe_disp (pps_cons pe_str (pe_c c_law_logger_plan hr (by decide) (by rfl) (pa_cons (pv 0) (pa_cons (pv 4) pa_nil))) pps_nil) (by rfl) (by rfl) (fun z => by cases z) (by decide)) rfl)
      (pss_cons (ps_for PassesOwn.never rfl (pi_range1 (by rfl) T.f_range (pa_cons (pe_c c_law_draw hr (by decide) (by rfl) (pa_cons (pv 0) (pa_cons (pe_op op_add (pv 1) pe_int) pa_nil))) pa_nil)) (pg_name (i := 5) sc_law_plan.nd rfl (Or.inl rfl))
        (pss_cons (ps_set (i := 6) sc_law_plan.nd rfl (Or.inl rfl) (pe_lst (pa_cons pe_str (pa_cons pe_str (pa_cons pe_str (pa_cons pe_str (pa_cons pe_str (pa_cons pe_str (pa_cons pe_str (pa_cons pe_str (pa_cons pe_str (pa_cons pe_str (pa_cons pe_str (pa_cons pe_str (pa_cons pe_str (pa_cons pe_str pa_nil))))))))))))))))
        (pss_cons (ps_set (i := 7) sc_law_plan.nd rfl (Or.inl rfl) (pe_c c_law_pick hr (by decide) (by rfl) (pa_cons (pv 0) (pa_cons (pv 6) pa_nil))))
        (pss_one (ps_dput (hu_of hr) (pe_dget (hu_of hr) (pv 3) pe_str (fun _ _ => rfl)) (pv 7) (pe_c c_law_logger_plan hr (by decide) (by rfl) (pa_cons (pv 0) (pa_cons (pv 4) pa_nil))) rfl)))))
      (pss_cons (ps_for PassesOwn.never rfl (pi_range1 (by rfl) T.f_range (pa_cons (pe_c c_law_draw hr (by decide) (by rfl) (pa_cons (pv 0) (pa_cons pe_int pa_nil))) pa_nil)) (pg_name (i := 5) sc_law_plan.nd rfl (Or.inl rfl))
        (pss_cons (ps_set (i := 8) sc_law_plan.nd rfl (Or.inl rfl) (pe_c c_law_pick hr (by decide) (by rfl) (pa_cons (pv 0) (pa_cons (pe_lst (pa_cons pe_int (pa_cons pe_int (pa_cons pe_int (pa_cons pe_int (pa_cons pe_int (pa_cons pe_int pa_nil))))))) pa_nil))))
        (pss_one (ps_expr (pe_bm PySem.F.plainAttrs_list PySem.F.slot_list_append PySem.F.type_list_append mt_append (pe_dget (hu_of hr) (pv 3) pe_str (fun _ _ => rfl)) (pa_cons (pe_tup (pa_cons (pv 8) (pa_cons (pe_c c_law_pick hr (by decide) (by rfl) (pa_cons (pv 0) (pa_cons (pe_lst (pa_cons pe_str (pa_cons pe_str (pa_cons pe_str (pa_cons pe_str pa_nil))))) pa_nil))) pa_nil))) pa_nil))))))
      (pss_one (ps_ret (pv 3))))))))), ?_⟩
    refine fun p hp => ?_
    have op : ¬ onSt s l p := hs.off hp
    -- handlers
    refine ⟨_, rfl, _, rfl, ?_⟩
    refine ⟨_, _, rfl, rfl, ?_⟩
    refine ⟨s, l, _, n, rfl, hs.new hp, by omega, by omega, by omega, fun d H1 h0 h1 hs1 k1 => ?_⟩
    obtain ⟨m, rfl⟩ := Int.eq_ofNat_of_zero_le h0
    have hm : m < ha + 1 := by omega
    refine ⟨m, rfl, by omega, by omega, ?_⟩
    intro D hD
    have e1 : H1 p = some (.dK []) := k1 _ _ upd_same op
    have K1 : Kp (onSt s l) H H1 := (Kp.new hp).trans k1
    have nD : Fre H D := K1.was hs1 hD
    have oD : ¬ onSt s l D := hs.off nD
    have hpD : p ≠ D := ne_of_none e1 hD
    refine lc_draws (b := 60) (fun H' y => ∃ q h, y = .ref q ∧ HPok h ∧ h.called = none ∧ HPlanAt (fun b => Fre H b ∧ b ≠ p ∧ b ≠ D) H' q h) hD hs1 (by omega) ?_ ?_ (fun _ => rfl) ?_ ?_
    · rintro y Ha Hb _ kab ⟨q, h, e, z1, z2, z3⟩
      exact ⟨q, h, e, z1, z2, z3.kp kab fun b hb => ⟨hb, hs.off hb.1⟩⟩
    · rintro y Ha o ⟨q, h, e, z1, z2, z3⟩
      exact ⟨q, h, e, z1, z2, z3.kp (M := fun b => b = D) (Kp.at rfl) fun b hb => ⟨hb, hb.2.2⟩⟩
    · rintro j Ha Qa hj ha' ka ⟨oo, eo⟩ kk
      refine ⟨_, rfl, ?_⟩
      refine ⟨s, l, _, rfl, ha', by simp only [Bud]; omega, fun q h Hb hok hcl hat hb kb => ?_⟩
      refine kk _ Hb (hb.mono (by omega)) kb ⟨q, h, rfl, hok, hcl, hat.kp (M := fun _ => False) (Kp.same Same.rfl') fun b hb' => ⟨⟨(K1.trans ka).was ha' hb', Fre.ne hb' (ka _ _ e1 op), Fre.ne hb' eo⟩, fun z => z⟩⟩
    · intro H2 ys hys hl hf hs2 k2
      have e2 := k2 _ _ e1 op
      have K2 := K1.trans k2
      obtain ⟨hps, hds, rfl, hP, hOk, hLen⟩ : ∃ (hps : List Addr) (hds : List HP), ys = hps.map V.ref ∧ Paired (HPlanAt (fun b => Fre H b ∧ b ≠ p ∧ b ≠ D) H2) hps hds ∧ (∀ h ∈ hds, HPok h ∧ h.called = none) ∧ hds.length = ys.length := by
        clear hys hl
        induction ys with
        | nil => exact ⟨[], [], rfl, .nil, (fun h z => nomatch z), rfl⟩
        | cons y ys ih =>
          obtain ⟨q, h, rfl, z1, z2, z3⟩ := hf y (List.mem_cons_self ..)
          obtain ⟨hps, hds, rfl, i2, i3, i4⟩ := ih fun z hz => hf z (List.mem_cons_of_mem _ hz)
          refine ⟨q :: hps, h :: hds, rfl, .cons z3 i2, fun g hg => ?_, by rw [List.length_cons, List.length_cons, i4]⟩
          rcases List.mem_cons.mp hg with z | z
          · rw [z]
            exact ⟨z1, z2⟩
          · exact i3 g z
      rw [hl] at hLen
      -- words
      refine ⟨ssz rfl, fun ws hws => ?_⟩
      have nW : Fre H ws := K2.was hs2 hws
      have hpW : p ≠ ws := ne_of_none e2 hws
      have hDW : D ≠ ws := ne_of_none hys hws
      refine ⟨upd_at e2 hws, [(kS "handlers", .ref D), (kS "words", .ref ws)], rfl, Nat.le_of_ble_eq_true rfl, ?_⟩
      rw [mp1]
      -- many
      refine ⟨_, rfl, ?_⟩
      refine ⟨p, _, rfl, (by rw [← vp1 (.ref D) (.ref ws)]; exact DGet.k (k := kS "handlers") upd_same), ?_⟩
      have hys3 : upd (upd H2 ws (.lst [])) p (.dK [(kS "handlers", .ref D), (kS "words", .ref ws)]) D = some (.lst (hps.map V.ref)) := by
        rw [upd_ne (Ne.symm hpD), upd_ne hDW]
        exact hys
      refine ⟨D, _, rfl, .inl (SqL.of hys3), ?_⟩
      rw [hl]
      -- bar
      have hs3 := (hs2.new (o := .lst []) hws).upd (o := .dK [(kS "handlers", .ref D), (kS "words", .ref ws)]) op
      have e3 := upd_same (H := upd H2 ws (.lst [])) (a := p) (o := .dK [(kS "handlers", .ref D), (kS "words", .ref ws)])
      have w3 : upd (upd H2 ws (.lst [])) p (.dK [(kS "handlers", .ref D), (kS "words", .ref ws)]) ws = some (.lst []) := by rw [upd_ne (Ne.symm hpW), upd_same]
      have K3 := (K2.trans (Kp.new (o := .lst []) hws)).wr (o := .dK [(kS "handlers", .ref D), (kS "words", .ref ws)]) hp
      have hP3 : Paired (HPlanAt (fun b => Fre H b ∧ b ≠ p ∧ b ≠ D ∧ b ≠ ws) (upd (upd H2 ws (.lst [])) p (.dK [(kS "handlers", .ref D), (kS "words", .ref ws)]))) hps hds := Paired.impl hP fun a h z =>
        ((z.to (N' := fun b => Fre H b ∧ b ≠ p ∧ b ≠ D ∧ b ≠ ws) fun b hb hb2 => ⟨hb.1, hb.2.1, hb.2.2, live_ne hb2 hws⟩).kp (M := fun b => b = ws) (Kp.at rfl) fun b hb => ⟨hb, hb.2.2.2⟩).kp (M := fun b => b = p) (Kp.at rfl) fun b hb => ⟨hb, hb.2.1⟩
      generalize upd (upd H2 ws (.lst [])) p (.dK [(kS "handlers", .ref D), (kS "words", .ref ws)]) = H3 at *
      have oW : ¬ onSt s l ws := hs.off nW
      have k3 : ∀ {H' : Hp}, Kp (onSt s l) H3 H' → Paired (HPlanAt (fun b => Fre H b ∧ b ≠ p ∧ b ≠ D ∧ b ≠ ws) H') hps hds := fun kk => Paired.impl hP3 fun a h z => z.kp kk fun b hb => ⟨hb, hs.off hb.1⟩
      refine ⟨_, rfl, ssz rfl, fun q hq => ?_⟩
      refine ⟨s, q, l, _, barMenu.map V.int, rfl, hs3.new hq, by simp only [Bud]; omega, hs3.off hq, upd_same, by decide, by decide, fun x H4 hx hs4 k4 => ?_⟩
      obtain ⟨bar, hbar, rfl⟩ := List.mem_map.mp hx
      have K34 := (Kp.new (M := onSt s l) (o := .lst (barMenu.map V.int)) hq).trans k4
      have e4 := K34 _ _ e3 op
      have w4 := K34 _ _ w3 oW
      have D4 := K34 _ _ hys3 oD
      have P4 := k3 K34
      refine ⟨_, rfl, ?_⟩
      refine ⟨p, _, rfl, DPut.k (k := kS "bar") e4 (lsz rfl), ?_⟩
      rw [mp2]
      -- loggers
      refine fun lg hlg => ?_
      have hlg4 : H4 lg = none := was_none hlg
      have nL : Fre H lg := (K3.trans K34).was hs4 hlg4
      have oL : ¬ onSt s l lg := hs.off nL
      have hpL : p ≠ lg := ne_of_none e4 hlg4
      have hWL : ws ≠ lg := ne_of_none w4 hlg4
      have hDL : D ≠ lg := ne_of_none D4 hlg4
      refine ⟨_, rfl, _, rfl, ?_⟩
      refine ⟨s, l, _, m, rfl, (hs4.upd op).new hlg, by simp only [Bud]; omega, by omega, fun ra r H5 hr hra hs5 k5 => ?_⟩
      have e5 := k5 _ _ (upd_at upd_same hlg) op
      have l5 := k5 _ _ upd_same oL
      have w5 : H5 ws = some (.lst []) := k5 _ _ (by rw [upd_ne hWL, upd_ne (Ne.symm hpW)]; exact w4) oW
      have D5 : H5 D = some (.lst (hps.map V.ref)) := k5 _ _ (by rw [upd_ne hDL, upd_ne (Ne.symm hpD)]; exact D4) oD
      have P5 : Paired (HPlanAt (Inn (Fre H) p D ws lg) H5) hps hds := Paired.impl P4 fun a h z =>
        (((z.to (N' := Inn (Fre H) p D ws lg) fun b hb hb2 => ⟨hb.1, hb.2.1, hb.2.2.1, hb.2.2.2, live_ne hb2 hlg4⟩).kp (M := fun b => b = p) (N' := Inn (Fre H) p D ws lg) (Kp.at rfl) fun b hb => ⟨hb, hb.2.1⟩).kp (M := fun b => b = lg) (N' := Inn (Fre H) p D ws lg) (Kp.at rfl) fun b hb => ⟨hb, hb.2.2.2.2⟩).kp k5 fun b hb => ⟨hb, hs.off hb.1⟩
      have R5 : RowAt (Inn (Fre H) p D ws lg) H5 ra r := hra.kp (M := fun _ => False) (Kp.same Same.rfl') fun b hb => ⟨⟨(K3.trans K34).was hs4 (by
        have z := was_none hb
        rwa [upd_ne (Fre.ne hb (upd_at upd_same hlg))] at z), Fre.ne hb (upd_at upd_same hlg), Fre.ne hb (by rw [upd_ne hDL, upd_ne (Ne.symm hpD)]; exact D4), Fre.ne hb (by rw [upd_ne hWL, upd_ne (Ne.symm hpW)]; exact w4), Fre.ne hb upd_same⟩, fun z => z⟩
      refine ⟨l5, [(kS "", .ref ra)], rfl, Nat.le_of_ble_eq_true rfl, ?_⟩
      rw [mp4]
      refine ⟨_, rfl, ?_⟩
      refine ⟨p, _, rfl, DPut.k (k := kS "loggers") (by rw [upd_ne hpL]; exact e5) (lsz rfl), ?_⟩
      rw [mp3]
      have W6 : PlanW (Fre H) (L2.upd (L2.upd H5 lg (.dK [(kS "", .ref ra)])) p (.dK [(kS "handlers", .ref D), (kS "words", .ref ws), (kS "bar", .int bar), (kS "loggers", .ref lg)])) p D ws lg hps [] [("", ra)] ⟨hds, [], bar, [("", r)]⟩ := by
        have kp : Kp (fun b => b = lg ∨ b = p) H5 (L2.upd (L2.upd H5 lg (.dK [(kS "", .ref ra)])) p (.dK [(kS "handlers", .ref D), (kS "words", .ref ws), (kS "bar", .int bar), (kS "loggers", .ref lg)])) := (Kp.at (.inl rfl)).trans (Kp.at (.inr rfl))
        have hn : ∀ b, Inn (Fre H) p D ws lg b → Inn (Fre H) p D ws lg b ∧ ¬ (b = lg ∨ b = p) := fun b hb => ⟨hb, fun z => z.elim hb.2.2.2.2 hb.2.1⟩
        refine ⟨hp, nD, nW, nL, hpD, hpW, hpL, hDW, hDL, hWL, upd_same, kp _ _ D5 (fun z => z.elim hDL (Ne.symm hpD)), Paired.impl P5 fun a h z => z.kp kp hn, kp _ _ w5 (fun z => z.elim hWL (Ne.symm hpW)), .nil, by rw [upd_ne (Ne.symm hpL), upd_same]; rfl, .cons ⟨rfl, R5.kp kp hn⟩ .nil⟩
      have hs6 := ((hs5.upd (o := .dK [(kS "", .ref ra)]) oL).upd (o := .dK [(kS "handlers", .ref D), (kS "words", .ref ws), (kS "bar", .int bar), (kS "loggers", .ref lg)]) op)
      have K6 := ((((K3.trans K34).wr (o := .dK [(kS "handlers", .ref D), (kS "words", .ref ws), (kS "bar", .int bar)]) hp).wr (o := .dK []) nL).trans k5).wr (o := .dK [(kS "", .ref ra)]) nL |>.wr (o := .dK [(kS "handlers", .ref D), (kS "words", .ref ws), (kS "bar", .int bar), (kS "loggers", .ref lg)]) hp
      generalize L2.upd (L2.upd H5 lg (.dK [(kS "", .ref ra)])) p (.dK [(kS "handlers", .ref D), (kS "words", .ref ws), (kS "bar", .int bar), (kS "loggers", .ref lg)]) = H6 at *
      have O6 : PlOk lo ha ⟨hds, [], bar, [("", r)]⟩ := ⟨hOk, by show hds.length ≤ ha; omega, hbar, (fun x h => nomatch h), Nat.zero_le _, fun x h => by
        rw [List.mem_singleton.mp h]
        exact ⟨List.mem_cons_self .., by show RPok hds.length r; rw [hLen]; exact hr⟩, by simp, by simp, by show 1 ≤ lo + 1; omega⟩
      clear R5 P5 D5 w5 l5 e5 P4 D4 w4 e4 K34 k3 k4 k5 hs5 hs4 hs3 K3 hP3 hP hys3 hys e3 w3 e2 K2 k2 hs2 e1 K1 k1 hs1 hlg hlg4 hq hws hD
      refine ⟨_, rfl, _, rfl, ?_⟩
      refine ⟨_, _, rfl, rfl, ?_⟩
      refine ⟨s, l, _, _, rfl, hs6, by omega, by omega, by omega, fun d7 H7 h70 h71 hs7 k7 => ?_⟩
      obtain ⟨c, rfl⟩ := Int.eq_ofNat_of_zero_le h70
      refine ⟨c, rfl, by omega, by omega, ?_⟩
      have W7 := W6.kp k7 (N' := Fre H) fun b hb => ⟨hb, hs.off hb⟩
      refine for_range (n := c) (fun i σ' H' => i ≤ c ∧ ∃ (o5 o6 o7 : Option V) (rows : List (Str × Addr)) (lgs : List (Str × RP)), σ' = [some (.ref s), some (natV lo), some (natV ha), some (.ref p), some (natV m), o5, o6, o7, none] ∧ StAt H' s l (n + 1300 + i * 22) ∧ Kp (onSt s l) H H' ∧
        PlanW (Fre H) H' p D ws lg hps [] rows ⟨hds, [], bar, lgs⟩ ∧ PlOk i ha ⟨hds, [], bar, lgs⟩) ?_ ?_ ?_
      · exact ⟨Nat.zero_le _, _, _, _, _, _, rfl, hs7.mono (by omega), K6.trans k7, W7, ⟨O6.handlers, O6.fewH, O6.bar, O6.words, O6.fewW, O6.loggers, O6.nd, O6.root, Nat.le_refl _⟩⟩
      · rintro i σ' H8 hi ⟨_, o5, o6, o7, rows, lgs, rfl, hs8, K8, W8, O8⟩
        refine ⟨ssz rfl, fun q hq => ?_⟩
        refine ⟨_, rfl, _, rfl, ?_⟩
        have hs9 := hs8.new (o := .lst (plMenu.map V.str)) hq
        refine ⟨s, q, l, _, plMenu.map V.str, rfl, hs9, by simp only [Bud]; omega, hs8.off hq, upd_same, by decide, by decide, fun x Ha hx hsa ka => ?_⟩
        obtain ⟨nm, hnm, rfl⟩ := List.mem_map.mp hx
        have K8a := (Kp.new (M := onSt s l) (o := .lst (plMenu.map V.str)) hq).trans ka
        have Wa := W8.kp K8a (N' := Fre H) fun b hb => ⟨hb, hs.off hb⟩
        refine ⟨_, rfl, _, rfl, ?_⟩
        refine ⟨s, l, _, m, rfl, hsa, by simp only [Bud]; omega, by omega, fun ra' r' Hb hr' hra' hsb kb => ?_⟩
        have Wb := Wa.kp kb (N' := Fre H) fun b hb => ⟨hb, hs.off hb⟩
        have Rb : RowAt (Inn (Fre H) p D ws lg) Hb ra' r' := hra'.kp (M := fun _ => False) (Kp.same Same.rfl') fun b hb => ⟨⟨(K8.trans K8a).was hsa hb, Fre.ne hb Wa.at_, Fre.ne hb Wa.hsE, Fre.ne hb Wa.wsE, Fre.ne hb Wa.lgE⟩, fun z => z⟩
        have W9 := Wb.row (k := nm) Rb
        refine ⟨_, rfl, ?_⟩
        refine ⟨p, _, rfl, (by rw [← vp2 (.ref D) (.ref ws) (.int bar) (.ref lg)]; exact DGet.k (k := kS "loggers") Wb.at_), ?_⟩
        refine ⟨_, rfl, ?_⟩
        have hlen : rows.length = lgs.length := Paired.length W8.lgP
        have hl2 := O8.fewL
        refine ⟨lg, _, rfl, DPut.k (k := kS nm) Wb.lgE (by rw [List.length_map, sizeLine_eq]; simp only at hl2; omega), ?_⟩
        rw [putK_row]
        exact ⟨hi, _, _, _, _, _, rfl, (hsb.upd oL).mono (by omega), ((K8.trans K8a).trans kb).wr nL, W9, O8.row (plMenu_log _ hnm) (by show RPok hds.length r'; rw [hLen]; exact hr')⟩
      · rintro σ' H8 ⟨_, o5, o6, o7, rows, lgs, rfl, hs8, K8, W8, O8⟩
        have O8' := O8.lo (lo' := lo) (by omega)
        refine ⟨_, rfl, ?_⟩
        refine ⟨s, l, 3, _, rfl, hs8, by omega, by omega, by omega, fun d9 H9 h90 h91 hs9 k9 => ?_⟩
        obtain ⟨c2, rfl⟩ := Int.eq_ofNat_of_zero_le h90
        refine ⟨c2, rfl, by omega, by omega, ?_⟩
        have W9 := W8.kp k9 (N' := Fre H) fun b hb => ⟨hb, hs.off hb⟩
        refine for_range (n := c2) (fun i σ' H' => i ≤ c2 ∧ ∃ (o5 o8 : Option V) (wvs : List V) (wds : List (Int × Str)), σ' = [some (.ref s), some (natV lo), some (natV ha), some (.ref p), some (natV m), o5, o6, o7, o8] ∧ StAt H' s l (n + 2000 + i * 2) ∧ Kp (onSt s l) H H' ∧
          PlanW (Fre H) H' p D ws lg hps wvs rows ⟨hds, wds, bar, lgs⟩ ∧ wds.length = i ∧ ∀ x ∈ wds, x.1 ∈ wlMenu ∧ x.2 ∈ wxMenu) ?_ ?_ ?_
        · exact ⟨Nat.zero_le _, _, _, [], [], rfl, hs9.mono (by omega), K8.trans k9, W9, rfl, fun x h => nomatch h⟩
        · rintro i σ' Ha hi ⟨_, o5', o8', wvs, wds, rfl, hsa, Ka, Wa, la, fa⟩
          refine ⟨_, rfl, ssz rfl, fun q hq => ?_⟩
          refine ⟨s, q, l, _, wlMenu.map V.int, rfl, hsa.new hq, by simp only [Bud]; omega, hsa.off hq, upd_same, by decide, by decide, fun x Hb hx hsb kb => ?_⟩
          obtain ⟨wl, hwl, rfl⟩ := List.mem_map.mp hx
          have Kab := (Kp.new (M := onSt s l) (o := .lst (wlMenu.map V.int)) hq).trans kb
          have Wb := Wa.kp Kab (N' := Fre H) fun b hb => ⟨hb, hs.off hb⟩
          refine ⟨_, rfl, ?_⟩
          refine ⟨p, _, rfl, (by rw [← vp3 (.ref D) (.ref ws) (.int bar) (.ref lg)]; exact DGet.k (k := kS "words") Wb.at_), ?_⟩
          refine ⟨.inl ⟨rfl, _, SqL.of Wb.wsE⟩, ?_⟩
          refine ⟨_, rfl, ?_⟩
          refine ⟨_, rfl, ssz rfl, fun q2 hq2 => ?_⟩
          refine ⟨s, q2, l, _, wxMenu.map V.str, rfl, hsb.new hq2, by simp only [Bud]; omega, hsb.off hq2, upd_same, by decide, by decide, fun x Hc hx hsc kc => ?_⟩
          obtain ⟨wx, hwx, rfl⟩ := List.mem_map.mp hx
          have Kbc := (Kp.new (M := onSt s l) (o := .lst (wxMenu.map V.str)) hq2).trans kc
          have Wc := Wb.kp Kbc (N' := Fre H) fun b hb => ⟨hb, hs.off hb⟩
          refine ⟨ssz rfl, fun t ht => ?_⟩
          have Wd := Wc.kp (Kp.new (M := fun _ => False) (o := .tup [.int wl, .str wx]) ht) (N' := Fre H) fun b hb => ⟨hb, fun z => z⟩
          have hlen : wvs.length = wds.length := Paired.length Wc.wsP
          refine ⟨ws, _, _, rfl, rfl, Wd.wsE, by rw [sizeLine_eq]; omega, ?_⟩
          have nt : Fre H t := ((Ka.trans Kab).trans Kbc).was hsc ht
          have We := Wd.word (v := .ref t) (y := (wl, wx)) ⟨t, rfl, ⟨nt, Fre.ne ht Wc.at_, Fre.ne ht Wc.hsE, Fre.ne ht Wc.wsE, Fre.ne ht Wc.lgE⟩, upd_same⟩
          refine ⟨hi, _, _, _, _, rfl, ((hsc.new ht).upd oW).mono (by omega), (((Ka.trans Kab).trans Kbc).wr nt).wr nW, We, by rw [List.length_append, la]; rfl, fun x hx => ?_⟩
          rcases List.mem_append.mp hx with z | z
          · exact fa x z
          · rw [List.mem_singleton.mp z]
            exact ⟨hwl, hwx⟩
        · rintro σ' Ha ⟨_, o5', o8', wvs, wds, rfl, hsa, Ka, Wa, la, fa⟩
          refine ⟨_, rfl, ?_⟩
          exact k p ⟨hds, wds, bar, lgs⟩ Ha ⟨O8'.handlers, O8'.fewH, O8'.bar, fa, by show wds.length ≤ 2; omega, O8'.loggers, O8'.nd, O8'.root, O8'.fewL⟩ ⟨D, ws, lg, hps, wvs, rows, Wa⟩ (hsa.mono (by omega)) Ka
end
end Ry
namespace Ry
open PySem PySem.Spec PyProof.Rows L2 He RyH
open C8 (pss_cut tCut Cal Met Mak pe_c pe_mk pe_mt pe_mt0 pe_gc)
/-! ### fields -/
theorem plen {f : Str} {v : V} {fs : List (Str × V)} {n : Nat} (h : fs.length ≤ n) : (putF f v fs).length ≤ n + 1 := Nat.le_trans (length_putF f v fs) (Nat.succ_le_succ h)
abbrev hdB (y fl : Addr) (lv : Int) (fm nm : V) (tm : Str) (cl : Bool) : List (Str × V) := [("filters", .ref fl), ("yard", .ref y), ("level", .int lv), ("formatter", fm), ("name", nm), ("terminator", .str tm), ("closed", .bl cl)]
abbrev lgF (y fl : Addr) (nm : Str) (lv : Int) (pr di : Bool) (hl : Addr) (pa : V) : List (Str × V) := [("filters", .ref fl), ("yard", .ref y), ("name", .str nm), ("level", .int lv), ("propagate", .bl pr), ("disabled", .bl di), ("handlers", .ref hl), ("parent", pa)]
theorem pf_h2 (a b : V) : putF "yard" b [("filters", a)] = ([("filters", a), ("yard", b)] : List (Str × V)) := by kernel_rfl
theorem pf_h3 (a b c : V) : putF "level" c [("filters", a), ("yard", b)] = ([("filters", a), ("yard", b), ("level", c)] : List (Str × V)) := by kernel_rfl
theorem pf_h4 (a b c d : V) : putF "formatter" d [("filters", a), ("yard", b), ("level", c)] = ([("filters", a), ("yard", b), ("level", c), ("formatter", d)] : List (Str × V)) := by kernel_rfl
theorem pf_h5 (a b c d e : V) : putF "name" e [("filters", a), ("yard", b), ("level", c), ("formatter", d)] = ([("filters", a), ("yard", b), ("level", c), ("formatter", d), ("name", e)] : List (Str × V)) := by kernel_rfl
theorem pf_h6 (a b c d e f : V) : putF "terminator" f [("filters", a), ("yard", b), ("level", c), ("formatter", d), ("name", e)] = ([("filters", a), ("yard", b), ("level", c), ("formatter", d), ("name", e), ("terminator", f)] : List (Str × V)) := by kernel_rfl
theorem pf_h7 (a b c d e f g : V) : putF "closed" g [("filters", a), ("yard", b), ("level", c), ("formatter", d), ("name", e), ("terminator", f)] = ([("filters", a), ("yard", b), ("level", c), ("formatter", d), ("name", e), ("terminator", f), ("closed", g)] : List (Str × V)) := by kernel_rfl
theorem pf_h8 (a b c d e f g h : V) : putF "stream" h [("filters", a), ("yard", b), ("level", c), ("formatter", d), ("name", e), ("terminator", f), ("closed", g)] = ([("filters", a), ("yard", b), ("level", c), ("formatter", d), ("name", e), ("terminator", f), ("closed", g), ("stream", h)] : List (Str × V)) := by kernel_rfl
theorem pf_l3 (a b c : V) : putF "name" c [("filters", a), ("yard", b)] = ([("filters", a), ("yard", b), ("name", c)] : List (Str × V)) := by kernel_rfl
theorem pf_l4 (a b c d : V) : putF "level" d [("filters", a), ("yard", b), ("name", c)] = ([("filters", a), ("yard", b), ("name", c), ("level", d)] : List (Str × V)) := by kernel_rfl
theorem pf_l5 (a b c d e : V) : putF "propagate" e [("filters", a), ("yard", b), ("name", c), ("level", d)] = ([("filters", a), ("yard", b), ("name", c), ("level", d), ("propagate", e)] : List (Str × V)) := by kernel_rfl
theorem pf_l6 (a b c d e f : V) : putF "disabled" f [("filters", a), ("yard", b), ("name", c), ("level", d), ("propagate", e)] = ([("filters", a), ("yard", b), ("name", c), ("level", d), ("propagate", e), ("disabled", f)] : List (Str × V)) := by kernel_rfl
theorem pf_l7 (a b c d e f g : V) : putF "handlers" g [("filters", a), ("yard", b), ("name", c), ("level", d), ("propagate", e), ("disabled", f)] = ([("filters", a), ("yard", b), ("name", c), ("level", d), ("propagate", e), ("disabled", f), ("handlers", g)] : List (Str × V)) := by kernel_rfl
theorem pf_l8 (a b c d e f g h : V) : putF "parent" h [("filters", a), ("yard", b), ("name", c), ("level", d), ("propagate", e), ("disabled", f), ("handlers", g)] = ([("filters", a), ("yard", b), ("name", c), ("level", d), ("propagate", e), ("disabled", f), ("handlers", g), ("parent", h)] : List (Str × V)) := by kernel_rfl
abbrev lk (fs : List (Str × V)) (f : Str) : Option V := fs.lookup f
theorem csz {n : Nat} (h : Nat.ble (n + 1) 1000 = true) : n < 1000 := Nat.le_of_ble_eq_true h
/-- a class of handlers, as far as its methods ask -/
structure HCls (K : PySem.W.Frag) (C : Addr) : Prop where
  cl : Cls K C
  filters : NoAttr K C "filters"
  yard : NoAttr K C "yard"
  level : NoAttr K C "level"
  formatter : NoAttr K C "formatter"
  name : NoAttr K C "name"
  terminator : NoAttr K C "terminator"
  closed : NoAttr K C "closed"
/-- the yard's own object -/
def YIns (K : PySem.W.Frag) (H : Hp) (y : Addr) (fy : List (Str × V)) : Prop := ∃ dy, H y = some (.ins (ga K "Yard") dy fy)
/-! ### promises -/
def spFilterInit (K : PySem.W.Frag) : Sp := fun vs H Q _ => ∃ (a dx : Addr) (z : Str), vs = [.ref a, .str z] ∧ H a = some (.ins (ga K "Filter") dx []) ∧ Q .non (upd H a (.ins (ga K "Filter") dx ([("name", .str z)] : List (Str × V))))
def spFiltererInit (K : PySem.W.Frag) : Sp := fun vs H Q _ => ∃ (a C dx : Addr), vs = [.ref a] ∧ H a = some (.ins C dx []) ∧ Cls K C ∧ NoAttr K C "filters" ∧ ∀ fl, H fl = none → Q .non (upd (upd H fl (.lst [])) a (.ins C dx ([("filters", .ref fl)] : List (Str × V))))
def spAddFilter (K : PySem.W.Frag) : Sp := fun vs H Q _ => ∃ (a C dx fl o : Addr) (fs : List (Str × V)) (ps : List Addr), vs = [.ref a, .ref o] ∧ H a = some (.ins C dx fs) ∧ Cls K C ∧ NoAttr K C "filters" ∧ lk fs "filters" = some (.ref fl) ∧
  H fl = some (.lst (ps.map V.ref)) ∧ RyR.CmpV K H o ∧ (∀ z ∈ ps, RyR.CmpV K H z) ∧ o ∉ ps ∧ ps.length < 1000 ∧ Q .non (upd H fl (.lst ((ps ++ [o]).map V.ref)))
def spIsInteger : Sp := fun vs H Q _ => ∃ (i : Int), vs = [.int i] ∧ Q (.bl true) H
def spLevelOf : Sp := fun vs H Q _ => ∃ (y : Addr) (i : Int), vs = [.ref y, .int i] ∧ Q (.int i) H
def spEnrol (K : PySem.W.Frag) : Sp := fun vs H Q _ => ∃ (y mk h : Addr) (fy : List (Str × V)) (ms : List V), vs = [.ref y, .ref h] ∧ YIns K H y fy ∧ lk fy "made" = some (.ref mk) ∧ H mk = some (.lst ms) ∧ ms.length < 1000 ∧ Q .non (upd H mk (.lst (ms ++ [.ref h])))
def spHandlerInit (K : PySem.W.Frag) : Sp := fun vs H Q _ => ∃ (a C dx y mk : Addr) (fy : List (Str × V)) (ms : List V), vs = [.ref a, .ref y] ∧ H a = some (.ins C dx []) ∧ HCls K C ∧ YIns K H y fy ∧ lk fy "made" = some (.ref mk) ∧ lk fy "enrol" = none ∧ y ≠ a ∧ H mk = some (.lst ms) ∧ ms.length < 1000 ∧
  ∀ fl H', H fl = none → H' a = some (.ins C dx (hdB y fl 0 .non .non "\n" false)) → H' fl = some (.lst []) → H' mk = some (.lst (ms ++ [.ref a])) → Kp (fun b => b = a ∨ b = mk) H H' → Q .non H'
def spStreamInit (K : PySem.W.Frag) : Sp := fun vs H Q _ => ∃ (a dx y mk : Addr) (fy : List (Str × V)) (ms : List V) (st : Str), vs = [.ref a, .ref y, .str st] ∧ H a = some (.ins (ga K "StreamHandler") dx []) ∧ YIns K H y fy ∧ lk fy "made" = some (.ref mk) ∧ lk fy "enrol" = none ∧ y ≠ a ∧ H mk = some (.lst ms) ∧ ms.length < 1000 ∧
  ∀ fl H', H fl = none → H' a = some (.ins (ga K "StreamHandler") dx (hdB y fl 0 .non .non "\n" false ++ ([("stream", .str st)] : List (Str × V)))) → H' fl = some (.lst []) → H' mk = some (.lst (ms ++ [.ref a])) → Kp (fun b => b = a ∨ b = mk) H H' → Q .non H'
/-- self.level = self.yard.level_of(level) -/
def spSetLevel (K : PySem.W.Frag) : Sp := fun vs H Q _ => ∃ (a C dx y : Addr) (fs fy : List (Str × V)) (i : Int), vs = [.ref a, .int i] ∧ H a = some (.ins C dx fs) ∧ Cls K C ∧ NoAttr K C "yard" ∧ NoAttr K C "level" ∧ fs.length < 1000 ∧ lk fs "yard" = some (.ref y) ∧ YIns K H y fy ∧ lk fy "level_of" = none ∧ Q .non (upd H a (.ins C dx (putF "level" (.int i) fs)))
/-- self.f = value -/
def spSetF (K : PySem.W.Frag) (f : Str) : Sp := fun vs H Q _ => ∃ (a C dx : Addr) (fs : List (Str × V)) (v : V), vs = [.ref a, v] ∧ H a = some (.ins C dx fs) ∧ Cls K C ∧ NoAttr K C f ∧ fs.length < 1000 ∧ Q .non (upd H a (.ins C dx (putF f v fs)))
def spLoggerInit (K : PySem.W.Frag) : Sp := fun vs H Q _ => ∃ (a dx y : Addr) (nm : Str) (lv : Int), vs = [.ref a, .ref y, .str nm, .int lv] ∧ H a = some (.ins (ga K "Logger") dx []) ∧
  ∀ fl hl H', H fl = none → H hl = none → fl ≠ hl → H' a = some (.ins (ga K "Logger") dx (lgF y fl nm lv true false hl .non)) → H' fl = some (.lst []) → H' hl = some (.lst []) → Kp (fun b => b = a) H H' → Q .non H'
def spAddHandler (K : PySem.W.Frag) : Sp := fun vs H Q _ => ∃ (a dx hl o : Addr) (fs : List (Str × V)) (ps : List Addr), vs = [.ref a, .ref o] ∧ H a = some (.ins (ga K "Logger") dx fs) ∧ lk fs "handlers" = some (.ref hl) ∧
  H hl = some (.lst (ps.map V.ref)) ∧ RyR.CmpV K H o ∧ (∀ z ∈ ps, RyR.CmpV K H z) ∧ o ∉ ps ∧ ps.length < 1000 ∧ Q .non (upd H hl (.lst ((ps ++ [o]).map V.ref)))
section
variable {P : Program} {w : World} {K : PySem.W.Frag} {mg : Str → Option Value} {base : Heap}
theorem sc_Filter_init : FnScope ["self", "name"] ["self", "name"] (defScope s_Filter_init) := ⟨rfl, rfl, rfl, by decide +kernel, rfl, by decide +kernel, by decide +kernel⟩
theorem fn_Filter_init (T : Txt w K mg) : ∃ fd, FnOk P w K mg base CX0 1 (ma K (ga K "Filter") "__init__") fd ["self", "name"] (spFilterInit K) ∧ FunD K "__init__" "Filter.__init__" (defArgs s_Filter_init) (defBody s_Filter_init) (defScope s_Filter_init) (He.DefD.dvs K d_Filter_init) [] (ma K (ga K "Filter") "__init__") fd := by
  obtain ⟨fd, F⟩ := T.df_Filter_init
  refine ⟨fd, F.ok sc_Filter_init (fun vs H Q E h => ?_) (fun cdv A outer s H vs Q E hr h => ?_), F⟩
  · obtain ⟨a, dx, z, rfl, _⟩ := h
    rfl
  · obtain ⟨a, dx, z, rfl, ha, k⟩ := h
    refine ⟨_, PSs.nox (pss_one (ps_fld (pv 0) (pv 1) rfl)), ?_⟩
    exact ⟨_, rfl, _, rfl, a, _, dx, _, rfl, ha, T.cl_Filter, T.no_Filter_name, csz rfl, k⟩
theorem sc_Filterer_init : FnScope ["self"] ["self"] (defScope s_Filterer_init) := ⟨rfl, rfl, rfl, by decide +kernel, rfl, by decide +kernel, by decide +kernel⟩
theorem fn_Filterer_init (T : Txt w K mg) : ∃ fd, FnOk P w K mg base CX0 1 (ma K (ga K "Filterer") "__init__") fd ["self"] (spFiltererInit K) ∧ FunD K "__init__" "Filterer.__init__" (defArgs s_Filterer_init) (defBody s_Filterer_init) (defScope s_Filterer_init) (He.DefD.dvs K d_Filterer_init) [] (ma K (ga K "Filterer") "__init__") fd := by
  obtain ⟨fd, F⟩ := T.df_Filterer_init
  refine ⟨fd, F.ok sc_Filterer_init (fun vs H Q E h => ?_) (fun cdv A outer s H vs Q E hr h => ?_), F⟩
  · obtain ⟨a, C, dx, rfl, _⟩ := h
    rfl
  · obtain ⟨a, C, dx, rfl, ha, hc, hf, k⟩ := h
    refine ⟨_, PSs.nox (pss_one (ps_fld (pv 0) (pe_lst pa_nil) rfl)), ?_⟩
    exact ⟨ssz rfl, fun fl hfl => ⟨_, rfl, a, _, dx, _, rfl, upd_at ha hfl, hc, hf, csz rfl, k fl hfl⟩⟩
theorem sc_Filterer_addFilter : FnScope ["self", "one"] ["self", "one"] (defScope s_Filterer_addFilter) := ⟨rfl, rfl, rfl, by decide +kernel, rfl, by decide +kernel, by decide +kernel⟩
theorem fn_Filterer_addFilter (T : Txt w K mg) : ∃ fd, FnOk P w K mg base CX0 1 (ma K (ga K "Filterer") "addFilter") fd ["self", "one"] (spAddFilter K) ∧ FunD K "addFilter" "Filterer.addFilter" (defArgs s_Filterer_addFilter) (defBody s_Filterer_addFilter) (defScope s_Filterer_addFilter) (He.DefD.dvs K d_Filterer_addFilter) [] (ma K (ga K "Filterer") "addFilter") fd := by
  obtain ⟨fd, F⟩ := T.df_Filterer_addFilter
  refine ⟨fd, F.ok sc_Filterer_addFilter (fun vs H Q E h => ?_) (fun cdv A outer s H vs Q E hr h => ?_), F⟩
  · obtain ⟨a, C, dx, fl, o, fs, ps, rfl, _⟩ := h
    rfl
  · obtain ⟨a, C, dx, fl, o, fs, ps, rfl, ha, hc, hf, hl, efl, co, cps, ho, len, k⟩ := h
    refine ⟨_, PSs.nox (pss_one (ps_if (pt_cmpR (RyR.op_notInI hr.units) (pv 1) (pe_fld (pv 0) rfl) rfl)
        (pss_one (ps_expr (pe_bm PySem.F.plainAttrs_list PySem.F.slot_list_append PySem.F.type_list_append mt_append (pe_fld (pv 0) rfl) (pa_cons (pv 1) pa_nil))))
        pss_nil)), ?_⟩
    refine ⟨_, rfl, _, rfl, a, C, dx, fs, _, rfl, ha, hc, hf, hl, ?_⟩
    refine ⟨fl, o, ps, rfl, rfl, SqL.of efl, co, cps, _, rfl, ?_⟩
    rw [if_pos rfl, decide_eq_false ho]
    refine iteT ?_
    refine ⟨_, rfl, a, C, dx, fs, _, rfl, ha, hc, hf, hl, .inl ⟨rfl, _, SqL.of efl⟩, ?_⟩
    refine ⟨_, rfl, fl, _, _, rfl, rfl, efl, by rw [List.length_map, sizeLine_eq]; omega, ?_⟩
    rw [List.map_append] at k
    exact k
theorem sc_is_integer : FnScope ["thing"] ["thing"] (defScope s_is_integer) := ⟨rfl, rfl, rfl, by decide +kernel, rfl, by decide +kernel, by decide +kernel⟩
theorem cal_is_integer (T : Txt w K mg) : Cal P w K mg base 1 "is_integer" (spIsInteger) [] := by
  obtain ⟨fd, F⟩ := T.df_is_integer
  refine ⟨_, fd, ["thing"], [], F.ok sc_is_integer (fun vs H Q E h => ?_) (fun cdv A outer s H vs Q E hr h => ?_), T.m_is_integer, F.kp, F.bindsN (fun _ _ _ _ _ _ us hl => match us, hl with | [_], _ => rfl), .nil⟩
  · obtain ⟨i, rfl, _⟩ := h
    rfl
  · obtain ⟨i, rfl, k⟩ := h
    refine ⟨_, PSs.nox (pss_one (ps_ret (pe_and (pe_callB (id := "isinstance") call_isi (by rfl) T.f_isinstance (by decide +kernel) (pa_cons (pv 0) (pa_cons (pe_bltn (v := .ty "int") (by rfl) T.f_int (by decide +kernel) rfl) pa_nil))) (pe_one (pe_not (pe_callB (id := "isinstance") call_isi (by rfl) T.f_isinstance (by decide +kernel) (pa_cons (pv 0) (pa_cons (pe_bltn (v := .ty "bool") (by rfl) T.f_bool (by decide +kernel) rfl) pa_nil)))))))), ?_⟩
    refine ⟨_, rfl, ?_⟩
    refine ⟨_, _, _, _, _, rfl, .ty _, .base (.int i), kit_ty (show kitB "int" "int" = some true by decide +kernel), ?_⟩
    refine ⟨_, rfl, ?_⟩
    refine iteT ?_
    refine ⟨_, rfl, ?_⟩
    refine ⟨_, _, _, _, _, rfl, .ty _, .base (.int i), kit_ty (show kitB "int" "bool" = some false by decide +kernel), ?_⟩
    exact ⟨_, rfl, k⟩
end
end Ry
namespace Ry
open PySem PySem.Spec PyProof.Rows L2 He RyH
open C8 (pss_cut tCut Cal Met Mak pe_c pe_mk pe_mt pe_mt0 pe_gc)
section
variable {P : Program} {w : World} {K : PySem.W.Frag} {mg : Str → Option Value} {base : Heap}
theorem YIns.upd {H : Hp} {y p : Addr} {o : HO} {fy : List (Str × V)} (h : YIns K H y fy) (hp : y ≠ p) : YIns K (L2.upd H p o) y fy := by
  obtain ⟨dy, e⟩ := h
  exact ⟨dy, by rw [upd_ne hp]; exact e⟩
theorem mk_Filter (T : Txt w K mg) : Mak P w K mg base 1 "Filter" (ga K "Filter") (spFilterInit K) [] := by
  obtain ⟨fd, f, F⟩ := fn_Filter_init (P := P) (base := base) T
  obtain ⟨ds, hV, hB⟩ := F.binds1 (ps := ["self", "name"]) 2 1 (fun z => nomatch z) rfl (fun _ _ _ _ _ _ _ us its h1 h2 => match us, its, h1, h2 with | [_, _], [_], _, _ => ⟨_, rfl, rfl⟩)
  refine ⟨_, fd, _, _, T.mk_Filter, ?_, T.m_Filter, hB, hV⟩
  exact f
theorem sc_Yard_level_of : FnScope ["self", "level"] ["self", "level"] (defScope s_Yard_level_of) := ⟨rfl, rfl, rfl, by decide +kernel, rfl, by decide +kernel, by decide +kernel⟩
theorem fn_Yard_level_of (T : Txt w K mg) : ∃ fd, FnOk P w K mg base CX0 2 (ma K (ga K "Yard") "level_of") fd ["self", "level"] (spLevelOf) ∧ FunD K "level_of" "Yard.level_of" (defArgs s_Yard_level_of) (defBody s_Yard_level_of) (defScope s_Yard_level_of) (He.DefD.dvs K d_Yard_level_of) [] (ma K (ga K "Yard") "level_of") fd := by
  obtain ⟨fd, F⟩ := T.df_Yard_level_of
  have c_is_integer := cal_is_integer (P := P) (base := base) T
  refine ⟨fd, F.ok sc_Yard_level_of (fun vs H Q E h => ?_) (fun cdv A outer s H vs Q E hr h => ?_), F⟩
  · obtain ⟨_, _, rfl, _⟩ := h
    rfl
  · obtain ⟨y, i, rfl, k⟩ := h
    refine ⟨_, PSs.nox (pss_cons (ps_if (pt_val (pe_c c_is_integer hr (by decide) (by rfl) (pa_cons (pv 1) pa_nil)))
        (pss_one (ps_ret (pv 1)))
        pss_nil)
      (pss_cut (ps_if (PW.pt (pw_and (pt_val (pe_callB (id := "isinstance") call_isi (by rfl) T.f_isinstance (by decide +kernel) (pa_cons (pv 1) (pa_cons (pe_bltn (v := .ty "str") (by rfl) T.f_str (by decide +kernel) rfl) pa_nil)))) (pw_and1 (pt_cmp (pc_din (hu_of hr) (pv 1) (pe_fld (pv 0) rfl)) rfl))))
        (pss_one (ps_ret (pe_dget (hu_of hr) (pe_fld (pv 0) rfl) (pv 1) (fun _ _ => rfl))))
        pss_nil)
      (pss_one ps_never))), ?_⟩
    exact ⟨_, rfl, i, rfl, _, rfl, iteT ⟨_, rfl, k⟩⟩
theorem sc_Yard_enrol : FnScope ["self", "handler"] ["self", "handler"] (defScope s_Yard_enrol) := ⟨rfl, rfl, rfl, by decide +kernel, rfl, by decide +kernel, by decide +kernel⟩
theorem fn_Yard_enrol (T : Txt w K mg) : ∃ fd, FnOk P w K mg base CX0 1 (ma K (ga K "Yard") "enrol") fd ["self", "handler"] (spEnrol K) ∧ FunD K "enrol" "Yard.enrol" (defArgs s_Yard_enrol) (defBody s_Yard_enrol) (defScope s_Yard_enrol) (He.DefD.dvs K d_Yard_enrol) [] (ma K (ga K "Yard") "enrol") fd := by
  obtain ⟨fd, F⟩ := T.df_Yard_enrol
  refine ⟨fd, F.ok sc_Yard_enrol (fun vs H Q E h => ?_) (fun cdv A outer s H vs Q E hr h => ?_), F⟩
  · obtain ⟨_, _, _, _, _, rfl, _⟩ := h
    rfl
  · obtain ⟨y, mk, h, fy, ms, rfl, ⟨dy, hy⟩, hmk, emk, len, k⟩ := h
    refine ⟨_, PSs.nox (pss_one (ps_expr (pe_bm PySem.F.plainAttrs_list PySem.F.slot_list_append PySem.F.type_list_append mt_append (pe_fld (pv 0) rfl) (pa_cons (pv 1) pa_nil)))), ?_⟩
    exact ⟨_, rfl, y, _, dy, fy, _, rfl, hy, T.cl_Yard, T.no_Yard_made, hmk, .inl ⟨rfl, _, SqL.of emk⟩, _, rfl, mk, _, _, rfl, rfl, emk, by rw [sizeLine_eq]; omega, k⟩
theorem met_Yard_level_of (T : Txt w K mg) : Met P w K mg base 2 (ga K "Yard") "level_of" (spLevelOf) [] := by
  obtain ⟨fd, f, F⟩ := fn_Yard_level_of (P := P) (base := base) T
  have hB : Binds K fd ["self", "level"] [] := F.bindsN (fun _ _ _ _ _ _ us hl => match us, hl with | [_, _], _ => rfl)
  have hV : Vals [] ([] : List Value) := .nil
  refine ⟨_, fd, _, _, T.cl_Yard, T.me_Yard_level_of, ?_, hB, hV⟩
  exact f
theorem met_Yard_enrol (T : Txt w K mg) : Met P w K mg base 1 (ga K "Yard") "enrol" (spEnrol K) [] := by
  obtain ⟨fd, f, F⟩ := fn_Yard_enrol (P := P) (base := base) T
  have hB : Binds K fd ["self", "handler"] [] := F.bindsN (fun _ _ _ _ _ _ us hl => match us, hl with | [_, _], _ => rfl)
  have hV : Vals [] ([] : List Value) := .nil
  refine ⟨_, fd, _, _, T.cl_Yard, T.me_Yard_enrol, ?_, hB, hV⟩
  exact f
theorem sc_Handler_init : FnScope ["self", "yard"] ["self", "yard"] (defScope s_Handler_init) := ⟨rfl, rfl, rfl, by decide +kernel, rfl, by decide +kernel, by decide +kernel⟩
theorem fn_Handler_init (T : Txt w K mg) : ∃ fd, FnOk P w K mg base CX0 2 (ma K (ga K "Handler") "__init__") fd ["self", "yard"] (spHandlerInit K) ∧ FunD K "__init__" "Handler.__init__" (defArgs s_Handler_init) (defBody s_Handler_init) (defScope s_Handler_init) (He.DefD.dvs K d_Handler_init) [] (ma K (ga K "Handler") "__init__") fd := by
  obtain ⟨fd, F⟩ := T.df_Handler_init
  have c_Yard_enrol := met_Yard_enrol (P := P) (base := base) T
  obtain ⟨fd0, f_Filterer_init, FF⟩ := fn_Filterer_init (P := P) (base := base) T
  have b_Filterer_init : Binds K fd0 ["self"] [] := FF.bindsN (fun _ _ _ _ _ _ us hl => match us, hl with | [_], _ => rfl)
  refine ⟨fd, F.ok sc_Handler_init (fun vs H Q E h => ?_) (fun cdv A outer s H vs Q E hr h => ?_), F⟩
  · obtain ⟨_, _, _, _, _, _, _, rfl, _⟩ := h
    rfl
  · obtain ⟨a, C, dx, y, mk, fy, ms, rfl, ha, hc, hy, hmk, hen, hya, emk, len, k⟩ := h
    refine ⟨_, PSs.nox (pss_cons (ps_expr (pe_cfn (pe_gc (by rfl) (T.gv_Filterer)) T.cf_Filterer_init f_Filterer_init (hr.mono (by decide)) b_Filterer_init .nil (C8.pass0 (E := C8.E0)) (pa_cons (pv 0) pa_nil)))
      (pss_cons (ps_fld (pv 0) (pv 1) rfl)
      (pss_cons (ps_fld (pv 0) pe_int rfl)
      (pss_cons (ps_fld (pv 0) pe_non rfl)
      (pss_cons (ps_fld (pv 0) pe_non rfl)
      (pss_cons (ps_fld (pv 0) pe_str rfl)
      (pss_cons (ps_fld (pv 0) pe_bl rfl)
      (pss_one (ps_expr (pe_mt c_Yard_enrol hr (by decide) (pv 1) (pa_cons (pv 0) pa_nil))))))))))), ?_⟩
    refine ⟨rfl, _, rfl, a, C, dx, rfl, ha, hc.cl, hc.filters, fun fl hfl => ?_⟩
    have hfa : fl ≠ a := Ne.symm (ne_of_none ha hfl)
    refine ⟨_, rfl, _, rfl, a, C, dx, _, rfl, upd_same, hc.cl, hc.yard, csz rfl, ?_⟩
    rw [upd_upd, pf_h2]
    refine ⟨_, rfl, a, C, dx, _, rfl, upd_same, hc.cl, hc.level, csz rfl, ?_⟩
    rw [upd_upd, pf_h3]
    refine ⟨_, rfl, a, C, dx, _, rfl, upd_same, hc.cl, hc.formatter, csz rfl, ?_⟩
    rw [upd_upd, pf_h4]
    refine ⟨_, rfl, a, C, dx, _, rfl, upd_same, hc.cl, hc.name, csz rfl, ?_⟩
    rw [upd_upd, pf_h5]
    refine ⟨_, rfl, a, C, dx, _, rfl, upd_same, hc.cl, hc.terminator, csz rfl, ?_⟩
    rw [upd_upd, pf_h6]
    refine ⟨_, rfl, a, C, dx, _, rfl, upd_same, hc.cl, hc.closed, csz rfl, ?_⟩
    rw [upd_upd, pf_h7]
    obtain ⟨dy, ey⟩ := hy
    have hyf : y ≠ fl := ne_of_none ey hfl
    have hmf : mk ≠ fl := ne_of_none emk hfl
    have hma : mk ≠ a := ne_of emk ha (fun z => nomatch z)
    refine ⟨_, rfl, y, dy, fy, rfl, by rw [upd_ne hya, upd_ne hyf]; exact ey, hen, ?_⟩
    refine ⟨_, rfl, y, mk, a, fy, ms, rfl, ⟨dy, by rw [upd_ne hya, upd_ne hyf]; exact ey⟩, hmk, by rw [upd_ne hma, upd_ne hmf]; exact emk, len, ?_⟩
    refine k fl _ hfl (by rw [upd_ne (Ne.symm hma), upd_same]) (by rw [upd_ne (Ne.symm hmf), upd_ne hfa, upd_same]) upd_same ?_
    exact ((Kp.new hfl).trans (Kp.at (.inl rfl))).trans (Kp.at (.inr rfl))
theorem hc_StreamHandler (T : Txt w K mg) : HCls K (ga K "StreamHandler") := ⟨T.cl_StreamHandler, T.no_StreamHandler_filters, T.no_StreamHandler_yard, T.no_StreamHandler_level, T.no_StreamHandler_formatter, T.no_StreamHandler_name, T.no_StreamHandler_terminator, T.no_StreamHandler_closed⟩
theorem hc_NullHandler (T : Txt w K mg) : HCls K (ga K "NullHandler") := ⟨T.cl_NullHandler, T.no_NullHandler_filters, T.no_NullHandler_yard, T.no_NullHandler_level, T.no_NullHandler_formatter, T.no_NullHandler_name, T.no_NullHandler_terminator, T.no_NullHandler_closed⟩
theorem sc_StreamHandler_init : FnScope ["self", "yard", "stream"] ["self", "yard", "stream"] (defScope s_StreamHandler_init) := ⟨rfl, rfl, rfl, by decide +kernel, rfl, by decide +kernel, by decide +kernel⟩
theorem fn_StreamHandler_init (T : Txt w K mg) : ∃ fd, FnOk P w K mg base CX0 3 (ma K (ga K "StreamHandler") "__init__") fd ["self", "yard", "stream"] (spStreamInit K) ∧ FunD K "__init__" "StreamHandler.__init__" (defArgs s_StreamHandler_init) (defBody s_StreamHandler_init) (defScope s_StreamHandler_init) (He.DefD.dvs K d_StreamHandler_init) [] (ma K (ga K "StreamHandler") "__init__") fd := by
  obtain ⟨fd, F⟩ := T.df_StreamHandler_init
  obtain ⟨fd0, f_Handler_init, FF⟩ := fn_Handler_init (P := P) (base := base) T
  have b_Handler_init : Binds K fd0 ["self", "yard"] [] := FF.bindsN (fun _ _ _ _ _ _ us hl => match us, hl with | [_, _], _ => rfl)
  refine ⟨fd, F.ok sc_StreamHandler_init (fun vs H Q E h => ?_) (fun cdv A outer s H vs Q E hr h => ?_), F⟩
  · obtain ⟨_, _, _, _, _, _, _, rfl, _⟩ := h
    rfl
  · obtain ⟨a, dx, y, mk, fy, ms, st, rfl, ha, hy, hmk, hen, hya, emk, len, k⟩ := h
    refine ⟨_, PSs.nox (pss_cons (ps_expr (pe_cfn (pe_gc (by rfl) (T.gv_Handler)) T.cf_Handler_init f_Handler_init (hr.mono (by decide)) b_Handler_init .nil (C8.pass0 (E := C8.E0)) (pa_cons (pv 0) (pa_cons (pv 1) pa_nil))))
      (pss_one (ps_fld (pv 0) (pv 2) rfl))), ?_⟩
    refine ⟨rfl, _, rfl, _, rfl, a, _, dx, y, mk, fy, ms, rfl, ha, hc_StreamHandler T, hy, hmk, hen, hya, emk, len, fun fl H' hfl e1 e2 e3 kk => ?_⟩
    have hfa : fl ≠ a := Ne.symm (ne_of_none ha hfl)
    have hma : mk ≠ a := ne_of emk ha (fun z => nomatch z)
    refine ⟨_, rfl, _, rfl, a, _, dx, _, rfl, e1, T.cl_StreamHandler, T.no_StreamHandler_stream, csz rfl, ?_⟩
    rw [pf_h8]
    exact k fl _ hfl upd_same (by rw [upd_ne hfa]; exact e2) (by rw [upd_ne hma]; exact e3) (kk.trans (Kp.at (.inl rfl)))
theorem mk_StreamHandler (T : Txt w K mg) : Mak P w K mg base 3 "StreamHandler" (ga K "StreamHandler") (spStreamInit K) [] := by
  obtain ⟨fd, f, F⟩ := fn_StreamHandler_init (P := P) (base := base) T
  obtain ⟨ds, hV, hB⟩ := F.binds1 (ps := ["self", "yard", "stream"]) 3 1 (fun z => nomatch z) rfl (fun _ _ _ _ _ _ _ us its h1 h2 => match us, its, h1, h2 with | [_, _, _], [_], _, _ => ⟨_, rfl, rfl⟩)
  refine ⟨_, fd, _, _, T.mk_StreamHandler, ?_, T.m_StreamHandler, hB, hV⟩
  exact f
theorem mk_NullHandler (T : Txt w K mg) : Mak P w K mg base 2 "NullHandler" (ga K "NullHandler") (spHandlerInit K) [] := by
  obtain ⟨fd, f, F⟩ := fn_Handler_init (P := P) (base := base) T
  have hB : Binds K fd ["self", "yard"] [] := F.bindsN (fun _ _ _ _ _ _ us hl => match us, hl with | [_, _], _ => rfl)
  have hV : Vals [] ([] : List Value) := .nil
  refine ⟨_, fd, _, _, T.mk_NullHandler, ?_, T.m_NullHandler, hB, hV⟩
  rw [T.in_NullHandler_init]
  exact f
theorem sc_Handler_setLevel : FnScope ["self", "level"] ["self", "level"] (defScope s_Handler_setLevel) := ⟨rfl, rfl, rfl, by decide +kernel, rfl, by decide +kernel, by decide +kernel⟩
theorem fn_Handler_setLevel (T : Txt w K mg) : ∃ fd, FnOk P w K mg base CX0 3 (ma K (ga K "Handler") "setLevel") fd ["self", "level"] (spSetLevel K) ∧ FunD K "setLevel" "Handler.setLevel" (defArgs s_Handler_setLevel) (defBody s_Handler_setLevel) (defScope s_Handler_setLevel) (He.DefD.dvs K d_Handler_setLevel) [] (ma K (ga K "Handler") "setLevel") fd := by
  obtain ⟨fd, F⟩ := T.df_Handler_setLevel
  have c_Yard_level_of := met_Yard_level_of (P := P) (base := base) T
  refine ⟨fd, F.ok sc_Handler_setLevel (fun vs H Q E h => ?_) (fun cdv A outer s H vs Q E hr h => ?_), F⟩
  · obtain ⟨_, _, _, _, _, _, _, rfl, _⟩ := h
    rfl
  · obtain ⟨a, C, dx, y, fs, fy, i, rfl, ha, hc, hy, hl, len, hly, hY, hlo, k⟩ := h
    refine ⟨_, PSs.nox (pss_one (ps_fld (pv 0) (pe_mt c_Yard_level_of hr (by decide) (pe_fld (pv 0) rfl) (pa_cons (pv 1) pa_nil)) rfl)), ?_⟩
    exact ⟨_, rfl, a, C, dx, fs, _, rfl, ha, hc, hy, hly, by obtain ⟨dy, ey⟩ := hY; exact ⟨y, dy, fy, rfl, ey, hlo, _, rfl, y, i, rfl, _, rfl, a, C, dx, fs, rfl, ha, hc, hl, len, k⟩⟩
theorem sc_Logger_setLevel : FnScope ["self", "level"] ["self", "level"] (defScope s_Logger_setLevel) := ⟨rfl, rfl, rfl, by decide +kernel, rfl, by decide +kernel, by decide +kernel⟩
theorem fn_Logger_setLevel (T : Txt w K mg) : ∃ fd, FnOk P w K mg base CX0 3 (ma K (ga K "Logger") "setLevel") fd ["self", "level"] (spSetLevel K) ∧ FunD K "setLevel" "Logger.setLevel" (defArgs s_Logger_setLevel) (defBody s_Logger_setLevel) (defScope s_Logger_setLevel) (He.DefD.dvs K d_Logger_setLevel) [] (ma K (ga K "Logger") "setLevel") fd := by
  obtain ⟨fd, F⟩ := T.df_Logger_setLevel
  have c_Yard_level_of := met_Yard_level_of (P := P) (base := base) T
  refine ⟨fd, F.ok sc_Logger_setLevel (fun vs H Q E h => ?_) (fun cdv A outer s H vs Q E hr h => ?_), F⟩
  · obtain ⟨_, _, _, _, _, _, _, rfl, _⟩ := h
    rfl
  · obtain ⟨a, C, dx, y, fs, fy, i, rfl, ha, hc, hy, hl, len, hly, hY, hlo, k⟩ := h
    refine ⟨_, PSs.nox (pss_one (ps_fld (pv 0) (pe_mt c_Yard_level_of hr (by decide) (pe_fld (pv 0) rfl) (pa_cons (pv 1) pa_nil)) rfl)), ?_⟩
    exact ⟨_, rfl, a, C, dx, fs, _, rfl, ha, hc, hy, hly, by obtain ⟨dy, ey⟩ := hY; exact ⟨y, dy, fy, rfl, ey, hlo, _, rfl, y, i, rfl, _, rfl, a, C, dx, fs, rfl, ha, hc, hl, len, k⟩⟩
theorem sc_Handler_setFormatter : FnScope ["self", "formatter"] ["self", "formatter"] (defScope s_Handler_setFormatter) := ⟨rfl, rfl, rfl, by decide +kernel, rfl, by decide +kernel, by decide +kernel⟩
theorem fn_Handler_setFormatter (T : Txt w K mg) : ∃ fd, FnOk P w K mg base CX0 1 (ma K (ga K "Handler") "setFormatter") fd ["self", "formatter"] (spSetF K "formatter") ∧ FunD K "setFormatter" "Handler.setFormatter" (defArgs s_Handler_setFormatter) (defBody s_Handler_setFormatter) (defScope s_Handler_setFormatter) (He.DefD.dvs K d_Handler_setFormatter) [] (ma K (ga K "Handler") "setFormatter") fd := by
  obtain ⟨fd, F⟩ := T.df_Handler_setFormatter
  refine ⟨fd, F.ok sc_Handler_setFormatter (fun vs H Q E h => ?_) (fun cdv A outer s H vs Q E hr h => ?_), F⟩
  · obtain ⟨_, _, _, _, _, rfl, _⟩ := h
    rfl
  · obtain ⟨a, C, dx, fs, v, rfl, ha, hc, hf, len, k⟩ := h
    refine ⟨_, PSs.nox (pss_one (ps_fld (pv 0) (pv 1) rfl)), ?_⟩
    exact ⟨_, rfl, _, rfl, a, C, dx, fs, rfl, ha, hc, hf, len, k⟩
theorem sc_Handler_setTerminator : FnScope ["self", "text"] ["self", "text"] (defScope s_Handler_setTerminator) := ⟨rfl, rfl, rfl, by decide +kernel, rfl, by decide +kernel, by decide +kernel⟩
theorem fn_Handler_setTerminator (T : Txt w K mg) : ∃ fd, FnOk P w K mg base CX0 1 (ma K (ga K "Handler") "setTerminator") fd ["self", "text"] (spSetF K "terminator") ∧ FunD K "setTerminator" "Handler.setTerminator" (defArgs s_Handler_setTerminator) (defBody s_Handler_setTerminator) (defScope s_Handler_setTerminator) (He.DefD.dvs K d_Handler_setTerminator) [] (ma K (ga K "Handler") "setTerminator") fd := by
  obtain ⟨fd, F⟩ := T.df_Handler_setTerminator
  refine ⟨fd, F.ok sc_Handler_setTerminator (fun vs H Q E h => ?_) (fun cdv A outer s H vs Q E hr h => ?_), F⟩
  · obtain ⟨_, _, _, _, _, rfl, _⟩ := h
    rfl
  · obtain ⟨a, C, dx, fs, v, rfl, ha, hc, hf, len, k⟩ := h
    refine ⟨_, PSs.nox (pss_one (ps_fld (pv 0) (pv 1) rfl)), ?_⟩
    exact ⟨_, rfl, _, rfl, a, C, dx, fs, rfl, ha, hc, hf, len, k⟩
theorem sc_Logger_setPropagate : FnScope ["self", "flag"] ["self", "flag"] (defScope s_Logger_setPropagate) := ⟨rfl, rfl, rfl, by decide +kernel, rfl, by decide +kernel, by decide +kernel⟩
theorem fn_Logger_setPropagate (T : Txt w K mg) : ∃ fd, FnOk P w K mg base CX0 1 (ma K (ga K "Logger") "setPropagate") fd ["self", "flag"] (spSetF K "propagate") ∧ FunD K "setPropagate" "Logger.setPropagate" (defArgs s_Logger_setPropagate) (defBody s_Logger_setPropagate) (defScope s_Logger_setPropagate) (He.DefD.dvs K d_Logger_setPropagate) [] (ma K (ga K "Logger") "setPropagate") fd := by
  obtain ⟨fd, F⟩ := T.df_Logger_setPropagate
  refine ⟨fd, F.ok sc_Logger_setPropagate (fun vs H Q E h => ?_) (fun cdv A outer s H vs Q E hr h => ?_), F⟩
  · obtain ⟨_, _, _, _, _, rfl, _⟩ := h
    rfl
  · obtain ⟨a, C, dx, fs, v, rfl, ha, hc, hf, len, k⟩ := h
    refine ⟨_, PSs.nox (pss_one (ps_fld (pv 0) (pv 1) rfl)), ?_⟩
    exact ⟨_, rfl, _, rfl, a, C, dx, fs, rfl, ha, hc, hf, len, k⟩
theorem sc_Logger_setDisabled : FnScope ["self", "flag"] ["self", "flag"] (defScope s_Logger_setDisabled) := ⟨rfl, rfl, rfl, by decide +kernel, rfl, by decide +kernel, by decide +kernel⟩
theorem fn_Logger_setDisabled (T : Txt w K mg) : ∃ fd, FnOk P w K mg base CX0 1 (ma K (ga K "Logger") "setDisabled") fd ["self", "flag"] (spSetF K "disabled") ∧ FunD K "setDisabled" "Logger.setDisabled" (defArgs s_Logger_setDisabled) (defBody s_Logger_setDisabled) (defScope s_Logger_setDisabled) (He.DefD.dvs K d_Logger_setDisabled) [] (ma K (ga K "Logger") "setDisabled") fd := by
  obtain ⟨fd, F⟩ := T.df_Logger_setDisabled
  refine ⟨fd, F.ok sc_Logger_setDisabled (fun vs H Q E h => ?_) (fun cdv A outer s H vs Q E hr h => ?_), F⟩
  · obtain ⟨_, _, _, _, _, rfl, _⟩ := h
    rfl
  · obtain ⟨a, C, dx, fs, v, rfl, ha, hc, hf, len, k⟩ := h
    refine ⟨_, PSs.nox (pss_one (ps_fld (pv 0) (pv 1) rfl)), ?_⟩
    exact ⟨_, rfl, _, rfl, a, C, dx, fs, rfl, ha, hc, hf, len, k⟩
theorem met_StreamHandler_setLevel (T : Txt w K mg) : Met P w K mg base 3 (ga K "StreamHandler") "setLevel" (spSetLevel K) [] := by
  obtain ⟨fd, f, F⟩ := fn_Handler_setLevel (P := P) (base := base) T
  have hB : Binds K fd ["self", "level"] [] := F.bindsN (fun _ _ _ _ _ _ us hl => match us, hl with | [_, _], _ => rfl)
  have hV : Vals [] ([] : List Value) := .nil
  refine ⟨_, fd, _, _, T.cl_StreamHandler, T.me_StreamHandler_setLevel, ?_, hB, hV⟩
  rw [T.in_StreamHandler_setLevel]
  exact f
theorem met_StreamHandler_setFormatter (T : Txt w K mg) : Met P w K mg base 1 (ga K "StreamHandler") "setFormatter" (spSetF K "formatter") [] := by
  obtain ⟨fd, f, F⟩ := fn_Handler_setFormatter (P := P) (base := base) T
  have hB : Binds K fd ["self", "formatter"] [] := F.bindsN (fun _ _ _ _ _ _ us hl => match us, hl with | [_, _], _ => rfl)
  have hV : Vals [] ([] : List Value) := .nil
  refine ⟨_, fd, _, _, T.cl_StreamHandler, T.me_StreamHandler_setFormatter, ?_, hB, hV⟩
  rw [T.in_StreamHandler_setFormatter]
  exact f
theorem met_StreamHandler_setTerminator (T : Txt w K mg) : Met P w K mg base 1 (ga K "StreamHandler") "setTerminator" (spSetF K "terminator") [] := by
  obtain ⟨fd, f, F⟩ := fn_Handler_setTerminator (P := P) (base := base) T
  have hB : Binds K fd ["self", "text"] [] := F.bindsN (fun _ _ _ _ _ _ us hl => match us, hl with | [_, _], _ => rfl)
  have hV : Vals [] ([] : List Value) := .nil
  refine ⟨_, fd, _, _, T.cl_StreamHandler, T.me_StreamHandler_setTerminator, ?_, hB, hV⟩
  rw [T.in_StreamHandler_setTerminator]
  exact f
theorem met_StreamHandler_addFilter (T : Txt w K mg) : Met P w K mg base 1 (ga K "StreamHandler") "addFilter" (spAddFilter K) [] := by
  obtain ⟨fd, f, F⟩ := fn_Filterer_addFilter (P := P) (base := base) T
  have hB : Binds K fd ["self", "one"] [] := F.bindsN (fun _ _ _ _ _ _ us hl => match us, hl with | [_, _], _ => rfl)
  have hV : Vals [] ([] : List Value) := .nil
  refine ⟨_, fd, _, _, T.cl_StreamHandler, T.me_StreamHandler_addFilter, ?_, hB, hV⟩
  rw [T.in_StreamHandler_addFilter]
  exact f
theorem met_NullHandler_setLevel (T : Txt w K mg) : Met P w K mg base 3 (ga K "NullHandler") "setLevel" (spSetLevel K) [] := by
  obtain ⟨fd, f, F⟩ := fn_Handler_setLevel (P := P) (base := base) T
  have hB : Binds K fd ["self", "level"] [] := F.bindsN (fun _ _ _ _ _ _ us hl => match us, hl with | [_, _], _ => rfl)
  have hV : Vals [] ([] : List Value) := .nil
  refine ⟨_, fd, _, _, T.cl_NullHandler, T.me_NullHandler_setLevel, ?_, hB, hV⟩
  rw [T.in_NullHandler_setLevel]
  exact f
theorem met_NullHandler_setFormatter (T : Txt w K mg) : Met P w K mg base 1 (ga K "NullHandler") "setFormatter" (spSetF K "formatter") [] := by
  obtain ⟨fd, f, F⟩ := fn_Handler_setFormatter (P := P) (base := base) T
  have hB : Binds K fd ["self", "formatter"] [] := F.bindsN (fun _ _ _ _ _ _ us hl => match us, hl with | [_, _], _ => rfl)
  have hV : Vals [] ([] : List Value) := .nil
  refine ⟨_, fd, _, _, T.cl_NullHandler, T.me_NullHandler_setFormatter, ?_, hB, hV⟩
  rw [T.in_NullHandler_setFormatter]
  exact f
theorem met_NullHandler_setTerminator (T : Txt w K mg) : Met P w K mg base 1 (ga K "NullHandler") "setTerminator" (spSetF K "terminator") [] := by
  obtain ⟨fd, f, F⟩ := fn_Handler_setTerminator (P := P) (base := base) T
  have hB : Binds K fd ["self", "text"] [] := F.bindsN (fun _ _ _ _ _ _ us hl => match us, hl with | [_, _], _ => rfl)
  have hV : Vals [] ([] : List Value) := .nil
  refine ⟨_, fd, _, _, T.cl_NullHandler, T.me_NullHandler_setTerminator, ?_, hB, hV⟩
  rw [T.in_NullHandler_setTerminator]
  exact f
theorem met_NullHandler_addFilter (T : Txt w K mg) : Met P w K mg base 1 (ga K "NullHandler") "addFilter" (spAddFilter K) [] := by
  obtain ⟨fd, f, F⟩ := fn_Filterer_addFilter (P := P) (base := base) T
  have hB : Binds K fd ["self", "one"] [] := F.bindsN (fun _ _ _ _ _ _ us hl => match us, hl with | [_, _], _ => rfl)
  have hV : Vals [] ([] : List Value) := .nil
  refine ⟨_, fd, _, _, T.cl_NullHandler, T.me_NullHandler_addFilter, ?_, hB, hV⟩
  rw [T.in_NullHandler_addFilter]
  exact f
theorem met_Logger_setLevel (T : Txt w K mg) : Met P w K mg base 3 (ga K "Logger") "setLevel" (spSetLevel K) [] := by
  obtain ⟨fd, f, F⟩ := fn_Logger_setLevel (P := P) (base := base) T
  have hB : Binds K fd ["self", "level"] [] := F.bindsN (fun _ _ _ _ _ _ us hl => match us, hl with | [_, _], _ => rfl)
  have hV : Vals [] ([] : List Value) := .nil
  refine ⟨_, fd, _, _, T.cl_Logger, T.me_Logger_setLevel, ?_, hB, hV⟩
  exact f
theorem met_Logger_setPropagate (T : Txt w K mg) : Met P w K mg base 1 (ga K "Logger") "setPropagate" (spSetF K "propagate") [] := by
  obtain ⟨fd, f, F⟩ := fn_Logger_setPropagate (P := P) (base := base) T
  have hB : Binds K fd ["self", "flag"] [] := F.bindsN (fun _ _ _ _ _ _ us hl => match us, hl with | [_, _], _ => rfl)
  have hV : Vals [] ([] : List Value) := .nil
  refine ⟨_, fd, _, _, T.cl_Logger, T.me_Logger_setPropagate, ?_, hB, hV⟩
  exact f
theorem met_Logger_setDisabled (T : Txt w K mg) : Met P w K mg base 1 (ga K "Logger") "setDisabled" (spSetF K "disabled") [] := by
  obtain ⟨fd, f, F⟩ := fn_Logger_setDisabled (P := P) (base := base) T
  have hB : Binds K fd ["self", "flag"] [] := F.bindsN (fun _ _ _ _ _ _ us hl => match us, hl with | [_, _], _ => rfl)
  have hV : Vals [] ([] : List Value) := .nil
  refine ⟨_, fd, _, _, T.cl_Logger, T.me_Logger_setDisabled, ?_, hB, hV⟩
  exact f
theorem met_Logger_addFilter (T : Txt w K mg) : Met P w K mg base 1 (ga K "Logger") "addFilter" (spAddFilter K) [] := by
  obtain ⟨fd, f, F⟩ := fn_Filterer_addFilter (P := P) (base := base) T
  have hB : Binds K fd ["self", "one"] [] := F.bindsN (fun _ _ _ _ _ _ us hl => match us, hl with | [_, _], _ => rfl)
  have hV : Vals [] ([] : List Value) := .nil
  refine ⟨_, fd, _, _, T.cl_Logger, T.me_Logger_addFilter, ?_, hB, hV⟩
  rw [T.in_Logger_addFilter]
  exact f
theorem sc_Logger_init : FnScope ["self", "yard", "name", "level"] ["self", "yard", "name", "level"] (defScope s_Logger_init) := ⟨rfl, rfl, rfl, by decide +kernel, rfl, by decide +kernel, by decide +kernel⟩
theorem fn_Logger_init (T : Txt w K mg) : ∃ fd, FnOk P w K mg base CX0 2 (ma K (ga K "Logger") "__init__") fd ["self", "yard", "name", "level"] (spLoggerInit K) ∧ FunD K "__init__" "Logger.__init__" (defArgs s_Logger_init) (defBody s_Logger_init) (defScope s_Logger_init) (He.DefD.dvs K d_Logger_init) [] (ma K (ga K "Logger") "__init__") fd := by
  obtain ⟨fd, F⟩ := T.df_Logger_init
  obtain ⟨fd0, f_Filterer_init, FF⟩ := fn_Filterer_init (P := P) (base := base) T
  have b_Filterer_init : Binds K fd0 ["self"] [] := FF.bindsN (fun _ _ _ _ _ _ us hl => match us, hl with | [_], _ => rfl)
  refine ⟨fd, F.ok sc_Logger_init (fun vs H Q E h => ?_) (fun cdv A outer s H vs Q E hr h => ?_), F⟩
  · obtain ⟨_, _, _, _, _, rfl, _⟩ := h
    rfl
  · obtain ⟨a, dx, y, nm, lv, rfl, ha, k⟩ := h
    refine ⟨_, PSs.nox (pss_cons (ps_expr (pe_cfn (pe_gc (by rfl) (T.gv_Filterer)) T.cf_Filterer_init f_Filterer_init (hr.mono (by decide)) b_Filterer_init .nil (C8.pass0 (E := C8.E0)) (pa_cons (pv 0) pa_nil)))
      (pss_cons (ps_fld (pv 0) (pv 1) rfl)
      (pss_cons (ps_fld (pv 0) (pv 2) rfl)
      (pss_cons (ps_fld (pv 0) (pv 3) rfl)
      (pss_cons (ps_fld (pv 0) pe_bl rfl)
      (pss_cons (ps_fld (pv 0) pe_bl rfl)
      (pss_cons (ps_fld (pv 0) (pe_lst pa_nil) rfl)
      (pss_one (ps_fld (pv 0) pe_non rfl))))))))), ?_⟩
    refine ⟨rfl, _, rfl, a, _, dx, rfl, ha, T.cl_Logger, T.no_Logger_filters, fun fl hfl => ?_⟩
    have hfa : fl ≠ a := Ne.symm (ne_of_none ha hfl)
    refine ⟨_, rfl, _, rfl, a, _, dx, _, rfl, upd_same, T.cl_Logger, T.no_Logger_yard, csz rfl, ?_⟩
    rw [upd_upd, pf_h2]
    refine ⟨_, rfl, _, rfl, a, _, dx, _, rfl, upd_same, T.cl_Logger, T.no_Logger_name, csz rfl, ?_⟩
    rw [upd_upd, pf_l3]
    refine ⟨_, rfl, _, rfl, a, _, dx, _, rfl, upd_same, T.cl_Logger, T.no_Logger_level, csz rfl, ?_⟩
    rw [upd_upd, pf_l4]
    refine ⟨_, rfl, a, _, dx, _, rfl, upd_same, T.cl_Logger, T.no_Logger_propagate, csz rfl, ?_⟩
    rw [upd_upd, pf_l5]
    refine ⟨_, rfl, a, _, dx, _, rfl, upd_same, T.cl_Logger, T.no_Logger_disabled, csz rfl, ?_⟩
    rw [upd_upd, pf_l6]
    refine ⟨ssz rfl, fun hl hhl => ?_⟩
    have hla : hl ≠ a := Ne.symm (ne_of_none upd_same hhl)
    have hlf0 := hhl
    rw [upd_ne hla] at hlf0
    have hlf : hl ≠ fl := Ne.symm (ne_of_none upd_same hlf0)
    have nhl : H hl = none := was_none hlf0
    refine ⟨_, rfl, a, _, dx, _, rfl, upd_at upd_same hhl, T.cl_Logger, T.no_Logger_handlers, csz rfl, ?_⟩
    rw [pf_l7]
    refine ⟨_, rfl, a, _, dx, _, rfl, upd_same, T.cl_Logger, T.no_Logger_parent, csz rfl, ?_⟩
    rw [upd_upd, pf_l8]
    refine k fl hl _ hfl nhl (Ne.symm hlf) upd_same (by rw [upd_ne hfa, upd_ne (Ne.symm hlf), upd_ne hfa, upd_same]) (by rw [upd_ne hla, upd_same]) ?_
    exact (((Kp.new (M := fun b => b = a) hfl).trans (Kp.at rfl)).trans (Kp.new hhl)).trans (Kp.at rfl)
theorem mk_Logger (T : Txt w K mg) : Mak P w K mg base 2 "Logger" (ga K "Logger") (spLoggerInit K) [] := by
  obtain ⟨fd, f, F⟩ := fn_Logger_init (P := P) (base := base) T
  have hB : Binds K fd ["self", "yard", "name", "level"] [] := F.bindsN (fun _ _ _ _ _ _ us hl => match us, hl with | [_, _, _, _], _ => rfl)
  have hV : Vals [] ([] : List Value) := .nil
  refine ⟨_, fd, _, _, T.mk_Logger, ?_, T.m_Logger, hB, hV⟩
  exact f
theorem sc_Logger_addHandler : FnScope ["self", "handler"] ["self", "handler"] (defScope s_Logger_addHandler) := ⟨rfl, rfl, rfl, by decide +kernel, rfl, by decide +kernel, by decide +kernel⟩
theorem fn_Logger_addHandler (T : Txt w K mg) : ∃ fd, FnOk P w K mg base CX0 1 (ma K (ga K "Logger") "addHandler") fd ["self", "handler"] (spAddHandler K) ∧ FunD K "addHandler" "Logger.addHandler" (defArgs s_Logger_addHandler) (defBody s_Logger_addHandler) (defScope s_Logger_addHandler) (He.DefD.dvs K d_Logger_addHandler) [] (ma K (ga K "Logger") "addHandler") fd := by
  obtain ⟨fd, F⟩ := T.df_Logger_addHandler
  refine ⟨fd, F.ok sc_Logger_addHandler (fun vs H Q E h => ?_) (fun cdv A outer s H vs Q E hr h => ?_), F⟩
  · obtain ⟨_, _, _, _, _, _, rfl, _⟩ := h
    rfl
  · obtain ⟨a, dx, hl, o, fs, ps, rfl, ha, hh, ehl, co, cps, ho, len, k⟩ := h
    refine ⟨_, PSs.nox (pss_one (ps_if (pt_cmpR (RyR.op_notInI hr.units) (pv 1) (pe_fld (pv 0) rfl) rfl)
        (pss_one (ps_expr (pe_bm PySem.F.plainAttrs_list PySem.F.slot_list_append PySem.F.type_list_append mt_append (pe_fld (pv 0) rfl) (pa_cons (pv 1) pa_nil))))
        pss_nil)), ?_⟩
    refine ⟨_, rfl, _, rfl, a, _, dx, fs, _, rfl, ha, T.cl_Logger, T.no_Logger_handlers, hh, ?_⟩
    refine ⟨hl, o, ps, rfl, rfl, SqL.of ehl, co, cps, _, rfl, ?_⟩
    rw [if_pos rfl, decide_eq_false ho]
    refine iteT ?_
    refine ⟨_, rfl, a, _, dx, fs, _, rfl, ha, T.cl_Logger, T.no_Logger_handlers, hh, .inl ⟨rfl, _, SqL.of ehl⟩, ?_⟩
    refine ⟨_, rfl, hl, _, _, rfl, rfl, ehl, by rw [List.length_map, sizeLine_eq]; omega, ?_⟩
    rw [List.map_append] at k
    exact k
theorem met_Logger_addHandler (T : Txt w K mg) : Met P w K mg base 1 (ga K "Logger") "addHandler" (spAddHandler K) [] := by
  obtain ⟨fd, f, F⟩ := fn_Logger_addHandler (P := P) (base := base) T
  have hB : Binds K fd ["self", "handler"] [] := F.bindsN (fun _ _ _ _ _ _ us hl => match us, hl with | [_, _], _ => rfl)
  have hV : Vals [] ([] : List Value) := .nil
  refine ⟨_, fd, _, _, T.cl_Logger, T.me_Logger_addHandler, ?_, hB, hV⟩
  exact f
end
end Ry
namespace Ry
open PySem PySem.Spec PyProof.Rows L2 He RyH
open C8 (pss_cut tCut Cal Met Mak pe_c pe_mk pe_mt pe_mt0 pe_gc)
/-! ### texts as lists -/
def tx (l : List Nat) : Str := ⟨l.toArray⟩
theorem tx_len (l : List Nat) : (tx l).length = l.length := by
  show l.toArray.size = _
  simp
theorem tx_list (l : List Nat) : (tx l).cps.toList = l := by simp [tx]
theorem tx_of (z : Str) : z = tx z.cps.toList := by
  unfold tx
  rw [Array.toArray_toList]
theorem cut_mid (a b c : List Nat) : cutS (tx (a ++ b ++ c)) (some ((a.length : Nat) : Int)) (some ((a.length + b.length : Nat) : Int)) = tx b := by
  unfold cutS
  rw [HT.sIx_nat, HT.sIx_nat, tx_len, tx_list]
  have e1 : min a.length (a ++ b ++ c).length = a.length := by rw [List.length_append, List.length_append]; omega
  have e2 : min (a.length + b.length) (a ++ b ++ c).length - a.length = b.length := by rw [List.length_append, List.length_append]; omega
  rw [e1, e2, List.append_assoc, List.drop_left, List.take_left]
  rfl
theorem cut_pre (b c : List Nat) : cutS (tx (b ++ c)) none (some ((b.length : Nat) : Int)) = tx b := by
  unfold cutS
  rw [HT.sIx_nat, HT.sIx_none, tx_len, tx_list]
  have e2 : min b.length (b ++ c).length - 0 = b.length := by simp
  rw [e2, List.drop_zero, List.take_left]
  rfl
theorem cut_post (b c : List Nat) : cutS (tx (b ++ c)) (some ((b.length : Nat) : Int)) none = tx c := by
  unfold cutS
  rw [HT.sIx_nat, HT.sIx_none, tx_len, tx_list]
  have e1 : min b.length (b ++ c).length = b.length := by simp
  have e2 : (b ++ c).length - b.length = c.length := by simp
  rw [e1, e2, List.drop_left, List.take_length]
  rfl
theorem at_mid (a c : List Nat) (x : Nat) : atI (tx (a ++ x :: c)).cps.toList ((a.length : Nat) : Int) = some x := by
  rw [tx_list]
  exact atI_nat (by simp)
/-- an int in a slot -/
def slotI (σ : L2.St) (i : Nat) : Int := match σ[i]? with
  | some (some (V.int j)) => j
  | _ => 0
/-! ### names in formats -/
def isIn (L : Str) (c : Nat) : Bool := !(Builtin.Str.occurrences L ⟨#[c]⟩ 0 L.length 1).isEmpty
def letters : Str := "abcdefghijklmnopqrstuvwxyzABCDEFGHIJKLMNOPQRSTUVWXYZ_"
def digits : Str := "0123456789"
def stopB (r : List Nat) : Bool := match r with
  | [] => true
  | c :: _ => !isIn letters c && !isIn digits c
def spNameEnd : Sp := fun vs H Q _ => ∃ (a nm r : List Nat), vs = [.str (tx (a ++ nm ++ r)), .int ((a.length : Nat) : Int)] ∧ (a ++ nm ++ r).length ≤ 10000 ∧ (∀ c ∈ nm, isIn letters c = true) ∧ stopB r = true ∧ Q (.int ((a.length + nm.length : Nat) : Int)) H
/-- a field without more -/
abbrev fdF (nm : Str) : List (Str × V) := [("name", .str nm), ("conversion", .str ""), ("fill", .str " "), ("align", .str ""), ("width", .int 0)]
def spFieldInit (K : PySem.W.Frag) : Sp := fun vs H Q _ => ∃ (a dx : Addr) (v1 v2 v3 v4 v5 : V), vs = [.ref a, v1, v2, v3, v4, v5] ∧ H a = some (.ins (ga K "Field") dx []) ∧ Q .non (upd H a (.ins (ga K "Field") dx ([("name", v1), ("conversion", v2), ("fill", v3), ("align", v4), ("width", v5)] : List (Str × V))))
theorem pf_f2 (a b : V) : putF "conversion" b [("name", a)] = ([("name", a), ("conversion", b)] : List (Str × V)) := by kernel_rfl
theorem pf_f3 (a b c : V) : putF "fill" c [("name", a), ("conversion", b)] = ([("name", a), ("conversion", b), ("fill", c)] : List (Str × V)) := by kernel_rfl
theorem pf_f4 (a b c d : V) : putF "align" d [("name", a), ("conversion", b), ("fill", c)] = ([("name", a), ("conversion", b), ("fill", c), ("align", d)] : List (Str × V)) := by kernel_rfl
theorem pf_f5 (a b c d e : V) : putF "width" e [("name", a), ("conversion", b), ("fill", c), ("align", d)] = ([("name", a), ("conversion", b), ("fill", c), ("align", d), ("width", e)] : List (Str × V)) := by kernel_rfl
/-- a Field of that name, new -/
def FldAt (K : PySem.W.Frag) (H : Hp) (v : V) (nm : List Nat) : Prop := ∃ a dx, v = .ref a ∧ H a = some (.ins (ga K "Field") dx (fdF (tx nm)))
def spFieldOf (K : PySem.W.Frag) : Sp := fun vs H Q _ => ∃ (nm : List Nat), vs = [.str (tx nm)] ∧ nm ≠ [] ∧ nm.length ≤ 9000 ∧ (∀ c ∈ nm, isIn letters c = true) ∧ ∀ v H', FldAt K H' v nm → Same H H' → Q v H'
section
variable {P : Program} {w : World} {K : PySem.W.Frag} {mg : Str → Option Value} {base : Heap}
theorem sc_name_end : FnScope ["text", "start", "end"] ["text", "start"] (defScope s_name_end) := ⟨rfl, rfl, rfl, by decide +kernel, rfl, by decide +kernel, by decide +kernel⟩
theorem cal_name_end (T : Txt w K mg) : Cal P w K mg base 1 "name_end" (spNameEnd) [] := by
  obtain ⟨fd, F⟩ := T.df_name_end
  refine ⟨_, fd, ["text", "start"], [], F.ok sc_name_end (fun vs H Q E h => ?_) (fun cdv A outer s H vs Q E hr h => ?_), T.m_name_end, F.kp, F.bindsN (fun _ _ _ _ _ _ us hl => match us, hl with | [_, _], _ => rfl), .nil⟩
  · obtain ⟨_, _, _, rfl, _⟩ := h
    rfl
  · obtain ⟨a, nm, r, rfl, hz, hn, hst, k⟩ := h
    refine ⟨_, PSs.nox (pss_cons (ps_set (i := 2) sc_name_end.nd rfl (Or.inl rfl) (pv 1))
      (pss_cons (ps_while PassesOwn.never (PW.pt (pw_and (pt_cmpR op_lt (pv 2) (pe_callB (id := "len") call_len_str (by rfl) T.f_len PySem.boot_len (pa_cons (pv 0) pa_nil)) (nomark _)) (pw_and1 (PW.pt (pw_or (pt_cmpR op_in_str (pe_ix ix_str (pv 0) (pv 2) (fun _ _ => rfl)) (pe_gc (by rfl) (T.c_LETTERS)) rfl) (pw_or1 (PW.pt (pw_and (pt_cmpR op_gt (pv 2) (pv 1) (nomark _)) (pw_and1 (pt_cmpR op_in_str (pe_ix ix_str (pv 0) (pv 2) (fun _ _ => rfl)) (pe_gc (by rfl) (T.c_DIGITS)) rfl))))))))))
        (pss_one (ps_aug (i := 2) sc_name_end.nd rfl (Or.inl rfl) pe_int ip_add)))
      (pss_one (ps_ret (pv 2))))), ?_⟩
    refine ⟨_, rfl, ?_⟩
    refine ⟨fun n σ' H' => H' = H ∧ ∃ b c : List Nat, nm = b ++ c ∧ n = c.length ∧ σ' = [some (.str (tx (a ++ nm ++ r))), some (.int ((a.length : Nat) : Int)), some (.int ((a.length + b.length : Nat) : Int))], ⟨_, rfl, [], nm, rfl, rfl, rfl⟩, ?_⟩
    rintro n σ' H' ⟨rfl, b, c, e, rfl, rfl⟩
    refine ⟨_, rfl, ?_⟩
    refine ⟨_, rfl, ?_⟩
    refine ⟨_, rfl, by rw [tx_len, sizeLine_eq]; omega, ?_⟩
    refine ⟨_, _, rfl, rfl, _, rfl, ?_⟩
    rw [tx_len]
    have hl : (a ++ nm ++ r).length = a.length + nm.length + r.length := by rw [List.length_append, List.length_append]
    have hbc : nm.length = b.length + c.length := by rw [e, List.length_append]
    cases c with
    | cons x c =>
      have hx : isIn letters x = true := hn x (by rw [e]; exact List.mem_append_right _ (List.mem_cons_self ..))
      have et : a ++ nm ++ r = (a ++ b) ++ x :: (c ++ r) := by rw [e]; simp
      rw [show decide (((a.length + b.length : Nat) : Int) < (((a ++ nm ++ r).length : Nat) : Int)) = true from decide_eq_true (by rw [hl]; rw [List.length_cons] at hbc; omega)]
      refine iteT ?_
      refine ⟨_, rfl, ?_⟩
      refine ⟨_, rfl, ?_⟩
      refine ⟨_, _, x, rfl, rfl, by rw [tx_len, sizeLine_eq]; omega, by rw [et, ← List.length_append]; exact at_mid _ _ _, ?_⟩
      refine ⟨_, _, rfl, rfl, true, congrArg V.bl hx, ?_⟩
      refine iteT ?_
      refine iteT ?_
      refine ⟨_, fun σ' H' h => ⟨c.length, Nat.lt_succ_self _, h⟩, ?_⟩
      refine ⟨_, rfl, _, _, rfl, rfl, ?_⟩
      refine ⟨rfl, b ++ [x], c, by rw [e]; simp, rfl, ?_⟩
      rw [show ((a.length + (b ++ [x]).length : Nat) : Int) = ((a.length + b.length : Nat) : Int) + 1 by rw [List.length_append, List.length_singleton]; omega]
      rfl
    | nil =>
      have e0 : nm = b := by rw [e, List.append_nil]
      subst e0
      clear hbc
      cases r with
      | nil =>
        rw [show decide (((a.length + nm.length : Nat) : Int) < (((a ++ nm ++ ([] : List Nat)).length : Nat) : Int)) = false from decide_eq_false (by rw [hl, List.length_nil]; omega)]
        refine iteF ?_
        exact ⟨_, rfl, k⟩
      | cons x r =>
        obtain ⟨x1, x2⟩ := ba (show (!isIn letters x && !isIn digits x) = true from hst)
        have y1 : isIn letters x = false := by simpa using x1
        have y2 : isIn digits x = false := by simpa using x2
        rw [show decide (((a.length + nm.length : Nat) : Int) < (((a ++ nm ++ x :: r).length : Nat) : Int)) = true from decide_eq_true (by rw [hl, List.length_cons]; omega)]
        refine iteT ?_
        refine ⟨_, rfl, ?_⟩
        refine ⟨_, rfl, ?_⟩
        have ha : atI (tx (a ++ nm ++ x :: r)).cps.toList (((a.length + nm.length : Nat)) : Int) = some x := by rw [← List.length_append]; exact at_mid _ _ _
        refine ⟨_, _, x, rfl, rfl, by rw [tx_len, sizeLine_eq]; omega, ha, ?_⟩
        refine ⟨_, _, rfl, rfl, false, congrArg V.bl y1, ?_⟩
        refine iteF ?_
        refine ⟨_, rfl, ?_⟩
        refine ⟨_, rfl, ?_⟩
        refine ⟨_, _, rfl, rfl, _, rfl, ?_⟩
        refine ite2 (fun _ => ?_) (fun _ => ?_)
        · refine ⟨_, rfl, ?_⟩
          refine ⟨_, rfl, ?_⟩
          refine ⟨_, _, x, rfl, rfl, by rw [tx_len, sizeLine_eq]; omega, ha, ?_⟩
          refine ⟨_, _, rfl, rfl, false, congrArg V.bl y2, ?_⟩
          refine iteF ?_
          exact ⟨_, rfl, k⟩
        · refine iteF ?_
          exact ⟨_, rfl, k⟩
theorem sc_Field_init : FnScope ["self", "name", "conversion", "fill", "align", "width"] ["self", "name", "conversion", "fill", "align", "width"] (defScope s_Field_init) := ⟨rfl, rfl, rfl, by decide +kernel, rfl, by decide +kernel, by decide +kernel⟩
theorem fn_Field_init (T : Txt w K mg) : ∃ fd, FnOk P w K mg base CX0 1 (ma K (ga K "Field") "__init__") fd ["self", "name", "conversion", "fill", "align", "width"] (spFieldInit K) ∧ FunD K "__init__" "Field.__init__" (defArgs s_Field_init) (defBody s_Field_init) (defScope s_Field_init) (He.DefD.dvs K d_Field_init) [] (ma K (ga K "Field") "__init__") fd := by
  obtain ⟨fd, F⟩ := T.df_Field_init
  refine ⟨fd, F.ok sc_Field_init (fun vs H Q E h => ?_) (fun cdv A outer s H vs Q E hr h => ?_), F⟩
  · obtain ⟨_, _, _, _, _, _, _, rfl, _⟩ := h
    rfl
  · obtain ⟨a, dx, v1, v2, v3, v4, v5, rfl, ha, k⟩ := h
    refine ⟨_, PSs.nox (pss_cons (ps_fld (pv 0) (pv 1) rfl)
      (pss_cons (ps_fld (pv 0) (pv 2) rfl)
      (pss_cons (ps_fld (pv 0) (pv 3) rfl)
      (pss_cons (ps_fld (pv 0) (pv 4) rfl)
      (pss_one (ps_fld (pv 0) (pv 5) rfl)))))), ?_⟩
    refine ⟨_, rfl, _, rfl, a, _, dx, _, rfl, ha, T.cl_Field, T.no_Field_name, csz rfl, ?_⟩
    refine ⟨_, rfl, _, rfl, a, _, dx, _, rfl, upd_same, T.cl_Field, T.no_Field_conversion, csz rfl, ?_⟩
    rw [upd_upd, show putF "name" v1 ([] : List (Str × V)) = ([("name", v1)] : List (Str × V)) from rfl, pf_f2]
    refine ⟨_, rfl, _, rfl, a, _, dx, _, rfl, upd_same, T.cl_Field, T.no_Field_fill, csz rfl, ?_⟩
    rw [upd_upd, pf_f3]
    refine ⟨_, rfl, _, rfl, a, _, dx, _, rfl, upd_same, T.cl_Field, T.no_Field_align, csz rfl, ?_⟩
    rw [upd_upd, pf_f4]
    refine ⟨_, rfl, _, rfl, a, _, dx, _, rfl, upd_same, T.cl_Field, T.no_Field_width, csz rfl, ?_⟩
    rw [upd_upd, pf_f5]
    exact k
theorem mk_Field2 (T : Txt w K mg) : Mak P w K mg base 1 "Field" (ga K "Field") (spFieldInit K) [(.str " "), (.str ""), (.int (0))] := by
  obtain ⟨fd, f, F⟩ := fn_Field_init (P := P) (base := base) T
  obtain ⟨ds, hV, hB⟩ := F.binds1 (ps := ["self", "name", "conversion", "fill", "align", "width"]) 3 1 (fun z => nomatch z) rfl (fun _ _ _ _ _ _ _ us its h1 h2 => match us, its, h1, h2 with | [_, _, _], [_, _, _, _], _, _ => ⟨_, rfl, rfl⟩)
  refine ⟨_, fd, _, _, T.mk_Field, ?_, T.m_Field, hB, hV⟩
  exact f
theorem mk_Field1 (T : Txt w K mg) : Mak P w K mg base 1 "Field" (ga K "Field") (spFieldInit K) [(.str ""), (.str " "), (.str ""), (.int (0))] := by
  obtain ⟨fd, f, F⟩ := fn_Field_init (P := P) (base := base) T
  obtain ⟨ds, hV, hB⟩ := F.binds1 (ps := ["self", "name", "conversion", "fill", "align", "width"]) 2 0 (fun z => nomatch z) rfl (fun _ _ _ _ _ _ _ us its h1 h2 => match us, its, h1, h2 with | [_, _], [_, _, _, _], _, _ => ⟨_, rfl, rfl⟩)
  refine ⟨_, fd, _, _, T.mk_Field, ?_, T.m_Field, hB, hV⟩
  exact f
theorem sc_field_of : FnScope ["body", "end", "name", "rest", "conversion", "spec"] ["body"] (defScope s_field_of) := ⟨rfl, rfl, rfl, by decide +kernel, rfl, by decide +kernel, by decide +kernel⟩
theorem cal_field_of (T : Txt w K mg) : Cal P w K mg base 3 "field_of" (spFieldOf K) [] := by
  obtain ⟨fd, F⟩ := T.df_field_of
  have c_name_end := cal_name_end (P := P) (base := base) T
  have c_mk_Field := mk_Field2 (P := P) (base := base) T
  refine ⟨_, fd, ["body"], [], F.ok sc_field_of (fun vs H Q E h => ?_) (fun cdv A outer s H vs Q E hr h => ?_), T.m_field_of, F.kp, F.bindsN (fun _ _ _ _ _ _ us hl => match us, hl with | [_], _ => rfl), .nil⟩
  · obtain ⟨_, rfl, _⟩ := h
    rfl
  · obtain ⟨nm, rfl, hne, hl, hn, k⟩ := h
    refine ⟨_, PSs.nox (pss_cons (ps_set (i := 1) sc_field_of.nd rfl (Or.inl rfl) (pe_c c_name_end hr (by decide) (by rfl) (pa_cons (pv 0) (pa_cons pe_int pa_nil))))
      (pss_cons (ps_par3 (i := 2) (j := 3) (l := 4) (by rfl) sc_field_of.nd rfl rfl rfl (by decide) (by decide) (by decide) rfl rfl rfl (pa_cons (pe_slice sl_str (pv 0) po_none (po_some (pv 1))) (pa_cons (pe_slice sl_str (pv 0) (po_some (pv 1)) po_none) (pa_cons pe_str pa_nil))) (by rfl))
      (pss_cons (ps_if (pt_cmpR op_in_seq (pe_slice sl_str (pv 3) po_none (po_some pe_int)) (pe_tup (pa_cons pe_str (pa_cons pe_str pa_nil))) rfl)
        (pss_one ps_never)
        pss_nil)
      (pss_cons (ps_if (PW.pt (pw_or (pt_cmpR op_eq (pv 2) pe_str (nomark _)) (pw_or1 (PW.pt (pw_and (pt_cmpR op_ne (pv 3) pe_str (nomark _)) (pw_and1 (pt_cmpR op_ne (pe_ix ix_str (pv 3) pe_int (fun _ _ => rfl)) pe_str (nomark _))))))))
        (pss_one ps_never)
        pss_nil)
      (pss_cons (ps_if (pt_cmpR op_eq (pv 3) pe_str (nomark _))
        (pss_one (ps_ret (pe_mk c_mk_Field hr (by decide) (by rfl) (pa_cons (pv 2) (pa_cons (pv 4) pa_nil)))))
        pss_nil)
      (pss_cons ps_never
      (pss_one ps_never))))))), ?_⟩
    refine ⟨_, rfl, ?_⟩
    refine ⟨[], nm, [], by simp, by simp; omega, hn, rfl, ?_⟩
    rw [show ((([] : List Nat).length + nm.length : Nat) : Int) = ((nm.length : Nat) : Int) by rw [List.length_nil, Nat.zero_add]]
    have hz : (tx nm).length ≤ sizeLine := by rw [tx_len, sizeLine_eq]; omega
    refine ⟨_, rfl, _, rfl, _, rfl, _, rfl, hz, ?_⟩
    refine ⟨_, rfl, _, rfl, _, rfl, _, rfl, hz, ?_⟩
    have e1 : cutS (tx nm) none (some ((nm.length : Nat) : Int)) = tx nm := by
      have z := cut_pre nm []
      rwa [List.append_nil] at z
    have e2 : cutS (tx nm) (some ((nm.length : Nat) : Int)) none = tx [] := by
      have z := cut_post nm []
      rwa [List.append_nil] at z
    rw [e1, e2]
    refine ⟨_, _, _, rfl, ?_⟩
    -- rest[:2] in ..
    refine ⟨_, rfl, _, rfl, _, rfl, ssz rfl, ssz rfl, fun t ht => ?_⟩
    refine ⟨t, _, rfl, .inr (SqT.of upd_same), rfl, rfl, false, congrArg V.bl (by decide +kernel), iteF ?_⟩
    -- name == '' ..
    have en : decide (V.str (tx nm) = V.str "") = false := decide_eq_false fun z => by
      have z2 := V.str.inj z
      have z3 : (tx nm).cps.toList = [] := by rw [z2]; rfl
      rw [tx_list] at z3
      exact hne z3
    refine ⟨_, rfl, rfl, false, congrArg V.bl en, iteF ?_⟩
    refine ⟨_, rfl, rfl, false, congrArg V.bl (by decide +kernel), iteF ?_⟩
    refine iteF ?_
    -- rest == ''
    refine ⟨_, rfl, rfl, true, congrArg V.bl (by decide +kernel), iteT ?_⟩
    refine ⟨_, rfl, _, rfl, fun x dx hx hdx hne2 => ?_⟩
    refine ⟨x, dx, _, _, _, _, _, rfl, upd_same, rfl, ?_⟩
    rw [upd_upd]
    refine k _ _ ⟨x, dx, rfl, upd_same⟩ ?_
    exact Same.tr (Same.nw ht) (Same.tr (Same.nw hdx) (Same.nw (by rw [upd_ne hne2.symm]; exact hx)))
end
end Ry
namespace Ry
open PySem PySem.Spec PyProof.Rows L2 He RyH
open C8 (pss_cut tCut Cal Met Mak pe_c pe_mk pe_mt pe_mt0 pe_gc)
/-! ### formats as tokens -/
inductive Tk where
  | ch (c : Nat) | fld (nm : List Nat)
def Tk.ok : Tk → Prop
  | .ch _ => True
  | .fld nm => nm ≠ [] ∧ ∀ c ∈ nm, isIn letters c = true
def escB (c : Nat) : List Nat := if c = 123 then [123, 123] else if c = 125 then [125, 125] else [c]
def encB : Tk → List Nat
  | .ch c => escB c
  | .fld nm => 123 :: (nm ++ [125])
def TkAt (K : PySem.W.Frag) (H : Hp) (v : V) : Tk → Prop
  | .ch c => v = .str (tx [c])
  | .fld nm => FldAt K H v nm
theorem FldAt.same {K : PySem.W.Frag} {H H' : Hp} {v : V} {nm : List Nat} (h : FldAt K H v nm) (k : Same H H') : FldAt K H' v nm := by
  obtain ⟨a, dx, e, q⟩ := h
  exact ⟨a, dx, e, k _ _ q⟩
theorem TkAt.same {K : PySem.W.Frag} {H H' : Hp} {v : V} {t : Tk} (h : TkAt K H v t) (k : Same H H') : TkAt K H' v t := by
  cases t with
  | ch c => exact h
  | fld nm => exact FldAt.same h k
def spParts (K : PySem.W.Frag) (enc : Tk → List Nat) : Sp := fun vs H Q _ => ∃ (ts : List Tk), vs = [.str (tx (ts.flatMap enc))] ∧ (ts.flatMap enc).length ≤ 5000 ∧ (∀ t ∈ ts, t.ok) ∧
  ∀ p us H', H p = none → H' p = some (.lst us) → Paired (TkAt K H') us ts → Same H H' → Q (.ref p) H'
theorem letter_ne {c d : Nat} (h : isIn letters c = true) (hd : isIn letters d = false) : c ≠ d := fun z => by rw [z, hd] at h; cases h
theorem l123 : isIn letters 123 = false := by decide +kernel
theorem l125 : isIn letters 125 = false := by decide +kernel
theorem l36 : isIn letters 36 = false := by decide +kernel
theorem tx_inj {a b : List Nat} (h : tx a = tx b) : a = b := by
  have := congrArg (fun z : Str => z.cps.toList) h
  simpa [tx_list] using this
theorem str_beq (l m : List Nat) : ((tx l) == (tx m)) = decide (l = m) := by
  by_cases e : l = m
  · subst e
    simp
  · rw [decide_eq_false e]
    exact beq_eq_false_iff_ne.mpr fun z => e (tx_inj z)
theorem in_two (l a b : List Nat) : inV (.str (tx l)) [.str (tx a), .str (tx b)] = (decide (a = l) || decide (b = l)) := by
  show ((tx a == tx l) || ((tx b == tx l) || false)) = _
  rw [str_beq, str_beq, Bool.or_false]
theorem cut2 (a r : List Nat) : cutS (tx (a ++ r)) (some ((a.length : Nat) : Int)) (some (((a.length : Nat) : Int) + 2)) = tx (r.take 2) := by
  have e : (((a.length : Nat) : Int) + 2) = ((a.length + 2 : Nat) : Int) := by omega
  rw [e]
  unfold cutS
  rw [HT.sIx_nat, HT.sIx_nat, tx_len, tx_list, List.length_append]
  have e1 : min a.length (a.length + r.length) = a.length := by omega
  have e2 : min (a.length + 2) (a.length + r.length) - a.length = min 2 r.length := by omega
  rw [e1, e2, List.drop_left]
  show tx _ = tx _
  congr 1
  rcases Nat.le_total 2 r.length with h | h
  · rw [Nat.min_eq_left h]
  · rw [Nat.min_eq_right h, List.take_length, List.take_of_length_le h]
theorem find_brace (a nm r : List Nat) (hn : ∀ c ∈ nm, c ≠ 125) : Txt.find3 (tx (a ++ 123 :: (nm ++ 125 :: r))) (tx [125]) ((a.length : Nat) : Int) = ((a.length + 1 + nm.length : Nat) : Int) := by
  have hg : ∀ v, (tx (a ++ 123 :: (nm ++ 125 :: r))).cps.getD v 0 = (a ++ 123 :: (nm ++ 125 :: r)).getD v 0 := fun v => by
    unfold tx
    simp [Array.getD_eq_getD_getElem?, List.getD_eq_getElem?_getD]
  have hp : (a ++ 123 :: (nm ++ 125 :: r)).getD (a.length + 1 + nm.length) 0 = 125 := by
    rw [List.getD_eq_getElem?_getD, show a ++ 123 :: (nm ++ 125 :: r) = (a ++ 123 :: nm) ++ 125 :: r by simp, List.getElem?_append_right (by simp; omega)]
    have e : a.length + 1 + nm.length - (a ++ 123 :: nm).length = 0 := by simp; omega
    rw [e]
    rfl
  have hlt : ∀ v, a.length ≤ v → v < a.length + 1 + nm.length → (a ++ 123 :: (nm ++ 125 :: r)).getD v 0 ≠ 125 := fun v h1 h2 => by
    rw [List.getD_eq_getElem?_getD, List.getElem?_append_right h1]
    obtain ⟨j, hj⟩ : ∃ j, v - a.length = j := ⟨_, rfl⟩
    rw [hj]
    cases j with
    | zero => simp
    | succ j =>
      rw [List.getElem?_cons_succ, List.getElem?_append_left (by omega)]
      have hjl : j < nm.length := by omega
      rw [List.getElem?_eq_getElem hjl]
      exact hn _ (List.getElem_mem hjl)
  have hf : PySem.fromIndex (tx (a ++ 123 :: (nm ++ 125 :: r))).length ((a.length : Nat) : Int) = a.length := by
    unfold PySem.fromIndex
    rw [if_neg (by omega)]
    omega
  have hl : (tx (a ++ 123 :: (nm ++ 125 :: r))).length = a.length + 1 + nm.length + 1 + r.length := by
    rw [tx_len]
    simp
    omega
  rcases PySem.StrLaws.find3_spec (tx (a ++ 123 :: (nm ++ 125 :: r))) 125 ((a.length : Nat) : Int) with ⟨_, h⟩ | ⟨k, h1, h2, h3, h4, h5⟩
  · exact absurd (by rw [hg]; exact hp) (h (a.length + 1 + nm.length) (by rw [hf]; omega) (by rw [hl]; omega))
  · rw [hf] at h2 h5
    rw [hg] at h4
    have : k = a.length + 1 + nm.length := by
      rcases Nat.lt_trichotomy k (a.length + 1 + nm.length) with z | z | z
      · exact absurd h4 (hlt k h2 z)
      · exact z
      · exact absurd (by rw [hg]; exact hp) (h5 (a.length + 1 + nm.length) (by omega) z)
    rw [← this]
    exact h1
theorem in_brk (l : List Nat) : inV (.str (tx l)) [.str "{{", .str "}}"] = (decide ([123, 123] = l) || decide ([125, 125] = l)) := in_two l [123, 123] [125, 125]
theorem in_br1 (l : List Nat) : inV (.str (tx l)) [.str "{", .str "}"] = (decide ([123] = l) || decide ([125] = l)) := in_two l [123] [125]
theorem encB_pos (t : Tk) : 1 ≤ (encB t).length := by
  cases t with
  | ch c =>
    show 1 ≤ (escB c).length
    unfold escB
    split
    · simp
    · split <;> simp
  | fld nm => simp [encB]
theorem dlen_le {enc : Tk → List Nat} : ∀ dn : List Tk, (∀ t ∈ dn, 1 ≤ (enc t).length) → dn.length ≤ (dn.flatMap enc).length
  | [], _ => Nat.le_refl _
  | t :: dn, h => by
    have h1 := h t (List.mem_cons_self ..)
    have h2 := dlen_le dn fun x hx => h x (List.mem_cons_of_mem _ hx)
    rw [List.flatMap_cons, List.length_append, List.length_cons]
    omega
theorem Paired.snoc' {α β : Type} {F : α → β → Prop} {x : α} {y : β} (h : F x y) : ∀ {xs : List α} {ys : List β}, Paired F xs ys → Paired F (xs ++ [x]) (ys ++ [y])
  | _, _, .nil => .cons h .nil
  | _, _, .cons r t => .cons r (Paired.snoc' h t)
/-- the list of parts is written -/
theorem TkAt.upd {K : PySem.W.Frag} {H : Hp} {v : V} {t : Tk} {p : Addr} {xs ys : List V} (h : TkAt K H v t) (hp : H p = some (.lst xs)) : TkAt K (L2.upd H p (.lst ys)) v t := by
  cases t with
  | ch c => exact h
  | fld nm =>
    obtain ⟨a, dx, e, q⟩ := h
    exact ⟨a, dx, e, by rw [upd_ne (ne_of q hp (fun z => nomatch z))]; exact q⟩
section
variable {P : Program} {w : World} {K : PySem.W.Frag} {mg : Str → Option Value} {base : Heap}
theorem sc_parts_of_braces : FnScope ["fmt", "found", "at", "end", "part"] ["fmt"] (defScope s_parts_of_braces) := ⟨rfl, rfl, rfl, by decide +kernel, rfl, by decide +kernel, by decide +kernel⟩
theorem cal_parts_of_braces (T : Txt w K mg) : Cal P w K mg base 4 "parts_of_braces" (spParts K encB) [] := by
  obtain ⟨fd, F⟩ := T.df_parts_of_braces
  have c_field_of := cal_field_of (P := P) (base := base) T
  refine ⟨_, fd, ["fmt"], [], F.ok sc_parts_of_braces (fun vs H Q E h => ?_) (fun cdv A outer s H vs Q E hr h => ?_), T.m_parts_of_braces, F.kp, F.bindsN (fun _ _ _ _ _ _ us hl => match us, hl with | [_], _ => rfl), .nil⟩
  · obtain ⟨_, rfl, _⟩ := h
    rfl
  · obtain ⟨ts, rfl, hl, hok, k⟩ := h
    refine ⟨_, PSs.nox (pss_cons (ps_par (i := 1) (j := 2) (by rfl) sc_parts_of_braces.nd rfl rfl (by decide) rfl rfl (pa_cons (pe_lst pa_nil) (pa_cons pe_int pa_nil)) (by rfl))
      (pss_cons (ps_while PassesOwn.never (pt_cmpR op_lt (pv 2) (pe_callB (id := "len") call_len_str (by rfl) T.f_len PySem.boot_len (pa_cons (pv 0) pa_nil)) (nomark _))
        (pss_cons (ps_par (i := 3) (j := 4) (by rfl) sc_parts_of_braces.nd rfl rfl (by decide) rfl rfl (pa_cons (pe_op op_add (pv 2) pe_int) (pa_cons (pe_ix ix_str (pv 0) (pv 2) (fun _ _ => rfl)) pa_nil)) (by rfl))
        (pss_cut (ps_if (pt_cmpR op_in_seq (pe_slice sl_str (pv 0) (po_some (pv 2)) (po_some (pe_op op_add (pv 2) pe_int))) (pe_tup (pa_cons pe_str (pa_cons pe_str pa_nil))) rfl)
          (pss_one (ps_set (i := 3) sc_parts_of_braces.nd rfl (Or.inl rfl) (pe_op op_add (pv 2) pe_int)))
          (pss_one (ps_if (pt_cmpR op_in_seq (pv 4) (pe_tup (pa_cons pe_str (pa_cons pe_str pa_nil))) rfl)
            (pss_cons (ps_set (i := 3) sc_parts_of_braces.nd rfl (Or.inl rfl) (pe_op op_add (pe_bm PySem.F.plainAttrs_str PySem.F.slot_str_find PySem.F.type_str_find mt_find3 (pv 0) (pa_cons pe_str (pa_cons (pv 2) pa_nil))) pe_int))
            (pss_one (ps_set (i := 4) sc_parts_of_braces.nd rfl (Or.inl rfl) (RyT.pe_cutE (pe_ifExp (pt_cmpR op_gt (pv 3) pe_int (nomark _)) (pe_c c_field_of hr (by decide) (by rfl) (pa_cons (pe_slice sl_str (pv 0) (po_some (pe_op op_add (pv 2) pe_int)) (po_some (pe_op op_sub (pv 3) pe_int))) pa_nil)) pe_non)))))
            pss_nil)))
        (pss_cons (ps_if (pt_cmpR op_isN (pv 4) pe_non (nomark _))
          (pss_one ps_never)
          pss_nil)
        (pss_cons (ps_expr (pe_bm PySem.F.plainAttrs_list PySem.F.slot_list_append PySem.F.type_list_append mt_append (pv 1) (pa_cons (pv 4) pa_nil)))
        (pss_one (ps_set (i := 2) sc_parts_of_braces.nd rfl (Or.inl rfl) (pv 3))))))))
      (pss_one (ps_ret (pv 1))))), ?_⟩
    have hz : (tx (ts.flatMap encB)).length ≤ sizeLine := by rw [tx_len, sizeLine_eq]; omega
    refine ⟨ssz rfl, fun p hp => ?_⟩
    refine ⟨_, _, rfl, ?_⟩
    refine ⟨fun n σ' H' => ∃ (dn rs : List Tk) (o3 o4 : Option V) (us : List V), ts = dn ++ rs ∧ n = rs.length ∧ σ' = [some (.str (tx (ts.flatMap encB))), some (.ref p), some (.int (((dn.flatMap encB).length : Nat) : Int)), o3, o4] ∧ H' p = some (.lst us) ∧ Paired (TkAt K H') us dn ∧ Same H H', ⟨_, [], ts, _, _, [], rfl, rfl, rfl, upd_same, .nil, Same.nw hp⟩, ?_⟩
    rintro n σ' H' ⟨dn, rs, o3, o4, us, e, rfl, rfl, hus, hpd, hsm⟩
    refine ⟨_, rfl, ?_⟩
    refine ⟨_, rfl, ?_⟩
    refine ⟨_, rfl, hz, ?_⟩
    refine ⟨_, _, rfl, rfl, _, rfl, ?_⟩
    rw [tx_len]
    have hlen : us.length = dn.length := Paired.length hpd
    have hts : ts.flatMap encB = dn.flatMap encB ++ rs.flatMap encB := by rw [e, List.flatMap_append]
    cases rs with
    | nil =>
      rw [show decide ((((dn.flatMap encB).length : Nat) : Int) < (((ts.flatMap encB).length : Nat) : Int)) = false from decide_eq_false (by rw [hts]; simp)]
      refine iteF ?_
      refine ⟨_, rfl, ?_⟩
      rw [List.append_nil] at e
      subst e
      exact k p us H' hp hus hpd hsm
    | cons t rs =>
      have hok1 : t.ok := hok t (by rw [e]; exact List.mem_append_right _ (List.mem_cons_self ..))
      have hne : encB t ≠ [] := by
        cases t with
        | ch c =>
          show escB c ≠ []
          unfold escB
          split
          · simp
          · split <;> simp
        | fld nm => exact List.cons_ne_nil _ _
      obtain ⟨c, r, hcr⟩ : ∃ c r, encB t = c :: r := by
        cases q : encB t with
        | nil => exact absurd q hne
        | cons c r => exact ⟨c, r, rfl⟩
      have hts2 : ts.flatMap encB = dn.flatMap encB ++ (c :: r ++ rs.flatMap encB) := by rw [hts, List.flatMap_cons, hcr]
      have hdl : (dn.flatMap encB).length < (ts.flatMap encB).length := by rw [hts2]; simp
      rw [show decide ((((dn.flatMap encB).length : Nat) : Int) < (((ts.flatMap encB).length : Nat) : Int)) = true from decide_eq_true (by omega)]
      refine iteT ?_
      refine ⟨_, fun σ' H' h => ⟨rs.length, Nat.lt_succ_self _, h⟩, ?_⟩
      -- end, part
      refine ⟨_, rfl, _, _, rfl, rfl, ?_⟩
      have hat : atI (tx (ts.flatMap encB)).cps.toList (((dn.flatMap encB).length : Nat) : Int) = some c := by rw [hts2]; exact at_mid _ _ _
      refine ⟨_, rfl, _, rfl, _, _, c, rfl, rfl, hz, hat, ?_⟩
      refine ⟨_, _, rfl, ?_⟩
      refine ⟨fun σ' H'' => Same H' H'' ∧ ∃ v, TkAt K H'' v t ∧ σ' = [some (.str (tx (ts.flatMap encB))), some (.ref p), some (.int (((dn.flatMap encB).length : Nat) : Int)), some (.int (((dn.flatMap encB).length + (encB t).length : Nat) : Int)), some v], ?_, ?_⟩
      · refine ⟨_, rfl, _, rfl, _, rfl, _, rfl, _, _, rfl, rfl, _, rfl, _, rfl, hz, ?_⟩
        refine ⟨ssz rfl, fun q hq => ?_⟩
        rw [hts2, cut2]
        refine ⟨q, _, rfl, .inr (SqT.of upd_same), rfl, rfl, ?_⟩
        cases t with
        | ch c0 =>
          have hesc : escB c0 = c :: r := hcr
          unfold escB at hesc
          by_cases h1 : c0 = 123
          · rw [if_pos h1] at hesc
            cases hesc
            refine ⟨true, congrArg V.bl (in_brk _), iteT ?_⟩
            refine ⟨_, rfl, _, _, rfl, rfl, ?_⟩
            refine ⟨Same.nw hq, .str (tx [123]), by rw [h1]; rfl, ?_⟩
            rw [show encB (.ch c0) = [123, 123] from hcr]
            rfl
          · rw [if_neg h1] at hesc
            by_cases h2 : c0 = 125
            · rw [if_pos h2] at hesc
              cases hesc
              refine ⟨true, congrArg V.bl (in_brk _), iteT ?_⟩
              refine ⟨_, rfl, _, _, rfl, rfl, ?_⟩
              refine ⟨Same.nw hq, .str (tx [125]), by rw [h2]; rfl, ?_⟩
              rw [show encB (.ch c0) = [125, 125] from hcr]
              rfl
            · rw [if_neg h2] at hesc
              have hc0 : c0 = c := (List.cons.inj hesc).1
              have hr0 : [] = r := (List.cons.inj hesc).2
              subst hc0
              subst hr0
              have hb : inV (.str (tx (([c0] ++ rs.flatMap encB).take 2))) [.str "{{", .str "}}"] = false := by
                rw [in_brk]
                have z1 : ¬ [123, 123] = ([c0] ++ rs.flatMap encB).take 2 := fun z => h1 (by simp at z; exact z.1.symm)
                have z2 : ¬ [125, 125] = ([c0] ++ rs.flatMap encB).take 2 := fun z => h2 (by simp at z; exact z.1.symm)
                rw [decide_eq_false z1, decide_eq_false z2]
                rfl
              refine ⟨false, congrArg V.bl hb, iteF ?_⟩
              refine ⟨_, rfl, ssz rfl, fun q2 hq2 => ?_⟩
              have hb1 : inV (.str (tx [c0])) [.str "{", .str "}"] = false := by
                rw [in_br1]
                have z1 : ¬ [123] = [c0] := fun z => h1 (by simp at z; exact z.symm)
                have z2 : ¬ [125] = [c0] := fun z => h2 (by simp at z; exact z.symm)
                rw [decide_eq_false z1, decide_eq_false z2]
                rfl
              refine ⟨q2, _, rfl, .inr (SqT.of upd_same), rfl, rfl, false, congrArg V.bl hb1, iteF ?_⟩
              refine ⟨Same.tr (Same.nw hq) (Same.nw hq2), .str (tx [c0]), rfl, ?_⟩
              rw [show encB (.ch c0) = [c0] from hcr]
              rfl
        | fld nm =>
          have hf : 123 :: (nm ++ [125]) = c :: r := hcr
          cases hf
          obtain ⟨hn0, hnl⟩ := hok1
          cases nm with
          | nil => exact absurd rfl hn0
          | cons x nm =>
            have hx : x ≠ 123 := letter_ne (hnl x (List.mem_cons_self ..)) l123
            have hb : inV (.str (tx ((123 :: ((x :: nm) ++ [125]) ++ rs.flatMap encB).take 2))) [.str "{{", .str "}}"] = false := by
              rw [in_brk]
              have z1 : ¬ [123, 123] = (123 :: ((x :: nm) ++ [125]) ++ rs.flatMap encB).take 2 := fun z => hx (by simp at z; exact z.symm)
              have z2 : ¬ [125, 125] = (123 :: ((x :: nm) ++ [125]) ++ rs.flatMap encB).take 2 := fun z => by simp at z
              rw [decide_eq_false z1, decide_eq_false z2]
              rfl
            refine ⟨false, congrArg V.bl hb, iteF ?_⟩
            refine ⟨_, rfl, ssz rfl, fun q2 hq2 => ?_⟩
            refine ⟨q2, _, rfl, .inr (SqT.of upd_same), rfl, rfl, true, congrArg V.bl (in_br1 _), iteT ?_⟩
            -- find
            have hA : (tx (dn.flatMap encB ++ (123 :: ((x :: nm) ++ [125]) ++ rs.flatMap encB))).length ≤ sizeLine := by rw [← hts2]; exact hz
            have hfind : Txt.find3 (tx (dn.flatMap encB ++ (123 :: ((x :: nm) ++ [125]) ++ rs.flatMap encB))) "}" (((dn.flatMap encB).length : Nat) : Int) = (((dn.flatMap encB).length + 1 + (x :: nm).length : Nat) : Int) := by
              have z := find_brace (dn.flatMap encB) (x :: nm) (rs.flatMap encB) (fun c hc => letter_ne (hnl c hc) l125)
              rw [show dn.flatMap encB ++ (123 :: ((x :: nm) ++ [125]) ++ rs.flatMap encB) = dn.flatMap encB ++ 123 :: ((x :: nm) ++ 125 :: rs.flatMap encB) by simp]
              exact z
            have hcut : cutS (tx (dn.flatMap encB ++ (123 :: ((x :: nm) ++ [125]) ++ rs.flatMap encB))) (some ((((dn.flatMap encB).length : Nat) : Int) + 1)) (some ((((dn.flatMap encB).length + 1 + (x :: nm).length : Nat) : Int) + 1 - 1)) = tx (x :: nm) := by
              have z := cut_mid (dn.flatMap encB ++ [123]) (x :: nm) (125 :: rs.flatMap encB)
              rw [show dn.flatMap encB ++ (123 :: ((x :: nm) ++ [125]) ++ rs.flatMap encB) = dn.flatMap encB ++ [123] ++ (x :: nm) ++ 125 :: rs.flatMap encB by simp]
              rw [show ((((dn.flatMap encB).length : Nat) : Int) + 1) = (((dn.flatMap encB ++ [123]).length : Nat) : Int) by rw [List.length_append, List.length_singleton]; omega]
              rw [show ((((dn.flatMap encB).length + 1 + (x :: nm).length : Nat) : Int) + 1 - 1) = (((dn.flatMap encB ++ [123]).length + (x :: nm).length : Nat) : Int) by rw [List.length_append, List.length_singleton]; omega]
              exact z
            refine ⟨_, rfl, rfl, _, rfl, _, _, _, rfl, rfl, ?_⟩
            rw [hfind]
            refine ⟨_, _, rfl, rfl, ?_⟩
            have hsq := Same.tr (Same.nw (o := .tup [.str "{{", .str "}}"]) hq) (Same.nw (o := .tup [.str "{", .str "}"]) hq2)
            refine ⟨fun v H2 => FldAt K H2 v (x :: nm) ∧ Same H' H2, ?_, ?_⟩
            · refine ⟨_, rfl, _, _, rfl, rfl, true, congrArg V.bl (decide_eq_true (by omega)), iteT ?_⟩
              refine ⟨_, rfl, _, rfl, _, _, rfl, rfl, _, rfl, _, rfl, _, _, rfl, rfl, _, rfl, _, rfl, hA, ?_⟩
              rw [hcut]
              have hnlen : (x :: nm).length ≤ 9000 := by
                have z := hl
                rw [hts2] at z
                simp only [List.length_append, List.length_cons] at z ⊢
                omega
              exact ⟨x :: nm, rfl, List.cons_ne_nil _ _, hnlen, hnl, fun v H2 hv hs2 => ⟨hv, Same.tr hsq hs2⟩⟩
            · rintro v H2 ⟨hv, hs2⟩
              refine ⟨hs2, v, hv, ?_⟩
              rw [show (((dn.flatMap encB).length + (encB (.fld (x :: nm))).length : Nat) : Int) = (((dn.flatMap encB).length + 1 + (x :: nm).length : Nat) : Int) + 1 by rw [show (encB (.fld (x :: nm))).length = (x :: nm).length + 2 by simp [encB]]; omega]
              rfl
      · rintro σ' H'' ⟨hs2, v, hv, rfl⟩
        refine ⟨_, rfl, ?_⟩
        have hnn : v ≠ .non := by
          cases t with
          | ch c => intro z; rw [show v = _ from hv] at z; cases z
          | fld nm => obtain ⟨a, dx, e, _⟩ := hv; intro z; rw [e] at z; cases z
        refine ⟨rfl, false, congrArg V.bl (decide_eq_false hnn), iteF ?_⟩
        refine ⟨_, rfl, .inl ⟨rfl, _, SqL.of (hs2 _ _ hus)⟩, _, rfl, p, _, _, rfl, rfl, hs2 _ _ hus, by rw [hlen, sizeLine_eq]; have := dlen_le dn (enc := encB) (fun t _ => encB_pos t); omega, ?_⟩
        refine ⟨_, rfl, ?_⟩
        refine ⟨dn ++ [t], rs, some (.int (((dn.flatMap encB).length + (encB t).length : Nat) : Int)), some v, us ++ [v], by rw [e]; simp, rfl, ?_, upd_same, ?_, Same.wr (Same.tr hsm hs2) hp⟩
        · rw [show (((dn ++ [t]).flatMap encB).length : Nat) = (dn.flatMap encB).length + (encB t).length by rw [List.flatMap_append, List.length_append]; simp]
          rfl
        · exact Paired.snoc' (TkAt.upd hv (hs2 _ _ hus)) (Paired.impl hpd fun _ _ z => TkAt.upd (z.same hs2) (hs2 _ _ hus))
end
end Ry
namespace Ry
open PySem PySem.Spec PyProof.Rows L2 He RyH
open C8 (pss_cut tCut Cal Met Mak pe_c pe_mk pe_mt pe_mt0 pe_gc)
/-! ### formats of the other style -/
def rRep1 : R2 := fun x y H Q => ∃ z, x = .str z ∧ y = .int 1 ∧ Q (.str z) H
theorem op_rep1 {X : Cx} : OpR X (binaryOp .Mult) rRep1 := by
  intro pins s σ H x y v u Q I rx ry h
  obtain ⟨z, rfl, rfl, q⟩ := h
  obtain ⟨t, rfl⟩ := rx
  obtain ⟨t', rfl⟩ := ry
  exact PySem.P.mul_str (by decide) (fun _ h => by simp at h) (fun _ h => by simp at h) ⟨.str z, H, I, ⟨t, rfl⟩, q⟩
def encD : Tk → List Nat
  | .ch c => if c = 36 then [36, 36] else [c]
  | .fld nm => 36 :: 123 :: (nm ++ [125])
theorem encD_pos (t : Tk) : 1 ≤ (encD t).length := by
  cases t with
  | ch c =>
    show 1 ≤ (if c = 36 then [36, 36] else [c]).length
    split <;> simp
  | fld nm => simp [encD]
def spFieldBehind (K : PySem.W.Frag) : Sp := fun vs H Q _ => ∃ (a nm r : List Nat), vs = [.str (tx (a ++ 123 :: (nm ++ 125 :: r))), .int ((a.length : Nat) : Int)] ∧ (a ++ 123 :: (nm ++ 125 :: r)).length ≤ 9000 ∧ nm ≠ [] ∧ (∀ c ∈ nm, isIn letters c = true) ∧
  ∀ t v H', H' t = some (.tup [v, .int ((a.length + nm.length + 2 : Nat) : Int)]) → FldAt K H' v nm → Same H H' → Q (.ref t) H'
theorem d125 : isIn digits 125 = false := by decide +kernel
section
variable {P : Program} {w : World} {K : PySem.W.Frag} {mg : Str → Option Value} {base : Heap}
theorem sc_field_behind : FnScope ["fmt", "start", "ahead", "end", "name", "stop"] ["fmt", "start"] (defScope s_field_behind) := ⟨rfl, rfl, rfl, by decide +kernel, rfl, by decide +kernel, by decide +kernel⟩
theorem cal_field_behind (T : Txt w K mg) : Cal P w K mg base 3 "field_behind" (spFieldBehind K) [] := by
  obtain ⟨fd, F⟩ := T.df_field_behind
  have c_name_end := cal_name_end (P := P) (base := base) T
  have c_mk_Field := mk_Field1 (P := P) (base := base) T
  refine ⟨_, fd, ["fmt", "start"], [], F.ok sc_field_behind (fun vs H Q E h => ?_) (fun cdv A outer s H vs Q E hr h => ?_), T.m_field_behind, F.kp, F.bindsN (fun _ _ _ _ _ _ us hl => match us, hl with | [_, _], _ => rfl), .nil⟩
  · obtain ⟨_, _, _, rfl, _⟩ := h
    rfl
  · obtain ⟨a, nm, r, rfl, hl, hne, hn, k⟩ := h
    refine ⟨_, PSs.nox (pss_cons (ps_set (i := 2) sc_field_behind.nd rfl (Or.inl rfl) (pe_callTy (T := "int") call_int1 (by rfl) T.f_int (by decide +kernel) (pa_cons (pe_cmpR op_eq (pe_slice sl_str (pv 0) (po_some (pv 1)) (po_some (pe_op op_add (pv 1) pe_int))) pe_str (nomark _)) pa_nil)))
      (pss_cons (ps_set (i := 3) sc_field_behind.nd rfl (Or.inl rfl) (pe_c c_name_end hr (by decide) (by rfl) (pa_cons (pv 0) (pa_cons (pe_op op_add (pv 1) (pv 2)) pa_nil))))
      (pss_cons (ps_par (i := 4) (j := 5) (by rfl) sc_field_behind.nd rfl rfl (by decide) rfl rfl (pa_cons (pe_slice sl_str (pv 0) (po_some (pe_op op_add (pv 1) (pv 2))) (po_some (pv 3))) (pa_cons (pe_op op_add (pv 3) (pv 2)) pa_nil)) (by rfl))
      (pss_cons (ps_if (PW.pt (pw_or (pt_cmpR op_eq (pv 4) pe_str (nomark _)) (pw_or1 (pt_cmpR op_ne (pe_slice sl_str (pv 0) (po_some (pv 3)) (po_some (pv 5))) (pe_op op_rep1 pe_str (pv 2)) (nomark _)))))
        (pss_one ps_never)
        pss_nil)
      (pss_one (ps_ret (pe_tup (pa_cons (pe_mk c_mk_Field hr (by decide) (by rfl) (pa_cons (pv 4) pa_nil)) (pa_cons (pv 5) pa_nil))))))))), ?_⟩
    have hz : (tx (a ++ 123 :: (nm ++ 125 :: r))).length ≤ sizeLine := by rw [tx_len, sizeLine_eq]; omega
    have hlen : (a ++ 123 :: (nm ++ 125 :: r)).length = a.length + 1 + nm.length + 1 + r.length := by simp; omega
    -- ahead
    refine ⟨_, rfl, _, rfl, _, rfl, _, rfl, _, _, rfl, rfl, _, rfl, _, rfl, hz, ?_⟩
    have c1 : cutS (tx (a ++ 123 :: (nm ++ 125 :: r))) (some ((a.length : Nat) : Int)) (some (((a.length : Nat) : Int) + 1)) = tx [123] := by
      have z := cut_mid a [123] (nm ++ 125 :: r)
      rw [show a ++ 123 :: (nm ++ 125 :: r) = a ++ [123] ++ (nm ++ 125 :: r) by simp]
      exact z
    rw [c1]
    refine ⟨rfl, .inr ⟨_, rfl, ?_⟩⟩
    rw [show decide (V.str (tx [123]) = V.str "{") = true by decide +kernel, if_pos rfl]
    -- end
    refine ⟨_, rfl, _, rfl, _, rfl, _, _, rfl, rfl, ?_⟩
    have e1 : a ++ [123] ++ nm ++ 125 :: r = a ++ 123 :: (nm ++ 125 :: r) := by simp
    refine ⟨a ++ [123], nm, 125 :: r, by rw [e1, List.length_append]; rfl, by rw [e1]; omega, hn, by show (!isIn letters 125 && !isIn digits 125) = true; rw [l125, d125]; rfl, ?_⟩
    rw [show (((a ++ ([123] : List Nat)).length + nm.length : Nat) : Int) = ((a.length + 1 + nm.length : Nat) : Int) by rw [List.length_append, List.length_singleton]]
    -- name, stop
    refine ⟨_, rfl, _, rfl, _, rfl, _, _, rfl, rfl, _, rfl, _, rfl, _, rfl, _, rfl, hz, ?_⟩
    have c2 : cutS (tx (a ++ 123 :: (nm ++ 125 :: r))) (some (((a.length : Nat) : Int) + 1)) (some ((a.length + 1 + nm.length : Nat) : Int)) = tx nm := by
      have z := cut_mid (a ++ [123]) nm (125 :: r)
      rw [e1, List.length_append, List.length_singleton] at z
      exact z
    rw [c2]
    refine ⟨_, rfl, _, rfl, _, _, rfl, rfl, ?_⟩
    refine ⟨_, _, rfl, ?_⟩
    -- the test
    have en : decide (V.str (tx nm) = V.str "") = false := decide_eq_false fun z => by
      have z2 := V.str.inj z
      have z3 : (tx nm).cps.toList = [] := by rw [z2]; rfl
      rw [tx_list] at z3
      exact hne z3
    refine ⟨_, rfl, rfl, false, congrArg V.bl en, iteF ?_⟩
    refine ⟨_, rfl, _, rfl, _, rfl, _, rfl, _, rfl, _, rfl, hz, ?_⟩
    have c3 : cutS (tx (a ++ 123 :: (nm ++ 125 :: r))) (some ((a.length + 1 + nm.length : Nat) : Int)) (some (((a.length + 1 + nm.length : Nat) : Int) + 1)) = tx [125] := by
      have z := cut_mid (a ++ [123] ++ nm) [125] r
      rw [show a ++ [123] ++ nm ++ [125] ++ r = a ++ 123 :: (nm ++ 125 :: r) by simp] at z
      rw [show (a ++ ([123] : List Nat) ++ nm).length = a.length + 1 + nm.length by rw [List.length_append, List.length_append, List.length_singleton]] at z
      exact z
    rw [c3]
    refine ⟨_, rfl, _, rfl, rfl, rfl, false, congrArg V.bl (by decide +kernel), iteF ?_⟩
    refine ⟨_, rfl, fun x dx hx hdx hne2 => ?_⟩
    refine ⟨x, dx, _, _, _, _, _, rfl, upd_same, rfl, ?_⟩
    rw [upd_upd]
    refine ⟨_, rfl, ssz rfl, fun t ht => ?_⟩
    refine k t (.ref x) _ ?_ ⟨x, dx, rfl, upd_at upd_same ht⟩ (Same.tr (Same.nw hdx) (Same.tr (Same.nw (by rw [upd_ne hne2.symm]; exact hx)) (Same.nw ht)))
    rw [upd_same, show ((a.length + nm.length + 2 : Nat) : Int) = ((a.length + 1 + nm.length : Nat) : Int) + 1 by omega]
theorem sc_parts_of_dollars : FnScope ["fmt", "found", "at", "end", "part"] ["fmt"] (defScope s_parts_of_dollars) := ⟨rfl, rfl, rfl, by decide +kernel, rfl, by decide +kernel, by decide +kernel⟩
theorem cal_parts_of_dollars (T : Txt w K mg) : Cal P w K mg base 4 "parts_of_dollars" (spParts K encD) [] := by
  obtain ⟨fd, F⟩ := T.df_parts_of_dollars
  have c_field_behind := cal_field_behind (P := P) (base := base) T
  refine ⟨_, fd, ["fmt"], [], F.ok sc_parts_of_dollars (fun vs H Q E h => ?_) (fun cdv A outer s H vs Q E hr h => ?_), T.m_parts_of_dollars, F.kp, F.bindsN (fun _ _ _ _ _ _ us hl => match us, hl with | [_], _ => rfl), .nil⟩
  · obtain ⟨_, rfl, _⟩ := h
    rfl
  · obtain ⟨ts, rfl, hl, hok, k⟩ := h
    refine ⟨_, PSs.nox (pss_cons (ps_par (i := 1) (j := 2) (by rfl) sc_parts_of_dollars.nd rfl rfl (by decide) rfl rfl (pa_cons (pe_lst pa_nil) (pa_cons pe_int pa_nil)) (by rfl))
      (pss_cons (ps_while PassesOwn.never (pt_cmpR op_lt (pv 2) (pe_callB (id := "len") call_len_str (by rfl) T.f_len PySem.boot_len (pa_cons (pv 0) pa_nil)) (nomark _))
        (pss_cons (ps_par (i := 3) (j := 4) (by rfl) sc_parts_of_dollars.nd rfl rfl (by decide) rfl rfl (pa_cons (pe_op op_add (pv 2) pe_int) (pa_cons (pe_ix ix_str (pv 0) (pv 2) (fun _ _ => rfl)) pa_nil)) (by rfl))
        (pss_cut (ps_if (pt_cmpR op_eq (pe_slice sl_str (pv 0) (po_some (pv 2)) (po_some (pe_op op_add (pv 2) pe_int))) pe_str (nomark _))
          (pss_one (ps_set (i := 3) sc_parts_of_dollars.nd rfl (Or.inl rfl) (pe_op op_add (pv 2) pe_int)))
          (pss_one (ps_if (pt_cmpR op_eq (pv 4) pe_str (nomark _))
            (pss_one (ps_asg (pe_c c_field_behind hr (by decide) (by rfl) (pa_cons (pv 0) (pa_cons (pe_op op_add (pv 2) pe_int) pa_nil))) (pg_tup rfl (pgs_cons (pg_name (i := 4) sc_parts_of_dollars.nd rfl (Or.inl rfl)) (pgs_cons (pg_name (i := 3) sc_parts_of_dollars.nd rfl (Or.inl rfl)) pgs_nil)))))
            pss_nil)))
        (pss_cons (ps_if (pt_cmpR op_isN (pv 4) pe_non (nomark _))
          (pss_one ps_never)
          pss_nil)
        (pss_cons (ps_expr (pe_bm PySem.F.plainAttrs_list PySem.F.slot_list_append PySem.F.type_list_append mt_append (pv 1) (pa_cons (pv 4) pa_nil)))
        (pss_one (ps_set (i := 2) sc_parts_of_dollars.nd rfl (Or.inl rfl) (pv 3))))))))
      (pss_one (ps_ret (pv 1))))), ?_⟩
    have hz : (tx (ts.flatMap encD)).length ≤ sizeLine := by rw [tx_len, sizeLine_eq]; omega
    refine ⟨ssz rfl, fun p hp => ?_⟩
    refine ⟨_, _, rfl, ?_⟩
    refine ⟨fun n σ' H' => ∃ (dn rs : List Tk) (o3 o4 : Option V) (us : List V), ts = dn ++ rs ∧ n = rs.length ∧ σ' = [some (.str (tx (ts.flatMap encD))), some (.ref p), some (.int (((dn.flatMap encD).length : Nat) : Int)), o3, o4] ∧ H' p = some (.lst us) ∧ Paired (TkAt K H') us dn ∧ Same H H', ⟨_, [], ts, _, _, [], rfl, rfl, rfl, upd_same, .nil, Same.nw hp⟩, ?_⟩
    rintro n σ' H' ⟨dn, rs, o3, o4, us, e, rfl, rfl, hus, hpd, hsm⟩
    refine ⟨_, rfl, ?_⟩
    refine ⟨_, rfl, ?_⟩
    refine ⟨_, rfl, hz, ?_⟩
    refine ⟨_, _, rfl, rfl, _, rfl, ?_⟩
    rw [tx_len]
    have hlen : us.length = dn.length := Paired.length hpd
    have hts : ts.flatMap encD = dn.flatMap encD ++ rs.flatMap encD := by rw [e, List.flatMap_append]
    cases rs with
    | nil =>
      rw [show decide ((((dn.flatMap encD).length : Nat) : Int) < (((ts.flatMap encD).length : Nat) : Int)) = false from decide_eq_false (by rw [hts]; simp)]
      refine iteF ?_
      refine ⟨_, rfl, ?_⟩
      rw [List.append_nil] at e
      subst e
      exact k p us H' hp hus hpd hsm
    | cons t rs =>
      have hok1 : t.ok := hok t (by rw [e]; exact List.mem_append_right _ (List.mem_cons_self ..))
      obtain ⟨c, r, hcr⟩ : ∃ c r, encD t = c :: r := by
        cases q : encD t with
        | nil =>
          have z := encD_pos t
          rw [q] at z
          exact absurd z (by decide)
        | cons c r => exact ⟨c, r, rfl⟩
      have hts2 : ts.flatMap encD = dn.flatMap encD ++ (c :: r ++ rs.flatMap encD) := by rw [hts, List.flatMap_cons, hcr]
      have hdl : (dn.flatMap encD).length < (ts.flatMap encD).length := by rw [hts2]; simp
      rw [show decide ((((dn.flatMap encD).length : Nat) : Int) < (((ts.flatMap encD).length : Nat) : Int)) = true from decide_eq_true (by omega)]
      refine iteT ?_
      refine ⟨_, fun σ' H' h => ⟨rs.length, Nat.lt_succ_self _, h⟩, ?_⟩
      refine ⟨_, rfl, _, _, rfl, rfl, ?_⟩
      have hat : atI (tx (ts.flatMap encD)).cps.toList (((dn.flatMap encD).length : Nat) : Int) = some c := by rw [hts2]; exact at_mid _ _ _
      refine ⟨_, rfl, _, rfl, _, _, c, rfl, rfl, hz, hat, ?_⟩
      refine ⟨_, _, rfl, ?_⟩
      refine ⟨fun σ' H'' => Same H' H'' ∧ ∃ v, TkAt K H'' v t ∧ σ' = [some (.str (tx (ts.flatMap encD))), some (.ref p), some (.int (((dn.flatMap encD).length : Nat) : Int)), some (.int (((dn.flatMap encD).length + (encD t).length : Nat) : Int)), some v], ?_, ?_⟩
      · refine ⟨_, rfl, _, rfl, _, rfl, _, rfl, _, _, rfl, rfl, _, rfl, _, rfl, hz, ?_⟩
        rw [hts2, cut2]
        refine ⟨rfl, ?_⟩
        cases t with
        | ch c0 =>
          have hesc : (if c0 = 36 then [36, 36] else [c0]) = c :: r := hcr
          by_cases h1 : c0 = 36
          · rw [if_pos h1] at hesc
            cases hesc
            refine ⟨true, congrArg V.bl (decide_eq_true rfl), iteT ?_⟩
            refine ⟨_, rfl, _, _, rfl, rfl, ?_⟩
            refine ⟨Same.rfl', .str (tx [36]), by rw [h1]; rfl, ?_⟩
            rw [show encD (.ch c0) = [36, 36] from hcr]
            rfl
          · rw [if_neg h1] at hesc
            have hc0 : c0 = c := (List.cons.inj hesc).1
            have hr0 : [] = r := (List.cons.inj hesc).2
            subst hc0
            subst hr0
            have hb : decide (V.str (tx (([c0] ++ rs.flatMap encD).take 2)) = V.str "$$") = false := decide_eq_false fun z => by
              have z2 : tx (([c0] ++ rs.flatMap encD).take 2) = tx [36, 36] := V.str.inj z
              have z3 := tx_inj z2
              simp at z3
              exact h1 z3.1
            refine ⟨false, congrArg V.bl hb, iteF ?_⟩
            have hb1 : decide (V.str (tx [c0]) = V.str "$") = false := decide_eq_false fun z => by
              have z2 : tx [c0] = tx [36] := V.str.inj z
              have z3 := tx_inj z2
              simp at z3
              exact h1 z3
            refine ⟨_, rfl, rfl, false, congrArg V.bl hb1, iteF ?_⟩
            refine ⟨Same.rfl', .str (tx [c0]), rfl, ?_⟩
            rw [show encD (.ch c0) = [c0] from hcr]
            rfl
        | fld nm =>
          have hf : 36 :: 123 :: (nm ++ [125]) = c :: r := hcr
          cases hf
          obtain ⟨hn0, hnl⟩ := hok1
          have hb : decide (V.str (tx ((36 :: 123 :: (nm ++ [125]) ++ rs.flatMap encD).take 2)) = V.str "$$") = false := decide_eq_false fun z => by
            have z2 : tx ((36 :: 123 :: (nm ++ [125]) ++ rs.flatMap encD).take 2) = tx [36, 36] := V.str.inj z
            have z3 := tx_inj z2
            simp at z3
          refine ⟨false, congrArg V.bl hb, iteF ?_⟩
          refine ⟨_, rfl, rfl, true, congrArg V.bl (decide_eq_true rfl), iteT ?_⟩
          refine ⟨_, rfl, _, rfl, _, _, rfl, rfl, ?_⟩
          have e1 : dn.flatMap encD ++ (36 :: 123 :: (nm ++ [125]) ++ rs.flatMap encD) = dn.flatMap encD ++ [36] ++ 123 :: (nm ++ 125 :: rs.flatMap encD) := by simp
          have hnlen : (dn.flatMap encD ++ [36] ++ 123 :: (nm ++ 125 :: rs.flatMap encD)).length ≤ 9000 := by rw [← e1, ← hts2]; omega
          refine ⟨dn.flatMap encD ++ [36], nm, rs.flatMap encD, ?_, hnlen, hn0, hnl, fun q v H2 hq hv hs2 => ?_⟩
          · rw [e1, List.length_append]
            rfl
          · refine ⟨q, _, rfl, SqT.of hq, rfl, ?_⟩
            refine ⟨_, _, rfl, _, _, rfl, rfl, ?_⟩
            refine ⟨hs2, v, hv, ?_⟩
            rw [show ((dn.flatMap encD).length + (encD (.fld nm)).length : Nat) = (dn.flatMap encD ++ ([36] : List Nat)).length + nm.length + 2 by rw [List.length_append, List.length_singleton, show (encD (.fld nm)).length = nm.length + 3 by simp [encD]]; omega]
            rfl
      · rintro σ' H'' ⟨hs2, v, hv, rfl⟩
        refine ⟨_, rfl, ?_⟩
        have hnn : v ≠ .non := by
          cases t with
          | ch c => intro z; rw [show v = _ from hv] at z; cases z
          | fld nm => obtain ⟨a, dx, e, _⟩ := hv; intro z; rw [e] at z; cases z
        refine ⟨rfl, false, congrArg V.bl (decide_eq_false hnn), iteF ?_⟩
        refine ⟨_, rfl, .inl ⟨rfl, _, SqL.of (hs2 _ _ hus)⟩, _, rfl, p, _, _, rfl, rfl, hs2 _ _ hus, by rw [hlen, sizeLine_eq]; have := dlen_le dn (enc := encD) (fun t _ => encD_pos t); omega, ?_⟩
        refine ⟨_, rfl, ?_⟩
        refine ⟨dn ++ [t], rs, some (.int (((dn.flatMap encD).length + (encD t).length : Nat) : Int)), some v, us ++ [v], by rw [e]; simp, rfl, ?_, upd_same, ?_, Same.wr (Same.tr hsm hs2) hp⟩
        · rw [show (((dn ++ [t]).flatMap encD).length : Nat) = (dn.flatMap encD).length + (encD t).length by rw [List.flatMap_append, List.length_append]; simp]
          rfl
        · exact Paired.snoc' (TkAt.upd hv (hs2 _ _ hus)) (Paired.impl hpd fun _ _ z => TkAt.upd (z.same hs2) (hs2 _ _ hus))
end
end Ry
namespace Ry
open PySem PySem.Spec PyProof.Rows L2 He RyH
open C8 (pss_cut tCut Cal Met Mak pe_c pe_mk pe_mt pe_mt0 pe_gc)
/-! ### texts that stand side by side are joined -/
inductive JP where
  | txt (l : List Nat) | fld (nm : List Nat)
def Tk.isCh : Tk → Bool
  | .ch _ => true
  | .fld _ => false
def JP.isT : JP → Bool
  | .txt _ => true
  | .fld _ => false
def JAt (K : PySem.W.Frag) (H : Hp) (v : V) : JP → Prop
  | .txt l => v = .str (tx l)
  | .fld nm => FldAt K H v nm
theorem JAt.same {K : PySem.W.Frag} {H H' : Hp} {v : V} {t : JP} (h : JAt K H v t) (k : Same H H') : JAt K H' v t := by
  cases t with
  | txt c => exact h
  | fld nm => exact FldAt.same h k
theorem JAt.upd {K : PySem.W.Frag} {H : Hp} {v : V} {t : JP} {p : Addr} {xs ys : List V} (h : JAt K H v t) (hp : H p = some (.lst xs)) : JAt K (L2.upd H p (.lst ys)) v t := by
  cases t with
  | txt c => exact h
  | fld nm =>
    obtain ⟨a, dx, e, q⟩ := h
    exact ⟨a, dx, e, by rw [upd_ne (ne_of q hp (fun z => nomatch z))]; exact q⟩
def joinStep (acc : List JP) (t : Tk) : List JP := match t, acc.getLast? with
  | .ch c, some (.txt l) => acc.dropLast ++ [.txt (l ++ [c])]
  | .ch c, _ => acc ++ [.txt [c]]
  | .fld nm, _ => acc ++ [.fld nm]
def joinT (ts : List Tk) : List JP := ts.foldl joinStep []
theorem joinT_take {ts : List Tk} {i : Nat} {t : Tk} (h : ts[i]? = some t) : joinT (ts.take (i + 1)) = joinStep (joinT (ts.take i)) t := by
  unfold joinT
  rw [take_nth h, List.foldl_append]
  rfl
/-- does the next one join the last one -/
def joins (acc : List JP) (t : Tk) : Bool := match t, acc.getLast? with
  | .ch _, some (.txt _) => true
  | _, _ => false
theorem step_app {acc : List JP} {t : Tk} (h : joins acc t = false) : joinStep acc t = acc ++ [match t with | .ch c => .txt [c] | .fld nm => .fld nm] := by
  unfold joins at h
  unfold joinStep
  cases t with
  | fld nm => rfl
  | ch c =>
    cases q : acc.getLast? with
    | none => rfl
    | some j =>
      cases j with
      | txt l => rw [q] at h; cases h
      | fld nm => rfl
theorem step_join {acc : List JP} {t : Tk} (h : joins acc t = true) : ∃ acc' l c, t = .ch c ∧ acc = acc' ++ [.txt l] ∧ joinStep acc t = acc' ++ [.txt (l ++ [c])] := by
  unfold joins at h
  cases t with
  | fld nm => cases h
  | ch c =>
    cases q : acc.getLast? with
    | none => rw [q] at h; cases h
    | some j =>
      cases j with
      | fld nm => rw [q] at h; cases h
      | txt l =>
        obtain ⟨acc', e⟩ := List.getLast?_eq_some_iff.mp q
        refine ⟨acc', l, c, rfl, e, ?_⟩
        unfold joinStep
        rw [q, e]
        simp
theorem Paired.unsnoc {α β : Type} {F : α → β → Prop} {ys : List β} {y : β} : ∀ {xs : List α}, Paired F xs (ys ++ [y]) → ∃ xs' x, xs = xs' ++ [x] ∧ Paired F xs' ys ∧ F x y := by
  induction ys with
  | nil =>
    intro xs h
    cases h with
    | cons r t =>
      cases t
      exact ⟨[], _, rfl, .nil, r⟩
  | cons z ys ih =>
    intro xs h
    cases h with
    | cons r t =>
      obtain ⟨xs', x, e, h1, h2⟩ := ih t
      exact ⟨_ :: xs', x, by rw [e]; rfl, .cons r h1, h2⟩
theorem atI_last {α : Type} (xs : List α) (x : α) : atI (xs ++ [x]) (-1) = some x := by
  have e : ixN (xs ++ [x]).length (-1) = some xs.length := by
    unfold ixN
    rw [if_neg (by omega), if_pos (by simp; omega)]
    simp
    omega
  unfold atI
  rw [e]
  simp
theorem joinStep_len {acc : List JP} {t : Tk} {n : Nat} (h : ∀ l, JP.txt l ∈ acc → l.length ≤ n) : ∀ l, JP.txt l ∈ joinStep acc t → l.length ≤ n + 1 := by
  cases q : joins acc t with
  | false =>
    rw [step_app q]
    intro l hl
    rcases List.mem_append.mp hl with z | z
    · exact Nat.le_succ_of_le (h l z)
    · have := List.mem_singleton.mp z
      cases t with
      | ch c => cases this; simp
      | fld nm => cases this
  | true =>
    obtain ⟨acc', l0, c, rfl, rfl, e⟩ := step_join q
    rw [e]
    intro l hl
    rcases List.mem_append.mp hl with z | z
    · exact Nat.le_succ_of_le (h l (List.mem_append_left _ z))
    · have := List.mem_singleton.mp z
      cases this
      have := h l0 (List.mem_append_right _ (List.mem_cons_self ..))
      rw [List.length_append, List.length_singleton]
      omega
theorem joinStep_cnt (acc : List JP) (t : Tk) : (joinStep acc t).length ≤ acc.length + 1 := by
  cases q : joins acc t with
  | false => rw [step_app q, List.length_append, List.length_singleton]; exact Nat.le_refl _
  | true =>
    obtain ⟨acc', l0, c, rfl, rfl, e⟩ := step_join q
    rw [e]
    simp
theorem joins_fld (acc : List JP) (nm : List Nat) : joins acc (.fld nm) = false := by unfold joins; rfl
theorem joins_nil (t : Tk) : joins [] t = false := by cases t <;> rfl
theorem joins_snoc (acc : List JP) (j : JP) (c : Nat) : joins (acc ++ [j]) (.ch c) = j.isT := by
  unfold joins
  rw [List.getLast?_append]
  cases j <;> rfl
theorem ixN_last (n : Nat) : ixN (n + 1) (-1) = some n := by
  unfold ixN
  rw [if_neg (by omega), if_pos (by omega)]
  congr 1
  omega
theorem tx_app (a b : List Nat) : tx a ++ tx b = tx (a ++ b) := by
  show (⟨a.toArray ++ b.toArray⟩ : Str) = ⟨(a ++ b).toArray⟩
  simp
def spJoined (K : PySem.W.Frag) : Sp := fun vs H Q _ => ∃ (p : Addr) (us : List V) (ts : List Tk), vs = [.ref p] ∧ H p = some (.lst us) ∧ Paired (TkAt K H) us ts ∧ ts.length ≤ 5000 ∧
  ∀ q js H', H' q = some (.tup js) → Paired (JAt K H') js (joinT ts) → Same H H' → Q (.ref q) H'
section
variable {P : Program} {w : World} {K : PySem.W.Frag} {mg : Str → Option Value} {base : Heap}
theorem TkAt.isStr {H : Hp} (T : Txt w K mg) {v : V} {t : Tk} (h : TkAt K H v t) : ∃ ty, TyX K H v ty ∧ PySem.W.kitOne K ty (.type "str") = some t.isCh := by
  cases t with
  | ch c =>
    cases h
    exact ⟨_, .base (.str _), kit_ty (show kitB "str" "str" = some true by decide +kernel)⟩
  | fld nm =>
    obtain ⟨a, dx, rfl, e⟩ := h
    have cc := T.cc_Field
    exact ⟨_, .base (.ins e T.cl_Field cc.ha cc.hn cc.htk cc.ob), T.ki_Field_str⟩
theorem JAt.isStr {H : Hp} (T : Txt w K mg) {v : V} {t : JP} (h : JAt K H v t) : ∃ ty, TyX K H v ty ∧ PySem.W.kitOne K ty (.type "str") = some t.isT := by
  cases t with
  | txt c =>
    cases h
    exact ⟨_, .base (.str _), kit_ty (show kitB "str" "str" = some true by decide +kernel)⟩
  | fld nm =>
    obtain ⟨a, dx, rfl, e⟩ := h
    have cc := T.cc_Field
    exact ⟨_, .base (.ins e T.cl_Field cc.ha cc.hn cc.htk cc.ob), T.ki_Field_str⟩
theorem sc_joined_texts : FnScope ["parts", "found", "part"] ["parts"] (defScope s_joined_texts) := ⟨rfl, rfl, rfl, by decide +kernel, rfl, by decide +kernel, by decide +kernel⟩
theorem cal_joined_texts (T : Txt w K mg) : Cal P w K mg base 1 "joined_texts" (spJoined K) [] := by
  obtain ⟨fd, F⟩ := T.df_joined_texts
  refine ⟨_, fd, ["parts"], [], F.ok sc_joined_texts (fun vs H Q E h => ?_) (fun cdv A outer s H vs Q E hr h => ?_), T.m_joined_texts, F.kp, F.bindsN (fun _ _ _ _ _ _ us hl => match us, hl with | [_], _ => rfl), .nil⟩
  · obtain ⟨_, _, _, rfl, _⟩ := h
    rfl
  · obtain ⟨p, us, ts, rfl, hp, hpd, hlen, k⟩ := h
    refine ⟨_, PSs.nox (pss_cons (ps_set (i := 1) sc_joined_texts.nd rfl (Or.inl rfl) (pe_lst pa_nil))
      (pss_cons (ps_for PassesOwn.never rfl (pi_list (pv 0)) (pg_name (i := 2) sc_joined_texts.nd rfl (Or.inl rfl))
        (pss_one (ps_if (RyN.pt_cut (PW.pt (pw_and (pt_val (pe_callB (id := "isinstance") call_isi (by rfl) T.f_isinstance (by decide +kernel) (pa_cons (pv 2) (pa_cons (pe_bltn (v := .ty "str") (by rfl) T.f_str (by decide +kernel) rfl) pa_nil)))) (pw_and (pt_cmpR (RyN.op_neNil hr.units) (pv 1) (pe_lst pa_nil) (nomark _)) (pw_and1 (pt_val (pe_callB (id := "isinstance") call_isi (by rfl) T.f_isinstance (by decide +kernel) (pa_cons (pe_ix ix_list (pv 1) (pe_un un_neg pe_int) (fun _ _ => rfl)) (pa_cons (pe_bltn (v := .ty "str") (by rfl) T.f_str (by decide +kernel) rfl) pa_nil)))))))))
          (pss_one (ps_augS (pv 1) (pe_un un_neg pe_int) RyN.get_neg (pv 2) (RyN.ip_of iop_add_str) set_list))
          (pss_one (ps_expr (pe_bm PySem.F.plainAttrs_list PySem.F.slot_list_append PySem.F.type_list_append mt_append (pv 1) (pa_cons (pv 2) pa_nil)))))))
      (pss_one (ps_ret (pe_callTy call_tuple_of (by rfl) T.f_tuple (by decide +kernel) (pa_cons (pv 1) pa_nil)))))), ?_⟩
    refine ⟨ssz rfl, fun f hf => ?_⟩
    have hpl : us.length = ts.length := Paired.length hpd
    refine ⟨_, rfl, ?_⟩
    refine ⟨p, rfl, ⟨us, SqL.of (upd_at hp hf)⟩, ?_⟩
    refine for_list (xs := us) (fun i σ' H' => ∃ o ws, σ' = [some (.ref p), some (.ref f), o] ∧ Same H H' ∧ H' f = some (.lst ws) ∧ Paired (JAt K H') ws (joinT (ts.take i)) ∧ (∀ l, JP.txt l ∈ joinT (ts.take i) → l.length ≤ i) ∧ (joinT (ts.take i)).length ≤ i) ⟨_, [], rfl, Same.nw hf, upd_same, .nil, (fun l h => nomatch h), Nat.le_refl _⟩ (fun i σ' H' _ ⟨o, ws, _, h, _⟩ => SqL.of (h _ _ hp)) ?_ ?_
    · rintro i x σ' H' hx ⟨o, ws, rfl, hsm, hws, hpw, hll, hcn⟩
      obtain ⟨t, ht, hxt0⟩ := Paired.nth hpd hx
      have hxt : TkAt K H' x t := hxt0.same hsm
      have hi : i < ts.length := by
        rcases Nat.lt_or_ge i ts.length with z | z
        · exact z
        · rw [List.getElem?_eq_none z] at ht
          cases ht
      have ejn := joinT_take ht
      have hwl : ws.length = (joinT (ts.take i)).length := Paired.length hpw
      refine ⟨fun b H2 => b = joins (joinT (ts.take i)) t ∧ Same H' H2, ?_, ?_⟩
      · obtain ⟨ty, hty, hk⟩ := TkAt.isStr T hxt
        refine ⟨_, rfl, _, _, ty, _, _, rfl, .ty _, hty, hk, _, rfl, ?_⟩
        cases t with
        | fld nm =>
          refine iteF ?_
          exact ⟨(joins_fld _ _).symm, Same.rfl'⟩
        | ch c =>
          refine iteT ?_
          refine ⟨_, rfl, ssz rfl, fun q hq => ?_⟩
          refine ⟨f, q, ws, rfl, rfl, SqL.of (upd_at hws hq), SqL.of upd_same, _, rfl, ?_⟩
          rcases List.eq_nil_or_concat (joinT (ts.take i)) with e0 | ⟨acc', j, e0⟩
          · rw [e0] at hpw ⊢
            cases hpw
            refine iteF ?_
            exact ⟨(joins_nil _).symm, Same.nw hq⟩
          · rw [List.concat_eq_append] at e0
            rw [e0] at hpw ⊢
            obtain ⟨ws', v, rfl, h1, h2⟩ := Paired.unsnoc hpw
            have hne : (!(ws' ++ [v]).isEmpty) = true := by simp
            rw [if_pos rfl, hne]
            refine iteT ?_
            obtain ⟨ty2, hty2, hk2⟩ := JAt.isStr T (h2.same (Same.nw hq))
            refine ⟨_, rfl, _, rfl, f, _, _, v, rfl, rfl, SqL.of (upd_at hws hq), atI_last _ _, ?_⟩
            refine ⟨_, _, ty2, _, _, rfl, .ty _, hty2, hk2, _, rfl, ?_⟩
            exact ⟨(joins_snoc _ _ _).symm, Same.nw hq⟩
      · rintro b H2 ⟨rfl, hs2⟩
        cases q : joins (joinT (ts.take i)) t with
        | true =>
          refine iteT ?_
          obtain ⟨acc', l, c, rfl, e0, e1⟩ := step_join q
          rw [e0] at hpw
          obtain ⟨ws', v, rfl, h1, h2⟩ := Paired.unsnoc hpw
          have hv : v = .str (tx l) := h2
          have hxc : x = .str (tx [c]) := hxt
          subst hv
          subst hxc
          have hll2 := hll l (by rw [e0]; exact List.mem_append_right _ (List.mem_cons_self ..))
          have hw2 := hs2 _ _ hws
          refine ⟨_, rfl, _, rfl, f, _, _, _, rfl, rfl, by decide, SqL.of hw2, atI_last _ _, ?_⟩
          refine ⟨_, rfl, _, _, rfl, rfl, by rw [tx_len, tx_len, sizeLine_eq, List.length_singleton]; omega, ?_⟩
          refine ⟨f, _, _, ws'.length, rfl, rfl, hw2, by rw [List.length_append, List.length_singleton]; exact ixN_last _, ?_⟩
          have es : (ws' ++ [V.str (tx l)]).set ws'.length (.str (tx l ++ tx [c])) = ws' ++ [.str (tx (l ++ [c]))] := by
            rw [tx_app, List.set_append_right _ _ (Nat.le_refl _), Nat.sub_self]
            rfl
          rw [es]
          refine ⟨_, _, rfl, Same.wr (Same.tr hsm hs2) hf, upd_same, ?_, ?_, ?_⟩
          · rw [ejn, e1]
            exact Paired.snoc' (show JAt K _ _ (.txt (l ++ [c])) from rfl) (Paired.impl h1 fun _ _ z => JAt.upd (z.same hs2) hw2)
          · rw [ejn]
            exact joinStep_len hll
          · rw [ejn]
            exact Nat.le_trans (joinStep_cnt _ _) (Nat.succ_le_succ hcn)
        | false =>
          refine iteF ?_
          have e2 := step_app q
          refine ⟨_, rfl, .inl ⟨rfl, _, SqL.of (hs2 _ _ hws)⟩, _, rfl, f, _, _, rfl, rfl, hs2 _ _ hws, by rw [hwl, sizeLine_eq]; omega, ?_⟩
          refine ⟨_, ws ++ [x], rfl, Same.wr (Same.tr hsm hs2) hf, upd_same, ?_, ?_, ?_⟩
          · rw [ejn, e2]
            refine Paired.snoc' ?_ (Paired.impl hpw fun _ _ z => JAt.upd (z.same hs2) (hs2 _ _ hws))
            cases t with
            | ch c => exact hxt
            | fld nm => exact JAt.upd (t := .fld nm) (FldAt.same hxt hs2) (hs2 _ _ hws)
          · rw [ejn]
            exact joinStep_len hll
          · rw [ejn]
            exact Nat.le_trans (joinStep_cnt _ _) (Nat.succ_le_succ hcn)
    · rintro σ' H' ⟨o, ws, rfl, hsm, hws, hpw, hll, hcn⟩
      rw [hpl, List.take_length] at hpw
      refine ⟨_, rfl, f, ws, rfl, .inl ⟨SqL.of hws, fun q hq => ?_⟩⟩
      exact k q ws _ upd_same (Paired.impl hpw fun _ _ z => z.same (Same.nw hq)) (Same.tr hsm (Same.nw hq))
end
end Ry
namespace Ry
open PySem PySem.Spec PyProof.Rows L2 He RyH
open C8 (pss_cut tCut Cal Met Mak pe_c pe_mk pe_mt pe_mt0 pe_gc)
/-! ### a formatter -/
theorem pe_nev {X : Cx} {e : Expr} : PE X e (fun _ _ _ => False) := ⟨fun _ _ _ _ _ _ h => h.elim⟩
abbrev kV' (z : Str) : Key := Sum.inr z
/-- x not in d: d a dict of the module -/
theorem op_notInK {X : Cx} {a : Addr} {kvs : List (Key × V)} (c : ∀ h : Heap, X.K.In h → (a == sysModules) = false ∧ ∃ vs, KV kvs vs ∧ h.DictOf (mixKind X.prog X.w) a vs) :
    OpR X (compareOp .NotIn) (fun x y H Q => ∃ z : Str, x = .str z ∧ y = .ref a ∧ Q (.bl (!(valV kvs (kV' z)).isSome)) H) := by
  intro pins s σ H x y v u Q I rx ry h
  obtain ⟨z, rfl, rfl, q⟩ := h
  obtain ⟨t, rfl⟩ := rx
  cases ry
  obtain ⟨lo, vs, rel, dd⟩ := c s.heap I.kIn
  refine wpAny_notIn_of (mixKind_str X.prog X.w z t) lo dd.mapOf ?_
  have e : (valueAt vs (Sum.inr z)).isSome = (valV kvs (kV' z)).isSome := by
    have r : RelO (valV kvs (kV' z)) (valueAt vs (Sum.inr z)) := rel.val (Sum.inr z)
    cases q1 : valV kvs (kV' z) with
    | none =>
      rw [q1] at r
      rw [RelO.none_of r]
      rfl
    | some x =>
      rw [q1] at r
      obtain ⟨w', hw, _⟩ := RelO.some_of r
      rw [hw]
      rfl
  refine ⟨.bl _, H, I.tok _, rfl, ?_⟩
  rw [e]
  exact q
def enc (b : Bool) : Tk → List Nat := if b then encB else encD
def tok1 : FP → List Tk
  | .txt x => x.cps.toList.map Tk.ch
  | .mark x => [.fld x.cps.toList]
def toks (ps : List FP) : List Tk := ps.flatMap tok1
theorem part_txt : ∀ x ∈ txtMenu, partText true (.txt x) = tx ((tok1 (.txt x)).flatMap encB) ∧ partText false (.txt x) = tx ((tok1 (.txt x)).flatMap encD) := by decide +kernel
theorem part_mark : ∀ x ∈ markMenu, partText true (.mark x) = tx ((tok1 (.mark x)).flatMap encB) ∧ partText false (.mark x) = tx ((tok1 (.mark x)).flatMap encD) := by decide +kernel
theorem mark_let : ∀ x ∈ markMenu, x.cps.toList ≠ [] ∧ ∀ c ∈ x.cps.toList, isIn letters c = true := by decide +kernel
theorem part_tok {b : Bool} {p : FP} (h : p.ok) : partText b p = tx ((tok1 p).flatMap (enc b)) := by
  cases p with
  | txt x => cases b <;> first | exact (part_txt x h).1 | exact (part_txt x h).2
  | mark x => cases b <;> first | exact (part_mark x h).1 | exact (part_mark x h).2
theorem fmt_tok {b : Bool} : ∀ {ps : List FP} {acc : List Nat}, (∀ p ∈ ps, p.ok) → ps.foldl (fun acc p => acc ++ partText b p) (tx acc) = tx (acc ++ (toks ps).flatMap (enc b))
  | [], acc, _ => by simp [toks]
  | p :: ps, acc, h => by
    rw [List.foldl_cons, part_tok (h p (List.mem_cons_self ..)), tx_app, fmt_tok fun q hq => h q (List.mem_cons_of_mem _ hq)]
    unfold toks
    rw [List.flatMap_cons, List.flatMap_append, List.append_assoc]
theorem fmtText_tok {b : Bool} {ps : List FP} (h : ∀ p ∈ ps, p.ok) : fmtText b ps = tx ((toks ps).flatMap (enc b)) := fmt_tok (acc := []) h
theorem toks_ok {ps : List FP} (h : ∀ p ∈ ps, p.ok) : ∀ t ∈ toks ps, t.ok := fun t ht => by
  obtain ⟨p, hp, hq⟩ := List.mem_flatMap.mp ht
  cases p with
  | txt x =>
    obtain ⟨c, _, rfl⟩ := List.mem_map.mp hq
    exact True.intro
  | mark x =>
    rw [List.mem_singleton.mp hq]
    exact mark_let x (h _ hp)
theorem enc_pos (b : Bool) (t : Tk) : 1 ≤ (enc b t).length := by cases b <;> first | exact encB_pos t | exact encD_pos t
theorem toks_len {b : Bool} {ps : List FP} (h : ∀ p ∈ ps, p.ok) (hl : ps.length ≤ 100) : ((toks ps).flatMap (enc b)).length ≤ 2000 ∧ (toks ps).length ≤ 2000 := by
  have h1 := fmt_len' (b := b) h
  rw [fmtText_tok h, tx_len] at h1
  have h2 := dlen_le (enc := enc b) (toks ps) fun t _ => enc_pos b t
  omega
theorem toks_all {ps : List FP} (h : ps.any FP.isMark = true) : (toks ps).all Tk.isCh = false := by
  obtain ⟨p, hp, hm⟩ := List.any_eq_true.mp h
  rw [List.all_eq_false]
  cases p with
  | txt x => cases hm
  | mark x => exact ⟨.fld x.cps.toList, List.mem_flatMap.mpr ⟨_, hp, List.mem_singleton.mpr rfl⟩, by simp [Tk.isCh]⟩
abbrev fmF (text : Str) (b : Bool) (q dd : Addr) : List (Str × V) := [("fmt", .str text), ("style", .str (styleOf b)), ("parts", .ref q), ("defaults", .ref dd)]
theorem pf_m2 (a b : V) : putF "style" b [("fmt", a)] = ([("fmt", a), ("style", b)] : List (Str × V)) := by kernel_rfl
theorem pf_m3 (a b c : V) : putF "parts" c [("fmt", a), ("style", b)] = ([("fmt", a), ("style", b), ("parts", c)] : List (Str × V)) := by kernel_rfl
theorem pf_m4 (a b c d : V) : putF "defaults" d [("fmt", a), ("style", b), ("parts", c)] = ([("fmt", a), ("style", b), ("parts", c), ("defaults", d)] : List (Str × V)) := by kernel_rfl
theorem alone_in (b : Bool) : (valV kvAlone (kV' (styleOf b))).isSome = true := by cases b <;> kernel_rfl
/-- a formatter of that format -/
def FmAt (K : PySem.W.Frag) (H : Hp) (a : Addr) (b : Bool) (ps : List FP) (dd : Addr) : Prop := ∃ dx q js, H a = some (.ins (ga K "Formatter") dx (fmF (fmtText b ps) b q dd)) ∧ H q = some (.tup js) ∧ Paired (JAt K H) js (joinT (toks ps)) ∧ H dd = some (.dK [])
def spFormatterInit (K : PySem.W.Frag) : Sp := fun vs H Q _ => ∃ (a dx : Addr) (b : Bool) (ps : List FP), vs = [.ref a, .str (fmtText b ps), .str (styleOf b), .bl (ps.any FP.isMark), .non] ∧ H a = some (.ins (ga K "Formatter") dx []) ∧ (∀ p ∈ ps, p.ok) ∧ ps.length ≤ 100 ∧
  ∀ dd H', H dd = none → FmAt K H' a b ps dd → Kp (fun c => c = a) H H' → Q .non H'
theorem FldAt.off {K : PySem.W.Frag} {H : Hp} {v : V} {nm : List Nat} {a C dx : Addr} {fs : List (Str × V)} {o : HO} (h : FldAt K H v nm) (hp : H a = some (.ins C dx fs)) (h5 : fs.length ≠ 5) : FldAt K (L2.upd H a o) v nm := by
  obtain ⟨b, d, e, q⟩ := h
  refine ⟨b, d, e, ?_⟩
  rw [upd_ne (ne_of q hp fun z => ?_)]
  · exact q
  · injection z with _ _ z
    rw [← z] at h5
    exact h5 rfl
theorem TkAt.off {K : PySem.W.Frag} {H : Hp} {v : V} {t : Tk} {a C dx : Addr} {fs : List (Str × V)} {o : HO} (h : TkAt K H v t) (hp : H a = some (.ins C dx fs)) (h5 : fs.length ≠ 5) : TkAt K (L2.upd H a o) v t := by
  cases t with
  | ch c => exact h
  | fld nm => exact FldAt.off h hp h5
theorem JAt.off {K : PySem.W.Frag} {H : Hp} {v : V} {t : JP} {a C dx : Addr} {fs : List (Str × V)} {o : HO} (h : JAt K H v t) (hp : H a = some (.ins C dx fs)) (h5 : fs.length ≠ 5) : JAt K (L2.upd H a o) v t := by
  cases t with
  | txt c => exact h
  | fld nm => exact FldAt.off h hp h5
section
variable {P : Program} {w : World} {K : PySem.W.Frag} {mg : Str → Option Value} {base : Heap}
theorem sc_Formatter_init : FnScope ["self", "fmt", "style", "validate", "defaults", "text", "parts", "part"] ["self", "fmt", "style", "validate", "defaults"] (defScope s_Formatter_init) := ⟨rfl, rfl, rfl, by decide +kernel, rfl, by decide +kernel, by decide +kernel⟩
theorem fn_Formatter_init (T : Txt w K mg) : ∃ fd, FnOk P w K mg base CX0 5 (ma K (ga K "Formatter") "__init__") fd ["self", "fmt", "style", "validate", "defaults"] (spFormatterInit K) ∧ FunD K "__init__" "Formatter.__init__" (defArgs s_Formatter_init) (defBody s_Formatter_init) (defScope s_Formatter_init) (He.DefD.dvs K d_Formatter_init) [] (ma K (ga K "Formatter") "__init__") fd := by
  obtain ⟨fd, F⟩ := T.df_Formatter_init
  have c_parts_of_braces := cal_parts_of_braces (P := P) (base := base) T
  have c_parts_of_dollars := cal_parts_of_dollars (P := P) (base := base) T
  have c_joined_texts := cal_joined_texts (P := P) (base := base) T
  refine ⟨fd, F.ok sc_Formatter_init (fun vs H Q E h => ?_) (fun cdv A outer s H vs Q E hr h => ?_), F⟩
  · obtain ⟨_, _, _, _, rfl, _⟩ := h
    rfl
  · obtain ⟨a, dx, b, ps, rfl, ha, hok, hlen, k⟩ := h
    refine ⟨_, PSs.nox (pss_cons (ps_if (PW.pt (pw_or (pt_not (pt_val (pe_callB (id := "isinstance") call_isi (by rfl) T.f_isinstance (by decide +kernel) (pa_cons (pv 2) (pa_cons (pe_bltn (v := .ty "str") (by rfl) T.f_str (by decide +kernel) rfl) pa_nil))))) (pw_or1 (pt_cmpR (op_notInK (kvs := kvAlone) fun h X => T.d_ALONE X) (pv 2) (pe_gc (by rfl) (T.gv_MESSAGE_ALONE)) rfl))))
        (pss_one ps_never)
        pss_nil)
      (pss_cons (ps_set (i := 5) sc_Formatter_init.nd rfl (Or.inl rfl) (RyT.pe_cutE (pe_ifExp (pt_cmpR op_isN (pv 1) pe_non (nomark _)) pe_nev (pv 1))))
      (pss_cons (ps_set (i := 6) sc_Formatter_init.nd rfl (Or.inl rfl) (RyT.pe_cutE (pe_ifExp (pt_cmpR op_eq (pv 2) pe_str (nomark _)) (pe_c c_parts_of_braces hr (by decide) (by rfl) (pa_cons (pv 5) pa_nil)) (pe_c c_parts_of_dollars hr (by decide) (by rfl) (pa_cons (pv 5) pa_nil)))))
      (pss_cons (ps_if (RyN.pt_cut (PW.pt (pw_or (pt_cmpR op_isN (pv 6) pe_non (nomark _)) (pw_or1 (PW.pt (pw_and (pt_val (pv 3)) (pw_and1 (pt_val (pe_callB (id := "all") (cr_all rfl) (by rfl) T.f_all (by decide +kernel) (pa_cons (pe_lc (own := [("part", 7)]) rfl sc_Formatter_init.nd (pi_list (pv 6)) (blkOk_by (N := ["self", "fmt", "style", "validate", "defaults", "text", "parts", "part"]) (sc := defScope s_Formatter_init) (own := [("part", 7)]) (by decide +kernel)) (fun _ _ _ _ _ => pg_name (i := 7) sc_Formatter_init.nd rfl (Or.inl rfl)) (fun _ _ _ _ _ => pts_nil) (fun _ _ _ _ _ => (pe_callB (id := "isinstance") (r := rIsi K) call_isi (by rfl) T.f_isinstance (by decide +kernel) (pa_cons (pv 7) (pa_cons (pe_bltn (v := .ty "str") (by rfl) T.f_str (by decide +kernel) rfl) pa_nil))))) pa_nil))))))))))
        (pss_one ps_never)
        pss_nil)
      (pss_cons (ps_fld (pv 0) (pv 1) rfl)
      (pss_cons (ps_fld (pv 0) (pv 2) rfl)
      (pss_cons (ps_fld (pv 0) (pe_c c_joined_texts hr (by decide) (by rfl) (pa_cons (pv 6) pa_nil)) rfl)
      (pss_one (ps_fld (pv 0) (RyT.pe_cutE (pe_ifExp (pt_cmpR op_isN (pv 4) pe_non (nomark _)) pe_dnewK pe_nev)) rfl))))))))), ?_⟩
    obtain ⟨ht1, ht2⟩ := toks_len (b := b) hok hlen
    refine ⟨_, rfl, _, _, _, _, _, rfl, .ty _, .base (.str _), kit_ty (show kitB "str" "str" = some true by decide +kernel), _, rfl, ?_⟩
    refine iteF ?_
    refine ⟨_, rfl, _, rfl, rfl, false, congrArg V.bl (by rw [alone_in]; rfl), iteF ?_⟩
    -- text
    refine ⟨fun v H2 => v = .str (fmtText b ps) ∧ H = H2, ⟨_, rfl, rfl, _, rfl, iteF ⟨_, rfl, rfl, rfl⟩⟩, ?_⟩
    rintro _ _ ⟨rfl, rfl⟩
    -- parts
    refine ⟨fun v H2 => ∃ p us, v = .ref p ∧ H p = none ∧ H2 p = some (.lst us) ∧ Paired (TkAt K H2) us (toks ps) ∧ Same H H2, ?_, ?_⟩
    · refine ⟨_, rfl, rfl, _, rfl, ?_⟩
      rw [style_eq]
      cases b with
      | true => exact iteT ⟨_, rfl, toks ps, by rw [fmtText_tok hok]; rfl, Nat.le_trans ht1 (by decide), toks_ok hok, fun p us H' h1 h2 h3 h4 => ⟨p, us, rfl, h1, h2, h3, h4⟩⟩
      | false => exact iteF ⟨_, rfl, toks ps, by rw [fmtText_tok hok]; rfl, Nat.le_trans ht1 (by decide), toks_ok hok, fun p us H' h1 h2 h3 h4 => ⟨p, us, rfl, h1, h2, h3, h4⟩⟩
    rintro _ H1 ⟨p, us, rfl, hp0, hp, hpd, hs1⟩
    -- is it refused
    refine ⟨fun c H2 => c = false ∧ Same H1 H2, ?_, ?_⟩
    · refine ⟨_, rfl, rfl, false, congrArg V.bl (decide_eq_false fun z => nomatch z), iteF ?_⟩
      refine ⟨_, rfl, _, rfl, ?_⟩
      cases em : ps.any FP.isMark with
      | false =>
        refine iteF ?_
        exact ⟨rfl, Same.rfl'⟩
      | true =>
        refine iteT ?_
        refine ⟨_, rfl, ?_⟩
        refine ⟨p, rfl, ⟨us, SqL.of hp⟩, ?_⟩
        intro D hD
        have hul : us.length = (toks ps).length := Paired.length hpd
        refine lc_list (xs := us) (fun i H' => Same H1 H' ∧ H' D = some (.lst ((((toks ps).take i).map Tk.isCh).map V.bl))) ⟨Same.nw hD, upd_same⟩ (fun i H' _ h => SqL.of (h.1 _ _ hp)) ?_ ?_
        · rintro i x H' hx ⟨k1, h1⟩
          obtain ⟨t, ht, hxt⟩ := Paired.nth hpd hx
          refine ⟨rfl, ?_⟩
          refine ⟨_, rfl, ?_⟩
          obtain ⟨ty, hty, hk⟩ := TkAt.isStr T (hxt.same k1)
          refine ⟨_, _, ty, _, _, rfl, .ty _, hty, hk, ?_⟩
          refine ⟨_, h1, by rw [List.length_map, List.length_map, List.length_take, sizeLine_eq]; omega, Same.wr k1 hD, ?_⟩
          rw [upd_same, take_nth ht, List.map_append, List.map_append]
          rfl
        · rintro H' ⟨k1, h1⟩
          refine ⟨D, _, rfl, SqL.of h1, ?_⟩
          have e : (((toks ps).take us.length).map Tk.isCh).all id = false := by
            rw [hul, List.take_length, List.all_map]
            exact toks_all em
          exact ⟨_, rfl, e, k1⟩
    rintro _ H2 ⟨rfl, hs2⟩
    refine iteF ?_
    have h2a := hs2 _ _ (hs1 _ _ ha)
    have h2p := hs2 _ _ hp
    have hpa : p ≠ a := ne_of h2p h2a (fun z => nomatch z)
    refine ⟨_, rfl, _, rfl, a, _, dx, _, rfl, h2a, T.cl_Formatter, T.no_Formatter_fmt, csz rfl, ?_⟩
    refine ⟨_, rfl, _, rfl, a, _, dx, _, rfl, upd_same, T.cl_Formatter, T.no_Formatter_style, csz rfl, ?_⟩
    rw [upd_upd, show putF "fmt" (.str (fmtText b ps)) ([] : List (Str × V)) = ([("fmt", .str (fmtText b ps))] : List (Str × V)) from rfl, pf_m2]
    refine ⟨_, rfl, p, us, toks ps, rfl, by rw [upd_ne hpa]; exact h2p, Paired.impl hpd fun _ _ z => TkAt.off (z.same hs2) h2a (by decide), Nat.le_trans ht2 (by decide), fun q js H3 hq hj hs3 => ?_⟩
    have h3a := hs3 _ _ upd_same
    have hqa : q ≠ a := ne_of hq h3a (fun z => nomatch z)
    refine ⟨_, rfl, a, _, dx, _, rfl, h3a, T.cl_Formatter, T.no_Formatter_parts, csz rfl, ?_⟩
    rw [pf_m3]
    refine ⟨fun v H4 => ∃ dd, v = .ref dd ∧ L2.upd H3 a (.ins (ga K "Formatter") dx [("fmt", .str (fmtText b ps)), ("style", .str (styleOf b)), ("parts", .ref q)]) dd = none ∧ L2.upd (L2.upd H3 a (.ins (ga K "Formatter") dx [("fmt", .str (fmtText b ps)), ("style", .str (styleOf b)), ("parts", .ref q)])) dd (.dK []) = H4, ⟨_, rfl, rfl, _, rfl, iteT fun dd hdd => ⟨dd, rfl, hdd, rfl⟩⟩, ?_⟩
    rintro _ H4 ⟨dd, rfl, hdd, rfl⟩
    refine ⟨_, rfl, a, _, dx, _, rfl, upd_at upd_same hdd, T.cl_Formatter, T.no_Formatter_defaults, csz rfl, ?_⟩
    rw [pf_m4]
    have hda : dd ≠ a := fun z => by rw [z, upd_same] at hdd; cases hdd
    have hd3 : H3 dd = none := was_none hdd
    have hqd : q ≠ dd := ne_of_none hq hd3
    have hdH : H dd = none := Same.was hs1 (Same.was hs2 (was_none (Same.was hs3 hd3)))
    refine k dd _ hdH ⟨dx, q, js, upd_same, ?_, ?_, ?_⟩ ?_
    · rw [upd_ne hqa, upd_ne hqd, upd_ne hqa]
      exact hq
    · exact Paired.impl hj fun _ _ z => JAt.off (JAt.same (JAt.off z h3a (by simp)) (Same.nw hdd)) (upd_at upd_same hdd) (by simp)
    · rw [upd_ne hda, upd_same]
    · exact ((((((Kp.same (M := fun c => c = a) hs1).trans (Kp.same hs2)).trans (Kp.at rfl)).trans (Kp.same hs3)).trans (Kp.at rfl)).trans (Kp.new hdd)).trans (Kp.at rfl)
theorem mk_Formatter (T : Txt w K mg) : Mak P w K mg base 5 "Formatter" (ga K "Formatter") (spFormatterInit K) [.non] := by
  obtain ⟨fd, f, F⟩ := fn_Formatter_init (P := P) (base := base) T
  obtain ⟨ds, hV, hB⟩ := F.binds1 (ps := ["self", "fmt", "style", "validate", "defaults"]) 4 3 (fun z => nomatch z) rfl (fun _ _ _ _ _ _ _ us its h1 h2 => match us, its, h1, h2 with | [_, _, _, _], [_, _, _, _], _, _ => ⟨_, rfl, rfl⟩)
  refine ⟨_, fd, _, _, T.mk_Formatter, ?_, T.m_Formatter, hB, hV⟩
  exact f
end
end Ry
namespace Ry
open PySem PySem.Spec PyProof.Rows L2 He RyH
open C8 (pss_cut tCut Cal Met Mak pe_c pe_mk pe_mt pe_mt0 pe_gc)
/-! ### names of loggers -/
def signs : Str := "abcdefghijklmnopqrstuvwxyzABCDEFGHIJKLMNOPQRSTUVWXYZ0123456789_"
def isPartB (z : Str) : Bool := !decide (V.str z = V.str "") && z.cps.toList.all (isIn signs)
def arePartsB (z : Str) : Bool := (Txt.split z ".").all isPartB
theorem parts_menu : ∀ x ∈ logMenu, arePartsB x = true ∧ x.length ≤ 20 ∧ (Txt.split x ".").all (fun y => decide (y.length ≤ 20)) = true ∧ (Txt.split x ".").length ≤ 10 := by decide +kernel
def spIsPart : Sp := fun vs H Q _ => ∃ (z : Str), vs = [.str z] ∧ z.length ≤ 1000 ∧ ∀ H', Same H H' → Q (.bl (isPartB z)) H'
def spAreParts : Sp := fun vs H Q _ => ∃ (z : Str), vs = [.str z] ∧ z ∈ logMenu ∧ ∀ H', Same H H' → Q (.bl true) H'
section
variable {P : Program} {w : World} {K : PySem.W.Frag} {mg : Str → Option Value} {base : Heap}
theorem sc_is_part : FnScope ["text", "sign"] ["text"] (defScope s_is_part) := ⟨rfl, rfl, rfl, by decide +kernel, rfl, by decide +kernel, by decide +kernel⟩
theorem cal_is_part (T : Txt w K mg) : Cal P w K mg base 1 "is_part" (spIsPart) [] := by
  obtain ⟨fd, F⟩ := T.df_is_part
  refine ⟨_, fd, ["text"], [], F.ok sc_is_part (fun vs H Q E h => ?_) (fun cdv A outer s H vs Q E hr h => ?_), T.m_is_part, F.kp, F.bindsN (fun _ _ _ _ _ _ us hl => match us, hl with | [_], _ => rfl), .nil⟩
  · obtain ⟨_, rfl, _⟩ := h
    rfl
  · obtain ⟨z, rfl, hz, k⟩ := h
    refine ⟨_, PSs.nox (pss_one (ps_ret (pe_and (pe_cmpR op_ne (pv 0) pe_str (nomark _)) (pe_one (pe_callB (id := "all") (cr_all rfl) (by rfl) T.f_all (by decide +kernel) (pa_cons (pe_lc (own := [("sign", 1)]) rfl sc_is_part.nd (pi_str (pv 0)) (blkOk_by (N := ["text", "sign"]) (sc := defScope s_is_part) (own := [("sign", 1)]) (by decide +kernel)) (fun _ _ _ _ _ => pg_name (i := 1) sc_is_part.nd rfl (Or.inl rfl)) (fun _ _ _ _ _ => pts_nil) (fun _ _ _ _ _ => (pe_cmpR op_in_str (pv 1) (pe_gc (by rfl) (T.c_SIGNS)) rfl))) pa_nil)))))), ?_⟩
    refine ⟨_, rfl, rfl, _, rfl, ?_⟩
    cases e : decide (V.str z = V.str "") with
    | true =>
      refine iteF ?_
      have k' := k H Same.rfl'
      unfold isPartB at k'
      rw [e] at k'
      exact k'
    | false =>
      refine iteT ?_
      refine ⟨_, rfl, ?_⟩
      refine ⟨z, rfl, fun D hD => ?_⟩
      have hzl : z.cps.toList.length ≤ 1000 := by rw [Array.length_toList]; exact hz
      refine lc_it (walk_str (z := z)) (fun i H' => Same H H' ∧ H' D = some (.lst (((z.cps.toList.take i).map (isIn signs)).map V.bl))) ⟨Same.nw hD, upd_same⟩ (fun _ _ _ _ => True.intro) ?_ ?_
      · rintro i x H1 H2 hi ⟨k1, h1⟩ ⟨rfl, c, hc, rfl⟩
        have hc2 : z.cps.toList[i]? = some c := by rw [Array.getElem?_toList]; exact hc
        refine ⟨rfl, ?_⟩
        refine ⟨_, rfl, _, _, rfl, rfl, ?_⟩
        refine ⟨_, h1, by rw [List.length_map, List.length_map, List.length_take, sizeLine_eq]; omega, Same.wr k1 hD, ?_⟩
        rw [upd_same, take_nth hc2, List.map_append, List.map_append]
        rfl
      · rintro H' ⟨k1, h1⟩
        refine ⟨D, _, rfl, SqL.of h1, ?_⟩
        have k' := k H' k1
        unfold isPartB at k'
        rw [e] at k'
        have e2 : ((z.cps.toList.take z.cps.size).map (isIn signs)).all id = z.cps.toList.all (isIn signs) := by
          rw [← Array.length_toList, List.take_length, List.all_map]
          rfl
        rw [e2]
        exact k'
theorem sc_are_parts : FnScope ["thing", "part"] ["thing"] (defScope s_are_parts) := ⟨rfl, rfl, rfl, by decide +kernel, rfl, by decide +kernel, by decide +kernel⟩
theorem cal_are_parts (T : Txt w K mg) : Cal P w K mg base 2 "are_parts" (spAreParts) [] := by
  obtain ⟨fd, F⟩ := T.df_are_parts
  have c_is_part := cal_is_part (P := P) (base := base) T
  refine ⟨_, fd, ["thing"], [], F.ok sc_are_parts (fun vs H Q E h => ?_) (fun cdv A outer s H vs Q E hr h => ?_), T.m_are_parts, F.kp, F.bindsN (fun _ _ _ _ _ _ us hl => match us, hl with | [_], _ => rfl), .nil⟩
  · obtain ⟨_, rfl, _⟩ := h
    rfl
  · obtain ⟨z, rfl, hz, k⟩ := h
    refine ⟨_, PSs.nox (pss_one (ps_ret (pe_and (pe_callB (id := "isinstance") call_isi (by rfl) T.f_isinstance (by decide +kernel) (pa_cons (pv 0) (pa_cons (pe_bltn (v := .ty "str") (by rfl) T.f_str (by decide +kernel) rfl) pa_nil))) (pe_one (pe_callB (id := "all") (cr_all rfl) (by rfl) T.f_all (by decide +kernel) (pa_cons (pe_lc (own := [("part", 1)]) rfl sc_are_parts.nd (pi_list (pe_split (pv 0) pe_str)) (blkOk_by (N := ["thing", "part"]) (sc := defScope s_are_parts) (own := [("part", 1)]) (by decide +kernel)) (fun _ _ _ _ _ => pg_name (i := 1) sc_are_parts.nd rfl (Or.inl rfl)) (fun _ _ _ _ _ => pts_nil) (fun _ _ _ _ _ => (pe_c c_is_part hr (by decide) (by rfl) (pa_cons (pv 1) pa_nil)))) pa_nil)))))), ?_⟩
    obtain ⟨h1', h2, h3, h4⟩ := parts_menu z hz
    refine ⟨_, rfl, _, _, _, _, _, rfl, .ty _, .base (.str z), kit_ty (show kitB "str" "str" = some true by decide +kernel), ?_⟩
    refine ⟨_, rfl, ?_⟩
    refine iteT ?_
    refine ⟨_, rfl, ⟨_, rfl⟩, _, _, rfl, rfl, rfl, by rw [sizeLine_eq]; omega, fun p hp => ?_⟩
    refine ⟨p, rfl, ⟨_, SqL.of upd_same⟩, ?_⟩
    intro D hD
    have hDp : p ≠ D := ne_of_none upd_same hD
    have hD0 : H D = none := was_none hD
    refine lc_list (xs := (Txt.split z ".").map V.str) (fun i H' => Same (L2.upd H p (.lst ((Txt.split z ".").map V.str))) H' ∧ H' D = some (.lst ((((Txt.split z ".").take i).map isPartB).map V.bl))) ⟨Same.nw hD, upd_same⟩ (fun i H' _ h => SqL.of (h.1 _ _ upd_same)) ?_ ?_
    · rintro i x H' hx ⟨k1, h1⟩
      obtain ⟨y, hy, rfl⟩ : ∃ y, (Txt.split z ".")[i]? = some y ∧ x = .str y := by
        rw [List.getElem?_map] at hx
        cases q : (Txt.split z ".")[i]? with
        | none => rw [q] at hx; cases hx
        | some y => rw [q] at hx; exact ⟨y, rfl, (Option.some.inj hx).symm⟩
      have hyl : y.length ≤ 20 := of_decide_eq_true (List.all_eq_true.mp h3 y (List.mem_of_getElem? hy))
      refine ⟨rfl, ?_⟩
      refine ⟨_, rfl, y, rfl, by omega, fun H2 hs2 => ?_⟩
      refine ⟨_, hs2 _ _ h1, by rw [List.length_map, List.length_map, List.length_take, sizeLine_eq]; omega, Same.wr (Same.tr k1 hs2) hD, ?_⟩
      rw [upd_same, take_nth hy, List.map_append, List.map_append]
      rfl
    · rintro H' ⟨k1, h1⟩
      refine ⟨D, _, rfl, SqL.of h1, ?_⟩
      have e : ((((Txt.split z ".").take ((Txt.split z ".").map V.str).length).map isPartB)).all id = true := by
        rw [List.length_map, List.take_length, List.all_map]
        exact h1'
      rw [e]
      exact k H' (Same.tr (Same.nw hp) k1)
end
end Ry
namespace Ry
open PySem PySem.Spec PyProof.Rows L2 He RyH
open C8 (pss_cut tCut Cal Met Mak pe_c pe_mk pe_mt pe_mt0 pe_gc)
/-! ### parents -/
/-- the nearest one above that stands in the map -/
def parF (rows : List (Str × Addr)) (rt : Addr) (parts : List Str) : Nat → Addr
  | 0 => rt
  | k + 1 => match rows.lookup (Txt.join "." (parts.take (k + 1))) with
    | some a => a
    | none => parF rows rt parts k
def parentA (rows : List (Str × Addr)) (rt : Addr) (nm : Str) : Addr := parF rows rt (Txt.split nm ".") ((Txt.split nm ".").length - 1)
theorem valV_row (k : Str) : ∀ rows : List (Str × Addr), valV (rows.map rowE) (kS k) = (rows.lookup k).map V.ref
  | [] => rfl
  | r :: rows => by
    rw [List.map_cons]
    by_cases e : r.1 = k
    · rw [valV_pos (p := rowE r) (by show Sum.inr r.1 = Sum.inr k; rw [e])]
      obtain ⟨a, b⟩ := r
      cases e
      rw [List.lookup_cons_self]
      rfl
    · rw [valV_neg (p := rowE r) (fun z => e (Sum.inr.inj z)), valV_row k rows]
      obtain ⟨a, b⟩ := r
      have e2 : (k == a) = false := beq_eq_false_iff_ne.mpr fun z => e z.symm
      rw [List.lookup_cons, e2]
theorem split_pos : ∀ x ∈ logMenu, 1 ≤ (Txt.split x ".").length := by decide +kernel
theorem join_menu : ∀ x ∈ logMenu, ∀ k < 11, ((((Txt.split x ".").take k).map (·.length)).sum + ((Txt.split x ".").take k).length * 1) ≤ 1000 := by decide +kernel
/-- the yard's object tells the map and the root -/
structure YMap (K : PySem.W.Frag) (H : Hp) (y lm rt : Addr) (fy : List (Str × V)) (rows : List (Str × Addr)) : Prop where
  ins : YIns K H y fy
  mapF : lk fy "logger_map" = some (.ref lm)
  rootF : lk fy "root" = some (.ref rt)
  at_ : H lm = some (.dK (rows.map rowE))
theorem YMap.same {K : PySem.W.Frag} {H H' : Hp} {y lm rt : Addr} {fy : List (Str × V)} {rows : List (Str × Addr)} (h : YMap K H y lm rt fy rows) (k : Same H H') : YMap K H' y lm rt fy rows := by
  obtain ⟨⟨dy, e⟩, a, b, c⟩ := h
  exact ⟨⟨dy, k _ _ e⟩, a, b, k _ _ c⟩
def spParentOf (K : PySem.W.Frag) : Sp := fun vs H Q _ => ∃ (y lm rt : Addr) (fy : List (Str × V)) (rows : List (Str × Addr)) (nm : Str), vs = [.ref y, .str nm] ∧ YMap K H y lm rt fy rows ∧ nm ∈ logMenu ∧ ∀ H', Same H H' → Q (.ref (parentA rows rt nm)) H'
section
variable {P : Program} {w : World} {K : PySem.W.Frag} {mg : Str → Option Value} {base : Heap}
theorem sc_parent_of : FnScope ["yard", "name", "parts", "many", "above"] ["yard", "name"] (defScope s_parent_of) := ⟨rfl, rfl, rfl, by decide +kernel, rfl, by decide +kernel, by decide +kernel⟩
theorem cal_parent_of (T : Txt w K mg) : Cal P w K mg base 1 "parent_of" (spParentOf K) [] := by
  obtain ⟨fd, F⟩ := T.df_parent_of
  refine ⟨_, fd, ["yard", "name"], [], F.ok sc_parent_of (fun vs H Q E h => ?_) (fun cdv A outer s H vs Q E hr h => ?_), T.m_parent_of, F.kp, F.bindsN (fun _ _ _ _ _ _ us hl => match us, hl with | [_, _], _ => rfl), .nil⟩
  · obtain ⟨_, _, _, _, _, _, rfl, _⟩ := h
    rfl
  · obtain ⟨y, lm, rt, fy, rows, nm, rfl, hy, hnm, k⟩ := h
    refine ⟨_, PSs.nox (pss_cons (ps_set (i := 2) sc_parent_of.nd rfl (Or.inl rfl) (pe_split (pv 1) pe_str))
      (pss_cons (ps_for PassesOwn.never rfl (pi_range3 (by rfl) T.f_range (pa_cons (pe_op op_sub (pe_callB (id := "len") call_len_seq (by rfl) T.f_len PySem.boot_len (pa_cons (pv 2) pa_nil)) pe_int) (pa_cons pe_int (pa_cons (pe_un un_neg pe_int) pa_nil)))) (pg_name (i := 3) sc_parent_of.nd rfl (Or.inl rfl))
        (pss_cons (ps_set (i := 4) sc_parent_of.nd rfl (Or.inl rfl) (pe_dget1 (hu_of hr) (pe_fld (pv 0) rfl) (pe_join pe_str (pe_slice sl_list (pv 2) po_none (po_some (pv 3)))) (by constructor <;> rfl)))
        (pss_one (ps_if (pt_cmpR op_notN (pv 4) pe_non (nomark _))
          (pss_one (ps_ret (pv 4)))
          pss_nil))))
      (pss_one (ps_ret (pe_fld (pv 0) rfl))))), ?_⟩
    obtain ⟨h1', h2, h3, h4⟩ := parts_menu nm hnm
    refine ⟨_, rfl, ⟨_, rfl⟩, _, _, rfl, rfl, rfl, by rw [sizeLine_eq]; omega, fun p hp => ?_⟩
    have hs0 : Same H (L2.upd H p (.lst ((Txt.split nm ".").map V.str))) := Same.nw hp
    have hpe := upd_same (H := H) (a := p) (o := .lst ((Txt.split nm ".").map V.str))
    generalize L2.upd H p (.lst ((Txt.split nm ".").map V.str)) = H1 at *
    refine ⟨_, rfl, p, _, rfl, .inl (SqL.of hpe), ?_⟩
    refine ⟨_, _, rfl, rfl, ?_⟩
    refine ⟨_, rfl, ?_⟩
    rw [List.length_map]
    have hL : 1 ≤ (Txt.split nm ".").length := split_pos nm hnm
    obtain ⟨m, hm⟩ : ∃ m, (Txt.split nm ".").length - 1 = m := ⟨_, rfl⟩
    have hmi : (((Txt.split nm ".").length : Nat) : Int) - 1 = ((m : Nat) : Int) := by omega
    have hrg : RgC ((m : Nat) : Int) 0 (-1) m := by
      have z := RgC.neg (i := ((m : Nat) : Int)) (j := 0) (by omega) (by omega) (by decide) (by decide)
      rwa [show (((m : Nat) : Int) - 0).toNat = m by omega] at z
    have hk : parentA rows rt nm = parF rows rt (Txt.split nm ".") m := by unfold parentA; rw [hm]
    refine ⟨((m : Nat) : Int), 0, -1, m, by show [V.int ((((Txt.split nm ".").length : Nat) : Int) - 1), V.int 0, V.int (-1)] = _; rw [hmi], hrg, ?_⟩
    refine for_rangeC (n := m) (fun i σ' H' => i ≤ m ∧ ∃ o3 o4, σ' = [some (.ref y), some (.str nm), some (.ref p), o3, o4] ∧ Same H1 H' ∧ parF rows rt (Txt.split nm ".") m = parF rows rt (Txt.split nm ".") (m - i)) ⟨Nat.zero_le _, _, _, rfl, Same.rfl', rfl⟩ ?_ ?_
    · rintro i σ' H' hi ⟨_, o3, o4, rfl, hs1, hpar⟩
      obtain ⟨j, hj⟩ : ∃ j, m - i = j + 1 := ⟨m - i - 1, by omega⟩
      have hv : ((m : Nat) : Int) + ((i : Nat) : Int) * -1 = ((j + 1 : Nat) : Int) := by omega
      rw [hv]
      have hyH := (hy.same hs0).same hs1
      obtain ⟨dy, hyi⟩ := hyH.ins
      refine ⟨_, rfl, y, _, dy, fy, _, rfl, hyi, T.cl_Yard, T.no_Yard_logger_map, hyH.mapF, ?_⟩
      refine ⟨lm, rfl, .inl ⟨_, .inl hyH.at_⟩, ?_⟩
      refine ⟨⟨_, rfl⟩, _, rfl, _, rfl, _, rfl, p, _, rfl, SqL.of (hs1 _ _ hpe), fun q hq => ?_⟩
      have ecut : cutV ((Txt.split nm ".").map V.str) none (some ((j + 1 : Nat) : Int)) = ((Txt.split nm ".").take (j + 1)).map V.str := by
        unfold cutV
        rw [HT.sIx_nat, HT.sIx_none, List.length_map, List.drop_zero, Nat.sub_zero, List.map_take]
        rw [Nat.min_eq_left (by omega)]
      rw [ecut]
      have hjm := join_menu nm hnm (j + 1) (by omega)
      refine ⟨_, q, _, rfl, rfl, .inl (SqL.of upd_same), by show _ + _ * 1 ≤ _; omega, ?_⟩
      refine ⟨_, DGet.k (k := kS (Txt.join "." ((Txt.split nm ".").take (j + 1)))) (upd_at hyH.at_ hq), ?_⟩
      rw [valV_row]
      have hst : parF rows rt (Txt.split nm ".") (j + 1) = match rows.lookup (Txt.join "." ((Txt.split nm ".").take (j + 1))) with | some a => a | none => parF rows rt (Txt.split nm ".") j := rfl
      rw [hj, hst] at hpar
      cases ql : rows.lookup (Txt.join "." ((Txt.split nm ".").take (j + 1))) with
      | some a =>
        rw [ql] at hpar
        refine ⟨_, rfl, rfl, true, congrArg V.bl (by rfl), iteT ?_⟩
        refine ⟨_, rfl, ?_⟩
        rw [hk, hpar] at k
        exact k _ (Same.tr hs0 (Same.tr hs1 (Same.nw hq)))
      | none =>
        rw [ql] at hpar
        refine ⟨_, rfl, rfl, false, congrArg V.bl (by rfl), iteF ?_⟩
        exact ⟨hi, _, _, rfl, Same.tr hs1 (Same.nw hq), by rw [hpar, show m - (i + 1) = j by omega]⟩
    · rintro σ' H' ⟨_, o3, o4, rfl, hs1, hpar⟩
      have hyH := (hy.same hs0).same hs1
      obtain ⟨dy, hyi⟩ := hyH.ins
      refine ⟨_, rfl, y, _, dy, fy, _, rfl, hyi, T.cl_Yard, T.no_Yard_root, hyH.rootF, ?_⟩
      rw [hk, hpar, Nat.sub_self] at k
      exact k _ (Same.tr hs0 hs1)
end
end Ry
namespace Ry
open PySem PySem.Spec PyProof.Rows L2 He RyH
open C8 (pss_cut tCut Cal Met Mak pe_c pe_mk pe_mt pe_mt0 pe_gc)
/-! ### all parents are set anew -/
theorem lookup_nd {α : Type} : ∀ {rows : List (Str × α)} {j : Nat} {r : Str × α}, (rows.map (·.1)).Nodup → rows[j]? = some r → rows.lookup r.1 = some r.2
  | (a, b) :: rows, 0, r, _, e => by
    cases e
    exact List.lookup_cons_self
  | (a, b) :: rows, j + 1, r, h, e => by
    rw [List.map_cons, List.nodup_cons] at h
    have hm : r ∈ rows := List.mem_of_getElem? (show rows[j]? = some r from e)
    have hne : (r.1 == a) = false := beq_eq_false_iff_ne.mpr fun z => h.1 (by rw [← show a = a from rfl]; exact z ▸ List.mem_map.mpr ⟨r, hm, rfl⟩)
    rw [List.lookup_cons, hne]
    exact lookup_nd (j := j) h.2 e
theorem nodup_inj {α : Type} : ∀ {xs : List α} {i j : Nat} {x : α}, xs.Nodup → xs[i]? = some x → xs[j]? = some x → i = j
  | _ :: _, 0, 0, _, _, _, _ => rfl
  | a :: xs, 0, j + 1, x, h, h1, h2 => by
    cases h1
    exact absurd (List.mem_of_getElem? (show xs[j]? = some a from h2)) (List.nodup_cons.mp h).1
  | a :: xs, i + 1, 0, x, h, h1, h2 => by
    cases h2
    exact absurd (List.mem_of_getElem? (show xs[i]? = some a from h1)) (List.nodup_cons.mp h).1
  | a :: xs, i + 1, j + 1, x, h, h1, h2 => congrArg Nat.succ (nodup_inj (List.nodup_cons.mp h).2 (show xs[i]? = some x from h1) (show xs[j]? = some x from h2))
def rowsM (rows : List (Str × Addr)) : Addr → Prop := fun b => ∃ r ∈ rows, r.2 = b
def spPlace (K : PySem.W.Frag) : Sp := fun vs H Q _ => ∃ (y lm rt : Addr) (fy : List (Str × V)) (rows : List (Str × Addr)), vs = [.ref y] ∧ YMap K H y lm rt fy rows ∧ (∀ r ∈ rows, r.1 ∈ logMenu) ∧
  (∀ r ∈ rows, ∃ dx fs, H r.2 = some (.ins (ga K "Logger") dx fs) ∧ fs.length < 1000) ∧ (rows.map (·.2)).Nodup ∧ (rows.map (·.1)).Nodup ∧ ¬ rowsM rows y ∧ rows.length ≤ 100 ∧
  ∀ H', (∀ r ∈ rows, ∀ dx fs, H r.2 = some (.ins (ga K "Logger") dx fs) → H' r.2 = some (.ins (ga K "Logger") dx (putF "parent" (.ref (parentA rows rt r.1)) fs))) → Kp (rowsM rows) H H' → Q .non H'
section
variable {P : Program} {w : World} {K : PySem.W.Frag} {mg : Str → Option Value} {base : Heap}
theorem sc_place_loggers : FnScope ["yard", "name"] ["yard"] (defScope s_place_loggers) := ⟨rfl, rfl, rfl, by decide +kernel, rfl, by decide +kernel, by decide +kernel⟩
theorem cal_place_loggers (T : Txt w K mg) : Cal P w K mg base 2 "place_loggers" (spPlace K) [] := by
  obtain ⟨fd, F⟩ := T.df_place_loggers
  have c_parent_of := cal_parent_of (P := P) (base := base) T
  refine ⟨_, fd, ["yard"], [], F.ok sc_place_loggers (fun vs H Q E h => ?_) (fun cdv A outer s H vs Q E hr h => ?_), T.m_place_loggers, F.kp, F.bindsN (fun _ _ _ _ _ _ us hl => match us, hl with | [_], _ => rfl), .nil⟩
  · obtain ⟨_, _, _, _, _, rfl, _⟩ := h
    rfl
  · obtain ⟨y, lm, rt, fy, rows, rfl, hy, hmenu, hins, hnd2, hnd1, hyM, hlen, k⟩ := h
    refine ⟨_, PSs.nox (pss_one (ps_for PassesOwn.never rfl (pi_list (pe_callTy (T := "list") (call_listD rfl) (by rfl) T.f_list (by decide +kernel) (pa_cons (pe_fld (pv 0) rfl) pa_nil))) (pg_name (i := 1) sc_place_loggers.nd rfl (Or.inl rfl))
        (pss_one (ps_fld (pe_dget (hu_of hr) (pe_fld (pv 0) rfl) (pv 1) (fun _ _ => rfl)) (pe_c c_parent_of hr (by decide) (by rfl) (pa_cons (pv 0) (pa_cons (pv 1) pa_nil))) rfl)))), ?_⟩
    obtain ⟨dy, hyi⟩ := hy.ins
    have hlmM : ¬ rowsM rows lm := fun ⟨r, hr, e⟩ => by
      obtain ⟨dx, fs, q, _⟩ := hins r hr
      rw [e, hy.at_] at q
      cases q
    refine ⟨_, rfl, y, _, dy, fy, _, rfl, hyi, T.cl_Yard, T.no_Yard_logger_map, hy.mapF, ?_⟩
    refine ⟨lm, _, rfl, .inl hy.at_, fun q hq => ?_⟩
    have hqM : ¬ rowsM rows q := fun ⟨r, hr, e⟩ => by
      obtain ⟨dx, fs, z, _⟩ := hins r hr
      rw [e, hq] at z
      cases z
    have hkeys : (rows.map rowE).map (fun kv => kV kv.1) = (rows.map (·.1)).map V.str := by
      rw [List.map_map, List.map_map]
      rfl
    rw [hkeys]
    refine ⟨q, rfl, ⟨_, SqL.of upd_same⟩, ?_⟩
    refine for_list (xs := (rows.map (·.1)).map V.str) (fun i σ' H' => ∃ o, σ' = [some (.ref y), o] ∧ Kp (rowsM rows) H H' ∧ H' q = some (.lst ((rows.map (·.1)).map V.str)) ∧
      ∀ j r, rows[j]? = some r → ∀ dx fs, H r.2 = some (.ins (ga K "Logger") dx fs) → H' r.2 = some (.ins (ga K "Logger") dx (if j < i then putF "parent" (.ref (parentA rows rt r.1)) fs else fs))) ?_ (fun i σ' H' _ ⟨_, _, _, h, _⟩ => SqL.of h) ?_ ?_
    · refine ⟨_, rfl, Kp.new hq, upd_same, fun j r hr dx fs h => ?_⟩
      rw [if_neg (Nat.not_lt_zero _)]
      exact upd_at h hq
    · rintro i x σ' H' hx ⟨o, rfl, hk, hql, hall⟩
      obtain ⟨r, hr, rfl⟩ : ∃ r, rows[i]? = some r ∧ x = .str r.1 := by
        rw [List.getElem?_map, List.getElem?_map] at hx
        cases q : rows[i]? with
        | none => rw [q] at hx; cases hx
        | some r => rw [q] at hx; exact ⟨r, rfl, (Option.some.inj hx).symm⟩
      have hmem : r ∈ rows := List.mem_of_getElem? hr
      have hy' : YMap K H' y lm rt fy rows := ⟨⟨dy, hk _ _ hyi hyM⟩, hy.mapF, hy.rootF, hk _ _ hy.at_ hlmM⟩
      refine ⟨_, rfl, _, rfl, y, lm, rt, fy, rows, r.1, rfl, hy', hmenu r hmem, fun H2 hs2 => ?_⟩
      have hy2 := hy'.same hs2
      obtain ⟨dy2, hyi2⟩ := hy2.ins
      obtain ⟨dx, fs, hri, hfl⟩ := hins r hmem
      have h2 := hs2 _ _ (hall i r hr dx fs hri)
      rw [if_neg (Nat.lt_irrefl _)] at h2
      refine ⟨_, rfl, y, _, dy2, fy, _, rfl, hyi2, T.cl_Yard, T.no_Yard_logger_map, hy2.mapF, ?_⟩
      refine ⟨_, rfl, ?_⟩
      refine ⟨lm, .ref r.2, rfl, ?_, ?_⟩
      · have z := DGet.k (k := kS r.1) hy2.at_
        rw [valV_row, lookup_nd hnd1 hr] at z
        exact z
      · refine ⟨r.2, _, dx, fs, rfl, h2, T.cl_Logger, T.no_Logger_parent, hfl, ?_⟩
        have hqr : q ≠ r.2 := fun z => hqM ⟨r, hmem, z.symm⟩
        refine ⟨_, rfl, (hk.trans (Kp.same hs2)).wrM ⟨r, hmem, rfl⟩, by rw [upd_ne hqr]; exact hs2 _ _ hql, fun j r' hr' dx' fs' h' => ?_⟩
        by_cases e : j = i
        · subst e
          rw [hr] at hr'
          cases hr'
          rw [hri] at h'
          cases h'
          rw [if_pos (Nat.lt_succ_self _), upd_same]
        · have hne : r'.2 ≠ r.2 := fun z => by
            have h1 : (rows.map (·.2))[j]? = some r'.2 := by rw [List.getElem?_map, hr']; rfl
            have h2 : (rows.map (·.2))[i]? = some r.2 := by rw [List.getElem?_map, hr]; rfl
            rw [z] at h1
            exact e (nodup_inj hnd2 h1 h2)
          rw [upd_ne hne, hs2 _ _ (hall j r' hr' dx' fs' h')]
          by_cases e2 : j < i
          · rw [if_pos e2, if_pos (by omega)]
          · rw [if_neg e2, if_neg (by omega)]
    · rintro σ' H' ⟨o, rfl, hk, hql, hall⟩
      refine k H' (fun r hr dx fs h => ?_) hk
      obtain ⟨j, hj, e⟩ := List.getElem_of_mem hr
      have z := hall j r (by rw [List.getElem?_eq_getElem hj, e]) dx fs h
      rw [if_pos (by rw [List.length_map, List.length_map]; exact hj)] at z
      exact z
end
end Ry
namespace Ry
open PySem PySem.Spec PyProof.Rows L2 He RyH
open C8 (pss_cut tCut Cal Met Mak pe_c pe_mk pe_mt pe_mt0 pe_gc)
/-! ### a logger by its name -/
/-- what a map of loggers asks -/
structure Lgs (K : PySem.W.Frag) (H : Hp) (y lm : Addr) (rows : List (Str × Addr)) : Prop where
  menu : ∀ r ∈ rows, r.1 ∈ logMenu
  ins : ∀ r ∈ rows, ∃ dx fs, H r.2 = some (.ins (ga K "Logger") dx fs) ∧ fs.length < 1000
  nd2 : (rows.map (·.2)).Nodup
  nd1 : (rows.map (·.1)).Nodup
  noY : ¬ rowsM rows y
  few : rows.length ≤ 90
theorem logMenu_ne : ∀ x ∈ logMenu, decide (V.str x = V.str "") = false ∧ decide (V.str x = V.str "root") = false := by decide +kernel
def spGetLogger (K : PySem.W.Frag) : Sp := fun vs H Q _ => ∃ (y lm rt : Addr) (fy : List (Str × V)) (rows : List (Str × Addr)) (nm : Str), vs = [.ref y, .str nm] ∧ YMap K H y lm rt fy rows ∧
  ((nm = "" ∧ Q (.ref rt) H) ∨
   (nm ∈ logMenu ∧ ∃ a, rows.lookup nm = some a ∧ ∀ H', Same H H' → Q (.ref a) H') ∨
   (nm ∈ logMenu ∧ nm ∉ rows.map (·.1) ∧ Lgs K H y lm rows ∧ ∀ a fl hl dx H', H a = none → H fl = none → H hl = none → fl ≠ hl → a ≠ fl → a ≠ hl → H' lm = some (.dK ((rows ++ [(nm, a)]).map rowE)) →
     H' a = some (.ins (ga K "Logger") dx (lgF y fl nm 0 true false hl (.ref (parentA (rows ++ [(nm, a)]) rt nm)))) → H' fl = some (.lst []) → H' hl = some (.lst []) →
     (∀ r ∈ rows, ∀ dx fs, H r.2 = some (.ins (ga K "Logger") dx fs) → H' r.2 = some (.ins (ga K "Logger") dx (putF "parent" (.ref (parentA (rows ++ [(nm, a)]) rt r.1)) fs))) →
     Kp (fun b => b = lm ∨ rowsM rows b) H H' → Q (.ref a) H'))
theorem pf_lp (y fl : Addr) (nm : Str) (lv : Int) (pr di : Bool) (hl : Addr) (pa v : V) : putF "parent" v (lgF y fl nm lv pr di hl pa) = lgF y fl nm lv pr di hl v := by kernel_rfl
theorem lookup_none {α : Type} {rows : List (Str × α)} {k : Str} (h : k ∉ rows.map (·.1)) : rows.lookup k = none := by
  induction rows with
  | nil => rfl
  | cons r rows ih =>
    obtain ⟨a, b⟩ := r
    rw [List.map_cons, List.mem_cons] at h
    have e2 : (k == a) = false := beq_eq_false_iff_ne.mpr fun z => h (.inl z)
    rw [List.lookup_cons, e2]
    exact ih fun z => h (.inr z)
theorem putA_new {α : Type} {rows : List (Str × α)} {k : Str} {v : α} (h : k ∉ rows.map (·.1)) : putA rows k v = rows ++ [(k, v)] := by
  unfold putA
  rw [if_neg]
  intro z
  obtain ⟨x, hx, e⟩ := List.any_eq_true.mp z
  exact h (List.mem_map.mpr ⟨x, hx, of_decide_eq_true e⟩)
section
variable {P : Program} {w : World} {K : PySem.W.Frag} {mg : Str → Option Value} {base : Heap}
theorem sc_Yard_getLogger : FnScope ["self", "name"] ["self", "name"] (defScope s_Yard_getLogger) := ⟨rfl, rfl, rfl, by decide +kernel, rfl, by decide +kernel, by decide +kernel⟩
theorem fn_Yard_getLogger (T : Txt w K mg) : ∃ fd, FnOk P w K mg base CX0 4 (ma K (ga K "Yard") "getLogger") fd ["self", "name"] (spGetLogger K) ∧ FunD K "getLogger" "Yard.getLogger" (defArgs s_Yard_getLogger) (defBody s_Yard_getLogger) (defScope s_Yard_getLogger) (He.DefD.dvs K d_Yard_getLogger) [] (ma K (ga K "Yard") "getLogger") fd := by
  obtain ⟨fd, F⟩ := T.df_Yard_getLogger
  have c_are_parts := cal_are_parts (P := P) (base := base) T
  have c_mk_Logger := mk_Logger (P := P) (base := base) T
  have c_place_loggers := cal_place_loggers (P := P) (base := base) T
  refine ⟨fd, F.ok sc_Yard_getLogger (fun vs H Q E h => ?_) (fun cdv A outer s H vs Q E hr h => ?_), F⟩
  · obtain ⟨_, _, _, _, _, _, rfl, _⟩ := h
    rfl
  · obtain ⟨y, lm, rt, fy, rows, nm, rfl, hy, hc⟩ := h
    refine ⟨_, PSs.nox (pss_cons (ps_if (RyN.pt_cut (PW.pt (pw_or (pt_cmpR op_eq (pv 1) pe_str (nomark _)) (pw_or1 (pt_cmpR op_eq (pv 1) pe_str (nomark _))))))
        (pss_one (ps_ret (pe_fld (pv 0) rfl)))
        pss_nil)
      (pss_cons (ps_if (pt_not (pt_val (pe_c c_are_parts hr (by decide) (by rfl) (pa_cons (pv 1) pa_nil))))
        (pss_one ps_never)
        pss_nil)
      (pss_cut (ps_if (pt_cmp (pc_dnotin (hu_of hr) (pv 1) (pe_fld (pv 0) rfl)) rfl)
        (pss_cons (ps_dput (hu_of hr) (pe_fld (pv 0) rfl) (pv 1) (pe_mk c_mk_Logger hr (by decide) (by rfl) (pa_cons (pv 0) (pa_cons (pv 1) (pa_cons (pe_gc (by rfl) (T.c_NOTSET)) pa_nil)))) rfl)
        (pss_one (ps_expr (pe_c c_place_loggers hr (by decide) (by rfl) (pa_cons (pv 0) pa_nil)))))
        pss_nil)
      (pss_one (ps_ret (pe_dget (hu_of hr) (pe_fld (pv 0) rfl) (pv 1) (fun _ _ => rfl))))))), ?_⟩
    obtain ⟨dy, hyi⟩ := hy.ins
    refine ⟨fun b H2 => H = H2 ∧ (b = true ↔ nm = ""), ?_, ?_⟩
    · refine ⟨_, rfl, rfl, decide (V.str nm = V.str ""), rfl, ?_⟩
      cases e : decide (V.str nm = V.str "") with
      | true =>
        refine iteT ?_
        exact ⟨rfl, fun _ => V.str.inj (of_decide_eq_true e), fun _ => rfl⟩
      | false =>
        refine iteF ?_
        have hn : nm ≠ "" := fun z => by rw [z] at e; exact absurd e (by decide)
        have hmenu : nm ∈ logMenu := by
          rcases hc with ⟨h, _⟩ | ⟨h, _⟩ | ⟨h, _⟩
          · exact absurd h hn
          · exact h
          · exact h
        refine ⟨_, rfl, rfl, false, congrArg V.bl (logMenu_ne nm hmenu).2, ?_⟩
        exact ⟨rfl, fun z => Bool.noConfusion z, fun z => absurd z hn⟩
    rintro b H2 ⟨rfl, hb⟩
    rcases hc with ⟨rfl, k⟩ | hc
    · rw [show b = true from hb.mpr rfl]
      refine iteT ?_
      exact ⟨_, rfl, y, _, dy, fy, _, rfl, hyi, T.cl_Yard, T.no_Yard_root, hy.rootF, k⟩
    have hmenu : nm ∈ logMenu := by
      rcases hc with ⟨h, _⟩ | ⟨h, _⟩ <;> exact h
    have hbf : b = false := by
      cases b with
      | false => rfl
      | true =>
        have z := (logMenu_ne nm hmenu).1
        rw [hb.mp rfl] at z
        exact absurd z (by decide)
    subst hbf
    refine iteF ?_
    refine ⟨_, rfl, nm, rfl, hmenu, fun H1 hs1 => ?_⟩
    refine ⟨_, rfl, iteF ?_⟩
    have hy1 := hy.same hs1
    obtain ⟨dy1, hyi1⟩ := hy1.ins
    refine ⟨fun σ' H' => σ' = [some (.ref y), some (.str nm)] ∧ ∃ a rows', YMap K H' y lm rt fy rows' ∧ rows'.lookup nm = some a ∧ Q (.ref a) H', ?_, ?_⟩
    · refine ⟨_, rfl, _, rfl, y, _, dy1, fy, _, rfl, hyi1, T.cl_Yard, T.no_Yard_logger_map, hy1.mapF, ?_⟩
      refine ⟨lm, _, rfl, DGet.k (k := kS nm) hy1.at_, _, rfl, ?_⟩
      rw [valV_row]
      rcases hc with ⟨_, a, hl, k⟩ | ⟨_, hnew, hL, k⟩
      · rw [hl]
        refine iteF ?_
        exact ⟨rfl, a, rows, hy1, hl, k H1 hs1⟩
      · rw [lookup_none hnew]
        refine iteT ?_
        refine ⟨_, rfl, _, rfl, fun x dx hx hdx hne => ?_⟩
        have hx' : L2.upd H1 dx (.own x) x = none := by rw [upd_ne hne.symm]; exact hx
        refine ⟨x, dx, y, nm, 0, rfl, upd_same, fun fl hl H2 hfl hhl hfh e1 e2 e3 kk => ⟨rfl, ?_⟩⟩
        have hs12 : Same H1 (L2.upd (L2.upd H1 dx (.own x)) x (.ins (ga K "Logger") dx [])) := Same.tr (Same.nw hdx) (Same.nw hx')
        have hk2 : Kp (fun b => b = x) H1 H2 := (Kp.same hs12).trans kk
        have hs2 : Same H1 H2 := fun b o e => hk2 b o e (fun z => by rw [z, hx] at e; cases e)
        have hy2 := hy1.same hs2
        obtain ⟨dy2, hyi2⟩ := hy2.ins
        have hflx : x ≠ fl := ne_of e1 e2 (fun z => nomatch z)
        have hhlx : x ≠ hl := ne_of e1 e3 (fun z => nomatch z)
        refine ⟨_, rfl, y, _, dy2, fy, _, rfl, hyi2, T.cl_Yard, T.no_Yard_logger_map, hy2.mapF, ?_⟩
        have hfew := hL.few
        refine ⟨_, rfl, lm, _, rfl, DPut.k (k := kS nm) hy2.at_ (by rw [List.length_map, sizeLine_eq]; omega), ?_⟩
        rw [putK_row, putA_new hnew]
        have hlmx : lm ≠ x := ne_of_none hy1.at_ hx
        have hyx : y ≠ x := ne_of_none hyi1 hx
        have hylm : y ≠ lm := ne_of hyi1 hy1.at_ (fun z => nomatch z)
        have hlmf : lm ≠ fl := ne_of hy2.at_ e2 (fun z => nomatch z)
        have hlmh : lm ≠ hl := ne_of hy2.at_ e3 (fun z => nomatch z)
        have hy3 : YMap K (L2.upd H2 lm (.dK ((rows ++ [(nm, x)]).map rowE))) y lm rt fy (rows ++ [(nm, x)]) := ⟨⟨dy2, by rw [upd_ne hylm]; exact hyi2⟩, hy.mapF, hy.rootF, upd_same⟩
        have hxr : x ∉ rows.map (·.2) := fun z => by
          obtain ⟨r, hr, e⟩ := List.mem_map.mp z
          obtain ⟨d, f, q, _⟩ := hL.ins r hr
          have q1 := hs1 _ _ q
          rw [e, hx] at q1
          cases q1
        have hlmM : ∀ r ∈ rows, r.2 ≠ lm := fun r hr z => by
          obtain ⟨d, f, q, _⟩ := hL.ins r hr
          rw [z, hy.at_] at q
          cases q
        have e1' : L2.upd H2 lm (.dK ((rows ++ [(nm, x)]).map rowE)) x = some (.ins (ga K "Logger") dx (lgF y fl nm 0 true false hl .non)) := by rw [upd_ne hlmx.symm]; exact e1
        refine ⟨_, rfl, y, lm, rt, fy, rows ++ [(nm, x)], rfl, hy3, ?_, ?_, ?_, ?_, ?_, by rw [List.length_append, List.length_singleton]; omega, fun H3 hall hk3 => ?_⟩
        · intro r hr
          rcases List.mem_append.mp hr with z | z
          · exact hL.menu r z
          · rw [List.mem_singleton.mp z]
            exact hmenu
        · intro r hr
          rcases List.mem_append.mp hr with z | z
          · obtain ⟨d, f, q, l⟩ := hL.ins r z
            exact ⟨d, f, by rw [upd_ne (hlmM r z)]; exact hs2 _ _ (hs1 _ _ q), l⟩
          · rw [List.mem_singleton.mp z]
            exact ⟨dx, _, e1', csz rfl⟩
        · rw [List.map_append]
          exact List.nodup_append.mpr ⟨hL.nd2, by simp, fun a ha b hb => by rw [List.mem_singleton.mp hb]; intro z; rw [z] at ha; exact hxr ha⟩
        · rw [List.map_append]
          exact List.nodup_append.mpr ⟨hL.nd1, by simp, fun a ha b hb => by rw [List.mem_singleton.mp hb]; intro z; rw [z] at ha; exact hnew ha⟩
        · rintro ⟨r, hr, e⟩
          rcases List.mem_append.mp hr with z | z
          · exact hL.noY ⟨r, z, e⟩
          · rw [List.mem_singleton.mp z] at e
            exact hyx e.symm
        · have hxa := hall (nm, x) (List.mem_append_right _ (List.mem_singleton.mpr rfl)) dx _ e1'
          rw [pf_lp] at hxa
          have offM : ∀ {b o}, L2.upd H2 lm (.dK ((rows ++ [(nm, x)]).map rowE)) b = some o → (∀ d f, o ≠ .ins (ga K "Logger") d f) → H3 b = some o := fun {b o} e hno => hk3 _ _ e fun ⟨r, hr, z⟩ => by
            rcases List.mem_append.mp hr with q | q
            · obtain ⟨d, f, q2, _⟩ := hL.ins r q
              have q3 : L2.upd H2 lm (.dK ((rows ++ [(nm, x)]).map rowE)) r.2 = some (.ins (ga K "Logger") d f) := by rw [upd_ne (hlmM r q)]; exact hs2 _ _ (hs1 _ _ q2)
              rw [z, e] at q3
              exact hno _ _ (Option.some.inj q3)
            · rw [List.mem_singleton.mp q] at z
              have z' : x = b := z
              rw [← z', e1'] at e
              exact hno _ _ (Option.some.inj e).symm
          have hlm3 := offM (b := lm) upd_same (fun d f z => nomatch z)
          have hfl3 := offM (b := fl) (o := .lst []) (by rw [upd_ne (Ne.symm hlmf)]; exact e2) (fun d f z => nomatch z)
          have hhl3 := offM (b := hl) (o := .lst []) (by rw [upd_ne (Ne.symm hlmh)]; exact e3) (fun d f z => nomatch z)
          have hyM : ¬ rowsM (rows ++ [(nm, x)]) y := fun ⟨r, hr, e⟩ => by
            rcases List.mem_append.mp hr with z | z
            · exact hL.noY ⟨r, z, e⟩
            · rw [List.mem_singleton.mp z] at e
              exact hyx e.symm
          refine ⟨rfl, x, rows ++ [(nm, x)], ⟨⟨dy2, hk3 _ _ (by rw [upd_ne hylm]; exact hyi2) hyM⟩, hy.mapF, hy.rootF, hlm3⟩, ?_, ?_⟩
          · have hnd : ((rows ++ [(nm, x)]).map (·.1)).Nodup := by
              rw [List.map_append]
              exact List.nodup_append.mpr ⟨hL.nd1, by simp, fun a ha b hb => by rw [List.mem_singleton.mp hb]; intro z; rw [z] at ha; exact hnew ha⟩
            exact lookup_nd (j := rows.length) (r := (nm, x)) hnd (by simp)
          · have hfl1 : H1 fl = none := was_none (was_none hfl)
            have hhl1 : H1 hl = none := was_none (was_none hhl)
            refine k x fl hl dx H3 (Same.was hs1 hx) (Same.was hs1 hfl1) (Same.was hs1 hhl1) hfh hflx hhlx hlm3 hxa hfl3 hhl3 (fun r hr d f q => ?_) ?_
            · exact hall r (List.mem_append_left _ hr) d f (by rw [upd_ne (hlmM r hr)]; exact hs2 _ _ (hs1 _ _ q))
            · intro b o hb hnb
              have hb2 : H2 b = some o := hs2 _ _ (hs1 _ _ hb)
              have hbl : b ≠ lm := fun z => hnb (.inl z)
              refine hk3 b o (by rw [upd_ne hbl]; exact hb2) fun ⟨r, hr, z⟩ => ?_
              rcases List.mem_append.mp hr with q | q
              · exact hnb (.inr ⟨r, q, z⟩)
              · rw [List.mem_singleton.mp q] at z
                have z' : x = b := z
                have hb1 := hs1 _ _ hb
                rw [← z', hx] at hb1
                cases hb1
    · rintro σ' H' ⟨rfl, a, rows', hyE, hl, q⟩
      obtain ⟨dyE, hyiE⟩ := hyE.ins
      refine ⟨_, rfl, y, _, dyE, fy, _, rfl, hyiE, T.cl_Yard, T.no_Yard_logger_map, hyE.mapF, ?_⟩
      refine ⟨_, rfl, lm, .ref a, rfl, ?_, q⟩
      have z := DGet.k (k := kS nm) hyE.at_
      rw [valV_row, hl] at z
      exact z
end
end Ry
namespace Ry
open PySem PySem.Spec PyProof.Rows L2 He RyH
open C8 (pss_cut tCut Cal Met Mak pe_c pe_mk pe_mt pe_mt0 pe_gc)
/-! ### a new yard -/
theorem pf_y2 (a b : V) : putF "stream_texts" b [("clock", a)] = ([("clock", a), ("stream_texts", b)] : List (Str × V)) := by kernel_rfl
theorem pf_y3 (a b c : V) : putF "file_rows" c [("clock", a), ("stream_texts", b)] = ([("clock", a), ("stream_texts", b), ("file_rows", c)] : List (Str × V)) := by kernel_rfl
theorem pf_y4 (a b c d : V) : putF "names_of" d [("clock", a), ("stream_texts", b), ("file_rows", c)] = ([("clock", a), ("stream_texts", b), ("file_rows", c), ("names_of", d)] : List (Str × V)) := by kernel_rfl
theorem pf_y5 (a b c d e : V) : putF "numbers_of" e [("clock", a), ("stream_texts", b), ("file_rows", c), ("names_of", d)] = ([("clock", a), ("stream_texts", b), ("file_rows", c), ("names_of", d), ("numbers_of", e)] : List (Str × V)) := by kernel_rfl
theorem pf_y6 (a b c d e f : V) : putF "bar_level" f [("clock", a), ("stream_texts", b), ("file_rows", c), ("names_of", d), ("numbers_of", e)] = ([("clock", a), ("stream_texts", b), ("file_rows", c), ("names_of", d), ("numbers_of", e), ("bar_level", f)] : List (Str × V)) := by kernel_rfl
theorem pf_y7 (a b c d e f g : V) : putF "logger_map" g [("clock", a), ("stream_texts", b), ("file_rows", c), ("names_of", d), ("numbers_of", e), ("bar_level", f)] = ([("clock", a), ("stream_texts", b), ("file_rows", c), ("names_of", d), ("numbers_of", e), ("bar_level", f), ("logger_map", g)] : List (Str × V)) := by kernel_rfl
theorem pf_y8 (a b c d e f g h : V) : putF "made" h [("clock", a), ("stream_texts", b), ("file_rows", c), ("names_of", d), ("numbers_of", e), ("bar_level", f), ("logger_map", g)] = ([("clock", a), ("stream_texts", b), ("file_rows", c), ("names_of", d), ("numbers_of", e), ("bar_level", f), ("logger_map", g), ("made", h)] : List (Str × V)) := by kernel_rfl
theorem pf_y9 (a b c d e f g h i : V) : putF "handler_names" i [("clock", a), ("stream_texts", b), ("file_rows", c), ("names_of", d), ("numbers_of", e), ("bar_level", f), ("logger_map", g), ("made", h)] = ([("clock", a), ("stream_texts", b), ("file_rows", c), ("names_of", d), ("numbers_of", e), ("bar_level", f), ("logger_map", g), ("made", h), ("handler_names", i)] : List (Str × V)) := by kernel_rfl
theorem pf_y10 (a b c d e f g h i j : V) : putF "failure_rows" j [("clock", a), ("stream_texts", b), ("file_rows", c), ("names_of", d), ("numbers_of", e), ("bar_level", f), ("logger_map", g), ("made", h), ("handler_names", i)] = ([("clock", a), ("stream_texts", b), ("file_rows", c), ("names_of", d), ("numbers_of", e), ("bar_level", f), ("logger_map", g), ("made", h), ("handler_names", i), ("failure_rows", j)] : List (Str × V)) := by kernel_rfl
theorem pf_y11 (a b c d e f g h i j k : V) : putF "root" k [("clock", a), ("stream_texts", b), ("file_rows", c), ("names_of", d), ("numbers_of", e), ("bar_level", f), ("logger_map", g), ("made", h), ("handler_names", i), ("failure_rows", j)] = ([("clock", a), ("stream_texts", b), ("file_rows", c), ("names_of", d), ("numbers_of", e), ("bar_level", f), ("logger_map", g), ("made", h), ("handler_names", i), ("failure_rows", j), ("root", k)] : List (Str × V)) := by kernel_rfl
theorem pf_y12 (a b c d e f g h i j k l : V) : putF "last_resort" l [("clock", a), ("stream_texts", b), ("file_rows", c), ("names_of", d), ("numbers_of", e), ("bar_level", f), ("logger_map", g), ("made", h), ("handler_names", i), ("failure_rows", j), ("root", k)] = ([("clock", a), ("stream_texts", b), ("file_rows", c), ("names_of", d), ("numbers_of", e), ("bar_level", f), ("logger_map", g), ("made", h), ("handler_names", i), ("failure_rows", j), ("root", k), ("last_resort", l)] : List (Str × V)) := by kernel_rfl
abbrev ydF (ck : Int) (st fr no nu : Addr) (bar : Int) (lm mk hn fa rt lr : Addr) : List (Str × V) := [("clock", .int ck), ("stream_texts", .ref st), ("file_rows", .ref fr), ("names_of", .ref no), ("numbers_of", .ref nu), ("bar_level", .int bar), ("logger_map", .ref lm), ("made", .ref mk), ("handler_names", .ref hn), ("failure_rows", .ref fa), ("root", .ref rt), ("last_resort", .ref lr)]
/-- what a new yard is -/
structure YNew (K : PySem.W.Frag) (H : Hp) (y : Addr) (st fr no nu lm mk hn fa rt lr rfl_ rhl lrf : Addr) : Prop where
  ins : ∃ dy, H y = some (.ins (ga K "Yard") dy (ydF 0 st fr no nu 0 lm mk hn fa rt lr))
  stE : H st = some (.dK [])
  frE : H fr = some (.dK [])
  noE : H no = some (.dK kvNames)
  nuE : H nu = some (.dK kvNumbers)
  lmE : H lm = some (.dK [])
  mkE : H mk = some (.lst [])
  hnE : H hn = some (.dK [])
  faE : H fa = some (.lst [])
  rtE : ∃ dx, H rt = some (.ins (ga K "Logger") dx (lgF y rfl_ "root" 30 true false rhl .non))
  rflE : H rfl_ = some (.lst [])
  rhlE : H rhl = some (.lst [])
  lrE : ∃ dx, H lr = some (.ins (ga K "StreamHandler") dx (hdB y lrf 0 .non .non "\n" false ++ ([("stream", .str "stderr")] : List (Str × V))))
  lrfE : H lrf = some (.lst [])
def spYardInit (K : PySem.W.Frag) : Sp := fun vs H Q _ => ∃ (y dy : Addr), vs = [.ref y, .int 0] ∧ H y = some (.ins (ga K "Yard") dy []) ∧
  ∀ st fr no nu lm mk hn fa rt lr rfl_ rhl lrf H', [mk, lrf, lr, rhl, rfl_, rt, fa, hn, lm, nu, no, fr, st].Nodup → (∀ b ∈ [mk, lrf, lr, rhl, rfl_, rt, fa, hn, lm, nu, no, fr, st], H b = none) → YNew K H' y st fr no nu lm mk hn fa rt lr rfl_ rhl lrf → Kp (fun b => b = y) H H' → Q .non H'
/-- how far a new yard is -/
structure YS (K : PySem.W.Frag) (H G : Hp) (y dy : Addr) (fs : List (Str × V)) (ps : List (Addr × HO)) : Prop where
  yE : G y = some (.ins (ga K "Yard") dy fs)
  all : ∀ x ∈ ps, G x.1 = some x.2 ∧ H x.1 = none ∧ x.1 ≠ y
  nd : (ps.map (·.1)).Nodup
  kp : Kp (fun b => b = y) H G
theorem YS.free {K : PySem.W.Frag} {H G : Hp} {y dy p : Addr} {fs : List (Str × V)} {ps : List (Addr × HO)} (h : YS K H G y dy fs ps) (hp : G p = none) : H p = none ∧ p ≠ y ∧ p ∉ ps.map (·.1) := by
  have hy : p ≠ y := fun z => by rw [z, h.yE] at hp; cases hp
  refine ⟨?_, hy, fun z => ?_⟩
  · cases q : H p with
    | none => rfl
    | some o =>
      rw [h.kp p o q hy] at hp
      cases hp
  · obtain ⟨x, hx, e⟩ := List.mem_map.mp z
    have q := (h.all x hx).1
    rw [e, hp] at q
    cases q
theorem YS.set {K : PySem.W.Frag} {H G : Hp} {y dy : Addr} {fs fs' : List (Str × V)} {ps : List (Addr × HO)} (h : YS K H G y dy fs ps) : YS K H (upd G y (.ins (ga K "Yard") dy fs')) y dy fs' ps :=
  ⟨upd_same, fun x hx => ⟨by rw [upd_ne (h.all x hx).2.2]; exact (h.all x hx).1, (h.all x hx).2⟩, h.nd, h.kp.trans (Kp.at rfl)⟩
theorem YS.same {K : PySem.W.Frag} {H G G' : Hp} {y dy : Addr} {fs : List (Str × V)} {ps : List (Addr × HO)} (h : YS K H G y dy fs ps) (k : Same G G') : YS K H G' y dy fs ps :=
  ⟨k _ _ h.yE, fun x hx => ⟨k _ _ (h.all x hx).1, (h.all x hx).2⟩, h.nd, h.kp.trans (Kp.same k)⟩
theorem YS.add {K : PySem.W.Frag} {H G : Hp} {y dy p : Addr} {fs : List (Str × V)} {ps : List (Addr × HO)} {o : HO} (h : YS K H G y dy fs ps) (hp : G p = some o) (hn : H p = none ∧ p ≠ y ∧ p ∉ ps.map (·.1)) : YS K H G y dy fs ((p, o) :: ps) := by
  refine ⟨h.yE, fun x hx => ?_, ?_, h.kp⟩
  · rcases List.mem_cons.mp hx with z | z
    · rw [z]
      exact ⟨hp, hn.1, hn.2.1⟩
    · exact h.all x z
  · rw [List.map_cons]
    exact List.nodup_cons.mpr ⟨hn.2.2, h.nd⟩
theorem YS.new {K : PySem.W.Frag} {H G : Hp} {y dy p : Addr} {fs : List (Str × V)} {ps : List (Addr × HO)} {o : HO} (h : YS K H G y dy fs ps) (hp : G p = none) : YS K H (upd G p o) y dy fs ((p, o) :: ps) :=
  (h.same (Same.nw hp)).add upd_same (h.free hp)
theorem YS.kpM {K : PySem.W.Frag} {M : Addr → Prop} {H G G' : Hp} {y dy : Addr} {fs : List (Str × V)} {ps : List (Addr × HO)} (h : YS K H G y dy fs ps) (k : Kp M G G') (hy : ¬ M y) (hps : ∀ x ∈ ps, ¬ M x.1) (hM : ∀ b, M b → H b = none) : YS K H G' y dy fs ps :=
  ⟨k _ _ h.yE hy, fun x hx => ⟨k _ _ (h.all x hx).1 (hps x hx), (h.all x hx).2⟩, h.nd, fun b o e n => k _ _ (h.kp b o e n) fun m => by rw [hM b m] at e; cases e⟩
theorem YS.sub {K : PySem.W.Frag} {H G : Hp} {y dy : Addr} {fs : List (Str × V)} {ps qs : List (Addr × HO)} (h : YS K H G y dy fs ps) (k : qs.Sublist ps) : YS K H G y dy fs qs := ⟨h.yE, fun x hx => h.all x (k.subset hx), h.nd.sublist (k.map _), h.kp⟩
theorem YS.allH {K : PySem.W.Frag} {H G : Hp} {y dy : Addr} {fs : List (Str × V)} {ps : List (Addr × HO)} (h : YS K H G y dy fs ps) : ∀ b ∈ ps.map (·.1), H b = none := fun b hb => by
  obtain ⟨x, hx, e⟩ := List.mem_map.mp hb
  rw [← e]
  exact (h.all x hx).2.1
theorem nd_mid {l1 l2 : List (Addr × HO)} {m : Addr} {o : HO} (h : ((l1 ++ (m, o) :: l2).map (·.1)).Nodup) : ∀ x ∈ l1 ++ l2, x.1 ≠ m := by
  intro x hx z
  rw [List.map_append, List.map_cons, List.nodup_append] at h
  obtain ⟨h1, h2, h3⟩ := h
  rcases List.mem_append.mp hx with q | q
  · exact h3 x.1 (List.mem_map.mpr ⟨x, q, rfl⟩) m (List.mem_cons_self ..) z
  · exact (List.nodup_cons.mp h2).1 (by rw [← z]; exact List.mem_map.mpr ⟨x, q, rfl⟩)
theorem ni_cons {α : Type} {p q : α} {l : List α} (h : p ∉ l) (hne : p ≠ q) : p ∉ q :: l := fun z => (List.mem_cons.mp z).elim hne h
section
variable {P : Program} {w : World} {K : PySem.W.Frag} {mg : Str → Option Value} {base : Heap}
theorem mk_StreamHandler1 (T : Txt w K mg) : Mak P w K mg base 3 "StreamHandler" (ga K "StreamHandler") (spStreamInit K) [(.str "stderr")] := by
  obtain ⟨fd, f, F⟩ := fn_StreamHandler_init (P := P) (base := base) T
  obtain ⟨ds, hV, hB⟩ := F.binds1 (ps := ["self", "yard", "stream"]) 2 0 (fun z => nomatch z) rfl (fun _ _ _ _ _ _ _ us its h1 h2 => match us, its, h1, h2 with | [_, _], [_], _, _ => ⟨_, rfl, rfl⟩)
  refine ⟨_, fd, _, _, T.mk_StreamHandler, ?_, T.m_StreamHandler, hB, hV⟩
  exact f
theorem sc_Yard_init : FnScope ["self", "now"] ["self", "now"] (defScope s_Yard_init) := ⟨rfl, rfl, rfl, by decide +kernel, rfl, by decide +kernel, by decide +kernel⟩
theorem fn_Yard_init (T : Txt w K mg) : ∃ fd, FnOk P w K mg base CX0 5 (ma K (ga K "Yard") "__init__") fd ["self", "now"] (spYardInit K) ∧ FunD K "__init__" "Yard.__init__" (defArgs s_Yard_init) (defBody s_Yard_init) (defScope s_Yard_init) (He.DefD.dvs K d_Yard_init) [] (ma K (ga K "Yard") "__init__") fd := by
  obtain ⟨fd, F⟩ := T.df_Yard_init
  have c_mk_Logger := mk_Logger (P := P) (base := base) T
  have c_mk_StreamHandler := mk_StreamHandler1 (P := P) (base := base) T
  refine ⟨fd, F.ok sc_Yard_init (fun vs H Q E h => ?_) (fun cdv A outer s H vs Q E hr h => ?_), F⟩
  · obtain ⟨_, _, rfl, _⟩ := h
    rfl
  · obtain ⟨y, dy, rfl, hy, k⟩ := h
    refine ⟨_, PSs.nox (pss_cons (ps_fld (pv 0) (pv 1) rfl)
      (pss_cons (ps_fld (pv 0) pe_dnewK rfl)
      (pss_cons (ps_fld (pv 0) pe_dnewK rfl)
      (pss_cons (ps_fld (pv 0) (pe_callTy (T := "dict") (call_dictK (kvs := kvNames) (by decide) fun h X => T.d_NAMES X) (by rfl) T.f_dict (by decide +kernel) (pa_cons (pe_gc (by rfl) (T.gv_FIRST_NAMES)) pa_nil)) rfl)
      (pss_cons (ps_fld (pv 0) (pe_callTy (T := "dict") (call_dictK (kvs := kvNumbers) (by decide) fun h X => T.d_NUMBERS X) (by rfl) T.f_dict (by decide +kernel) (pa_cons (pe_gc (by rfl) (T.gv_FIRST_NUMBERS)) pa_nil)) rfl)
      (pss_cons (ps_fld (pv 0) pe_int rfl)
      (pss_cons (ps_fld (pv 0) pe_dnewK rfl)
      (pss_cons (ps_fld (pv 0) (pe_lst pa_nil) rfl)
      (pss_cons (ps_fld (pv 0) pe_dnewK rfl)
      (pss_cons (ps_fld (pv 0) (pe_lst pa_nil) rfl)
      (pss_cons (ps_fld (pv 0) (pe_mk c_mk_Logger hr (by decide) (by rfl) (pa_cons (pv 0) (pa_cons pe_str (pa_cons (pe_gc (by rfl) (T.c_WARNING)) pa_nil)))) rfl)
      (pss_cons (ps_fld (pv 0) (pe_mk c_mk_StreamHandler hr (by decide) (by rfl) (pa_cons (pv 0) pa_nil)) rfl)
      (pss_one (ps_expr (pe_bm0 PySem.F.plainAttrs_list PySem.F.slot_list_pop PySem.F.type_list_pop mt_pop (pe_fld (pv 0) rfl)))))))))))))))), ?_⟩
    refine ⟨_, rfl, _, rfl, y, _, dy, _, rfl, hy, T.cl_Yard, T.no_Yard_clock, csz rfl, ?_⟩
    rw [show putF "clock" (.int 0) ([] : List (Str × V)) = ([("clock", .int 0)] : List (Str × V)) from rfl]
    have Y0 : YS K H (L2.upd H y (.ins (ga K "Yard") dy ([("clock", .int 0)] : List (Str × V)))) y dy [("clock", .int 0)] [] := ⟨upd_same, (fun x h => nomatch h), List.nodup_nil, Kp.at rfl⟩
    generalize L2.upd H y (.ins (ga K "Yard") dy ([("clock", .int 0)] : List (Str × V))) = G0 at *
    refine fun st hst => ?_
    have Z0 := Y0.new (o := .dK []) hst
    refine ⟨_, rfl, y, _, dy, _, rfl, Z0.yE, T.cl_Yard, T.no_Yard_stream_texts, csz rfl, ?_⟩
    rw [pf_y2]
    have Y1 := Z0.set (fs' := ([("clock", .int 0), ("stream_texts", .ref st)] : List (Str × V)))
    generalize L2.upd (L2.upd G0 st (.dK [])) y (.ins (ga K "Yard") dy ([("clock", .int 0), ("stream_texts", .ref st)] : List (Str × V))) = G1 at *
    refine fun fr hfr => ?_
    have Z1 := Y1.new (o := .dK []) hfr
    refine ⟨_, rfl, y, _, dy, _, rfl, Z1.yE, T.cl_Yard, T.no_Yard_file_rows, csz rfl, ?_⟩
    rw [pf_y3]
    have Y2 := Z1.set (fs' := ([("clock", .int 0), ("stream_texts", .ref st), ("file_rows", .ref fr)] : List (Str × V)))
    generalize L2.upd (L2.upd G1 fr (.dK [])) y (.ins (ga K "Yard") dy ([("clock", .int 0), ("stream_texts", .ref st), ("file_rows", .ref fr)] : List (Str × V))) = G2 at *
    refine ⟨rfl, fun no hno => ?_⟩
    have Z2 := Y2.new (o := .dK kvNames) hno
    refine ⟨_, rfl, y, _, dy, _, rfl, Z2.yE, T.cl_Yard, T.no_Yard_names_of, csz rfl, ?_⟩
    rw [pf_y4]
    have Y3 := Z2.set (fs' := ([("clock", .int 0), ("stream_texts", .ref st), ("file_rows", .ref fr), ("names_of", .ref no)] : List (Str × V)))
    generalize L2.upd (L2.upd G2 no (.dK kvNames)) y (.ins (ga K "Yard") dy ([("clock", .int 0), ("stream_texts", .ref st), ("file_rows", .ref fr), ("names_of", .ref no)] : List (Str × V))) = G3 at *
    refine ⟨rfl, fun nu hnu => ?_⟩
    have Z3 := Y3.new (o := .dK kvNumbers) hnu
    refine ⟨_, rfl, y, _, dy, _, rfl, Z3.yE, T.cl_Yard, T.no_Yard_numbers_of, csz rfl, ?_⟩
    rw [pf_y5]
    have Y4 := Z3.set (fs' := ([("clock", .int 0), ("stream_texts", .ref st), ("file_rows", .ref fr), ("names_of", .ref no), ("numbers_of", .ref nu)] : List (Str × V)))
    generalize L2.upd (L2.upd G3 nu (.dK kvNumbers)) y (.ins (ga K "Yard") dy ([("clock", .int 0), ("stream_texts", .ref st), ("file_rows", .ref fr), ("names_of", .ref no), ("numbers_of", .ref nu)] : List (Str × V))) = G4 at *
    refine ⟨_, rfl, y, _, dy, _, rfl, Y4.yE, T.cl_Yard, T.no_Yard_bar_level, csz rfl, ?_⟩
    rw [pf_y6]
    have Y5 := Y4.set (fs' := ([("clock", .int 0), ("stream_texts", .ref st), ("file_rows", .ref fr), ("names_of", .ref no), ("numbers_of", .ref nu), ("bar_level", .int 0)] : List (Str × V)))
    generalize L2.upd G4 y (.ins (ga K "Yard") dy ([("clock", .int 0), ("stream_texts", .ref st), ("file_rows", .ref fr), ("names_of", .ref no), ("numbers_of", .ref nu), ("bar_level", .int 0)] : List (Str × V))) = G5 at *
    refine fun lm hlm => ?_
    have Z5 := Y5.new (o := .dK []) hlm
    refine ⟨_, rfl, y, _, dy, _, rfl, Z5.yE, T.cl_Yard, T.no_Yard_logger_map, csz rfl, ?_⟩
    rw [pf_y7]
    have Y6 := Z5.set (fs' := ([("clock", .int 0), ("stream_texts", .ref st), ("file_rows", .ref fr), ("names_of", .ref no), ("numbers_of", .ref nu), ("bar_level", .int 0), ("logger_map", .ref lm)] : List (Str × V)))
    generalize L2.upd (L2.upd G5 lm (.dK [])) y (.ins (ga K "Yard") dy ([("clock", .int 0), ("stream_texts", .ref st), ("file_rows", .ref fr), ("names_of", .ref no), ("numbers_of", .ref nu), ("bar_level", .int 0), ("logger_map", .ref lm)] : List (Str × V))) = G6 at *
    refine ⟨ssz rfl, fun mk hmk => ?_⟩
    have Z6 := Y6.new (o := .lst []) hmk
    refine ⟨_, rfl, y, _, dy, _, rfl, Z6.yE, T.cl_Yard, T.no_Yard_made, csz rfl, ?_⟩
    rw [pf_y8]
    have Y7 := Z6.set (fs' := ([("clock", .int 0), ("stream_texts", .ref st), ("file_rows", .ref fr), ("names_of", .ref no), ("numbers_of", .ref nu), ("bar_level", .int 0), ("logger_map", .ref lm), ("made", .ref mk)] : List (Str × V)))
    generalize L2.upd (L2.upd G6 mk (.lst [])) y (.ins (ga K "Yard") dy ([("clock", .int 0), ("stream_texts", .ref st), ("file_rows", .ref fr), ("names_of", .ref no), ("numbers_of", .ref nu), ("bar_level", .int 0), ("logger_map", .ref lm), ("made", .ref mk)] : List (Str × V))) = G7 at *
    refine fun hn hhn => ?_
    have Z7 := Y7.new (o := .dK []) hhn
    refine ⟨_, rfl, y, _, dy, _, rfl, Z7.yE, T.cl_Yard, T.no_Yard_handler_names, csz rfl, ?_⟩
    rw [pf_y9]
    have Y8 := Z7.set (fs' := ([("clock", .int 0), ("stream_texts", .ref st), ("file_rows", .ref fr), ("names_of", .ref no), ("numbers_of", .ref nu), ("bar_level", .int 0), ("logger_map", .ref lm), ("made", .ref mk), ("handler_names", .ref hn)] : List (Str × V)))
    generalize L2.upd (L2.upd G7 hn (.dK [])) y (.ins (ga K "Yard") dy ([("clock", .int 0), ("stream_texts", .ref st), ("file_rows", .ref fr), ("names_of", .ref no), ("numbers_of", .ref nu), ("bar_level", .int 0), ("logger_map", .ref lm), ("made", .ref mk), ("handler_names", .ref hn)] : List (Str × V))) = G8 at *
    refine ⟨ssz rfl, fun fa hfa => ?_⟩
    have Z8 := Y8.new (o := .lst []) hfa
    refine ⟨_, rfl, y, _, dy, _, rfl, Z8.yE, T.cl_Yard, T.no_Yard_failure_rows, csz rfl, ?_⟩
    rw [pf_y10]
    have Y9 := Z8.set (fs' := ([("clock", .int 0), ("stream_texts", .ref st), ("file_rows", .ref fr), ("names_of", .ref no), ("numbers_of", .ref nu), ("bar_level", .int 0), ("logger_map", .ref lm), ("made", .ref mk), ("handler_names", .ref hn), ("failure_rows", .ref fa)] : List (Str × V)))
    generalize L2.upd (L2.upd G8 fa (.lst [])) y (.ins (ga K "Yard") dy ([("clock", .int 0), ("stream_texts", .ref st), ("file_rows", .ref fr), ("names_of", .ref no), ("numbers_of", .ref nu), ("bar_level", .int 0), ("logger_map", .ref lm), ("made", .ref mk), ("handler_names", .ref hn), ("failure_rows", .ref fa)] : List (Str × V))) = G9 at *
    refine ⟨_, rfl, fun rt dxr hrt hdxr hner => ?_⟩
    have hrt' : L2.upd G9 dxr (.own rt) rt = none := by rw [upd_ne hner.symm]; exact hrt
    refine ⟨rt, dxr, y, "root", 30, rfl, upd_same, fun rfl_ rhl G10 hfl hhl hfh e1 e2 e3 kk => ⟨rfl, ?_⟩⟩
    have hk10 : Kp (fun b => b = rt) G9 G10 := (Kp.same (Same.tr (Same.nw hdxr) (Same.nw hrt'))).trans kk
    have hs10 : Same G9 G10 := fun b o e => hk10 b o e (fun z => by rw [z, hrt] at e; cases e)
    have hfl9 : G9 rfl_ = none := was_none (was_none hfl)
    have hhl9 : G9 rhl = none := was_none (was_none hhl)
    have n1 := Y9.free hrt
    have n2 := Y9.free hfl9
    have n3 := Y9.free hhl9
    have hrf : rt ≠ rfl_ := ne_of e1 e2 (fun z => nomatch z)
    have hrh : rt ≠ rhl := ne_of e1 e3 (fun z => nomatch z)
    have Y10 := (((Y9.same hs10).add e1 n1).add e2 ⟨n2.1, n2.2.1, ni_cons n2.2.2 hrf.symm⟩).add e3 ⟨n3.1, n3.2.1, ni_cons (ni_cons n3.2.2 hrh.symm) hfh.symm⟩
    refine ⟨_, rfl, y, _, dy, _, rfl, Y10.yE, T.cl_Yard, T.no_Yard_root, csz rfl, ?_⟩
    rw [pf_y11]
    have Y11 := Y10.set (fs' := ([("clock", .int 0), ("stream_texts", .ref st), ("file_rows", .ref fr), ("names_of", .ref no), ("numbers_of", .ref nu), ("bar_level", .int 0), ("logger_map", .ref lm), ("made", .ref mk), ("handler_names", .ref hn), ("failure_rows", .ref fa), ("root", .ref rt)] : List (Str × V)))
    generalize L2.upd G10 y (.ins (ga K "Yard") dy ([("clock", .int 0), ("stream_texts", .ref st), ("file_rows", .ref fr), ("names_of", .ref no), ("numbers_of", .ref nu), ("bar_level", .int 0), ("logger_map", .ref lm), ("made", .ref mk), ("handler_names", .ref hn), ("failure_rows", .ref fa), ("root", .ref rt)] : List (Str × V))) = G11 at *
    have hmk11 := (Y11.all (mk, .lst []) (by simp)).1
    refine ⟨_, rfl, fun lr dxl hlr hdxl hnel => ?_⟩
    have hlr' : L2.upd G11 dxl (.own lr) lr = none := by rw [upd_ne hnel.symm]; exact hlr
    have hsA := Same.tr (Same.nw (o := .own lr) hdxl) (Same.nw (o := .ins (ga K "StreamHandler") dxl []) hlr')
    have hyl : y ≠ lr := ne_of_none Y11.yE hlr
    refine ⟨lr, dxl, y, mk, _, [], "stderr", rfl, upd_same, ⟨dy, hsA _ _ Y11.yE⟩, by kernel_rfl, by kernel_rfl, hyl, hsA _ _ hmk11, by decide, fun lrf G12 hlf f1 f2 f3 kl => ⟨rfl, ?_⟩⟩
    have nl := Y11.free hlr
    have hlf11 : G11 lrf = none := was_none (was_none hlf)
    have nlf := Y11.free hlf11
    have hmkH : H mk = none := (Y11.all (mk, .lst []) (by simp)).2.1
    have hmky : mk ≠ y := (Y11.all (mk, .lst []) (by simp)).2.2
    have hk12 : Kp (fun b => b = lr ∨ b = mk) G11 G12 := (Kp.same hsA).trans kl
    have hnd := Y11.nd
    have Yb := Y11.sub (qs := [(rhl, .lst []), (rfl_, .lst []), (rt, .ins (ga K "Logger") dxr (lgF y rfl_ "root" 30 true false rhl .non)), (fa, .lst []), (hn, .dK []), (lm, .dK []), (nu, .dK kvNumbers), (no, .dK kvNames), (fr, .dK []), (st, .dK [])])
      (.cons₂ _ (.cons₂ _ (.cons₂ _ (.cons₂ _ (.cons₂ _ (.cons _ (.cons₂ _ (.cons₂ _ (.cons₂ _ (.cons₂ _ (.cons₂ _ .slnil)))))))))))
    have hmkps := nd_mid (l1 := [(rhl, .lst []), (rfl_, .lst []), (rt, .ins (ga K "Logger") dxr (lgF y rfl_ "root" 30 true false rhl .non)), (fa, .lst []), (hn, .dK [])]) (l2 := [(lm, .dK []), (nu, .dK kvNumbers), (no, .dK kvNames), (fr, .dK []), (st, .dK [])]) hnd
    have Y12 := Yb.kpM hk12 (fun z => z.elim hyl (fun e => hmky e.symm)) (fun x hx z => z.elim (fun e => by
      have q := (Yb.all x hx).1
      rw [e, hlr] at q
      cases q) (hmkps x hx)) (fun b z => z.elim (fun e => by rw [e]; exact nl.1) (fun e => by rw [e]; exact hmkH))
    have nl' := Yb.free hlr
    have nlf' := Yb.free hlf11
    have hlrne : lrf ≠ lr := ne_of f2 f1 (fun z => nomatch z)
    have hmklr : mk ≠ lr := ne_of_none hmk11 hlr
    have hmklf : mk ≠ lrf := ne_of_none hmk11 hlf11
    have Y13 := (Y12.add f1 nl').add f2 ⟨nlf'.1, nlf'.2.1, ni_cons nlf'.2.2 hlrne⟩
    refine ⟨_, rfl, y, _, dy, _, rfl, Y13.yE, T.cl_Yard, T.no_Yard_last_resort, csz rfl, ?_⟩
    rw [pf_y12]
    have Y14 := Y13.set (fs' := ydF 0 st fr no nu 0 lm mk hn fa rt lr)
    have hmk14 : L2.upd G12 y (.ins (ga K "Yard") dy (ydF 0 st fr no nu 0 lm mk hn fa rt lr)) mk = some (.lst [.ref lr]) := by rw [upd_ne hmky]; exact f3
    refine ⟨_, rfl, y, _, dy, _, _, rfl, Y14.yE, T.cl_Yard, T.no_Yard_made, (by kernel_rfl : _ = some (V.ref mk)), .inl ⟨rfl, _, SqL.of hmk14⟩, ?_⟩
    refine ⟨mk, _, _, rfl, rfl, hmk14, rfl, ?_⟩
    have Y15 := (Y14.kpM (M := fun b => b = mk) (Kp.at (o := .lst []) rfl) (fun e => hmky e.symm) (fun x hx e => by
      rcases List.mem_cons.mp hx with z | hx
      · rw [z] at e
        exact hmklf e.symm
      · rcases List.mem_cons.mp hx with z | hx
        · rw [z] at e
          exact hmklr e.symm
        · exact hmkps x hx e) (fun b e => by rw [e]; exact hmkH)).add upd_same ⟨hmkH, hmky, fun z => by
      obtain ⟨x, hx, e⟩ := List.mem_map.mp z
      rcases List.mem_cons.mp hx with q | hx
      · rw [q] at e
        exact hmklf e.symm
      · rcases List.mem_cons.mp hx with q | hx
        · rw [q] at e
          exact hmklr e.symm
        · exact hmkps x hx e⟩
    have g := fun (p : Addr) (o : HO) (h : (p, o) ∈ _) => (Y15.all (p, o) h).1
    exact k st fr no nu lm mk hn fa rt lr rfl_ rhl lrf _ Y15.nd (fun b hb => Y15.allH b hb) ⟨⟨dy, Y15.yE⟩, g st _ (by simp), g fr _ (by simp), g no _ (by simp), g nu _ (by simp), g lm _ (by simp), g mk _ (by simp), g hn _ (by simp), g fa _ (by simp), ⟨dxr, g rt _ (by simp)⟩, g rfl_ _ (by simp), g rhl _ (by simp), ⟨dxl, g lr _ (by simp)⟩, g lrf _ (by simp)⟩ Y15.kp
end
end Ry
namespace Ry
open PySem PySem.Spec PyProof.Rows L2 He RyH
open C8 (pss_cut tCut Cal Met Mak pe_c pe_mk pe_mt pe_mt0 pe_gc)
/-! ### more of a yard -/
def spAddLevelName (K : PySem.W.Frag) : Sp := fun vs H Q _ => ∃ (y no nu : Addr) (fy : List (Str × V)) (lv : Int) (nm : Str) (ns us : List (Key × V)), vs = [.ref y, .int lv, .str nm] ∧ YIns K H y fy ∧ lk fy "names_of" = some (.ref no) ∧ lk fy "numbers_of" = some (.ref nu) ∧
  H no = some (.dK ns) ∧ H nu = some (.dK us) ∧ no ≠ nu ∧ ns.length < 1000 ∧ us.length < 1000 ∧ Q .non (upd (upd H no (.dK (putK ns (.inl lv) (.str nm)))) nu (.dK (putK us (kS nm) (.int lv))))
def spDisable (K : PySem.W.Frag) : Sp := fun vs H Q _ => ∃ (y dy : Addr) (fy : List (Str × V)) (lv : Int), vs = [.ref y, .int lv] ∧ H y = some (.ins (ga K "Yard") dy fy) ∧ lk fy "level_of" = none ∧ fy.length < 1000 ∧ Q .non (upd H y (.ins (ga K "Yard") dy (putF "bar_level" (.int lv) fy)))
section
variable {P : Program} {w : World} {K : PySem.W.Frag} {mg : Str → Option Value} {base : Heap}
theorem met_Yard_getLogger (T : Txt w K mg) : Met P w K mg base 4 (ga K "Yard") "getLogger" (spGetLogger K) [] := by
  obtain ⟨fd, f, F⟩ := fn_Yard_getLogger (P := P) (base := base) T
  obtain ⟨ds, hV, hB⟩ := F.binds1 (ps := ["self", "name"]) 2 1 (fun z => nomatch z) rfl (fun _ _ _ _ _ _ _ us its h1 h2 => match us, its, h1, h2 with | [_, _], [_], _, _ => ⟨_, rfl, rfl⟩)
  refine ⟨_, fd, _, _, T.cl_Yard, T.me_Yard_getLogger, ?_, hB, hV⟩
  exact f
theorem mk_Yard (T : Txt w K mg) : Mak P w K mg base 5 "Yard" (ga K "Yard") (spYardInit K) [(.int (0))] := by
  obtain ⟨fd, f, F⟩ := fn_Yard_init (P := P) (base := base) T
  obtain ⟨ds, hV, hB⟩ := F.binds1 (ps := ["self", "now"]) 1 0 (fun z => nomatch z) rfl (fun _ _ _ _ _ _ _ us its h1 h2 => match us, its, h1, h2 with | [_], [_], _, _ => ⟨_, rfl, rfl⟩)
  refine ⟨_, fd, _, _, T.mk_Yard, ?_, T.m_Yard, hB, hV⟩
  exact f
theorem sc_Yard_add_level_name : FnScope ["self", "level", "name"] ["self", "level", "name"] (defScope s_Yard_add_level_name) := ⟨rfl, rfl, rfl, by decide +kernel, rfl, by decide +kernel, by decide +kernel⟩
theorem fn_Yard_add_level_name (T : Txt w K mg) : ∃ fd, FnOk P w K mg base CX0 1 (ma K (ga K "Yard") "add_level_name") fd ["self", "level", "name"] (spAddLevelName K) ∧ FunD K "add_level_name" "Yard.add_level_name" (defArgs s_Yard_add_level_name) (defBody s_Yard_add_level_name) (defScope s_Yard_add_level_name) (He.DefD.dvs K d_Yard_add_level_name) [] (ma K (ga K "Yard") "add_level_name") fd := by
  obtain ⟨fd, F⟩ := T.df_Yard_add_level_name
  refine ⟨fd, F.ok sc_Yard_add_level_name (fun vs H Q E h => ?_) (fun cdv A outer s H vs Q E hr h => ?_), F⟩
  · obtain ⟨_, _, _, _, _, _, _, _, rfl, _⟩ := h
    rfl
  · obtain ⟨y, no, nu, fy, lv, nm, ns, us, rfl, ⟨dy, hy⟩, h1, h2, e1, e2, hne, l1, l2, k⟩ := h
    refine ⟨_, PSs.nox (pss_cons (ps_dput (hu_of hr) (pe_fld (pv 0) rfl) (pv 1) (pv 2) rfl)
      (pss_one (ps_dput (hu_of hr) (pe_fld (pv 0) rfl) (pv 2) (pv 1) rfl))), ?_⟩
    refine ⟨_, rfl, _, rfl, y, _, dy, fy, _, rfl, hy, T.cl_Yard, T.no_Yard_names_of, h1, ?_⟩
    refine ⟨_, rfl, no, _, rfl, DPut.k (k := Sum.inl lv) e1 (by rw [sizeLine_eq]; omega), ?_⟩
    have hyn : y ≠ no := ne_of hy e1 (fun z => nomatch z)
    refine ⟨_, rfl, _, rfl, y, _, dy, fy, _, rfl, by rw [upd_ne hyn]; exact hy, T.cl_Yard, T.no_Yard_numbers_of, h2, ?_⟩
    refine ⟨_, rfl, nu, _, rfl, DPut.k (k := kS nm) (by rw [upd_ne hne.symm]; exact e2) (by rw [sizeLine_eq]; omega), k⟩
theorem met_Yard_add_level_name (T : Txt w K mg) : Met P w K mg base 1 (ga K "Yard") "add_level_name" (spAddLevelName K) [] := by
  obtain ⟨fd, f, F⟩ := fn_Yard_add_level_name (P := P) (base := base) T
  have hB : Binds K fd ["self", "level", "name"] [] := F.bindsN (fun _ _ _ _ _ _ us hl => match us, hl with | [_, _, _], _ => rfl)
  have hV : Vals [] ([] : List Value) := .nil
  refine ⟨_, fd, _, _, T.cl_Yard, T.me_Yard_add_level_name, ?_, hB, hV⟩
  exact f
theorem sc_Yard_disable : FnScope ["self", "level"] ["self", "level"] (defScope s_Yard_disable) := ⟨rfl, rfl, rfl, by decide +kernel, rfl, by decide +kernel, by decide +kernel⟩
theorem fn_Yard_disable (T : Txt w K mg) : ∃ fd, FnOk P w K mg base CX0 3 (ma K (ga K "Yard") "disable") fd ["self", "level"] (spDisable K) ∧ FunD K "disable" "Yard.disable" (defArgs s_Yard_disable) (defBody s_Yard_disable) (defScope s_Yard_disable) (He.DefD.dvs K d_Yard_disable) [] (ma K (ga K "Yard") "disable") fd := by
  obtain ⟨fd, F⟩ := T.df_Yard_disable
  have c_Yard_level_of := met_Yard_level_of (P := P) (base := base) T
  refine ⟨fd, F.ok sc_Yard_disable (fun vs H Q E h => ?_) (fun cdv A outer s H vs Q E hr h => ?_), F⟩
  · obtain ⟨_, _, _, _, rfl, _⟩ := h
    rfl
  · obtain ⟨y, dy, fy, lv, rfl, hy, hlo, len, k⟩ := h
    refine ⟨_, PSs.nox (pss_one (ps_fld (pv 0) (pe_mt c_Yard_level_of hr (by decide) (pv 0) (pa_cons (pv 1) pa_nil)) rfl)), ?_⟩
    refine ⟨_, rfl, y, dy, fy, rfl, hy, hlo, _, rfl, y, lv, rfl, ?_⟩
    exact ⟨_, rfl, y, _, dy, fy, rfl, hy, T.cl_Yard, T.no_Yard_bar_level, len, k⟩
end
end Ry
namespace Ry
open PySem PySem.Spec PyProof.Rows L2 He RyH
open C8 (pss_cut tCut Cal Met Mak pe_c pe_mk pe_mt pe_mt0 pe_gc)
/-! ### the names of a yard's loggers -/
def spLoggers (K : PySem.W.Frag) : Sp := fun vs H Q _ => ∃ (y lm : Addr) (fy : List (Str × V)) (rows : List (Str × Addr)), vs = [.ref y] ∧ YIns K H y fy ∧ lk fy "logger_map" = some (.ref lm) ∧ H lm = some (.dK (rows.map rowE)) ∧ rows.length < 64 ∧
  ∀ p (ys : List Str), H p = none → ys.Perm (rows.map (·.1)) → sortedS ys = true → Q (.ref p) (upd H p (.lst (ys.map V.str)))
section
variable {P : Program} {w : World} {K : PySem.W.Frag} {mg : Str → Option Value} {base : Heap}
theorem met_Yard_disable (T : Txt w K mg) : Met P w K mg base 3 (ga K "Yard") "disable" (spDisable K) [] := by
  obtain ⟨fd, f, F⟩ := fn_Yard_disable (P := P) (base := base) T
  obtain ⟨ds, hV, hB⟩ := F.binds1 (ps := ["self", "level"]) 2 1 (fun z => nomatch z) rfl (fun _ _ _ _ _ _ _ us its h1 h2 => match us, its, h1, h2 with | [_, _], [_], _, _ => ⟨_, rfl, rfl⟩)
  refine ⟨_, fd, _, _, T.cl_Yard, T.me_Yard_disable, ?_, hB, hV⟩
  exact f
theorem sc_Yard_loggers : FnScope ["self"] ["self"] (defScope s_Yard_loggers) := ⟨rfl, rfl, rfl, by decide +kernel, rfl, by decide +kernel, by decide +kernel⟩
theorem fn_Yard_loggers (T : Txt w K mg) : ∃ fd, FnOk P w K mg base CX0 1 (ma K (ga K "Yard") "loggers") fd ["self"] (spLoggers K) ∧ FunD K "loggers" "Yard.loggers" (defArgs s_Yard_loggers) (defBody s_Yard_loggers) (defScope s_Yard_loggers) (He.DefD.dvs K d_Yard_loggers) [] (ma K (ga K "Yard") "loggers") fd := by
  obtain ⟨fd, F⟩ := T.df_Yard_loggers
  refine ⟨fd, F.ok sc_Yard_loggers (fun vs H Q E h => ?_) (fun cdv A outer s H vs Q E hr h => ?_), F⟩
  · obtain ⟨_, _, _, _, rfl, _⟩ := h
    rfl
  · obtain ⟨y, lm, fy, rows, rfl, ⟨dy, hy⟩, hm, e, len, k⟩ := h
    refine ⟨_, PSs.nox (pss_one (ps_ret (pe_callB (id := "sorted") (call_sortedD rfl) (by rfl) T.f_sorted (by decide +kernel) (pa_cons (pe_fld (pv 0) rfl) pa_nil)))), ?_⟩
    refine ⟨_, rfl, y, _, dy, fy, _, rfl, hy, T.cl_Yard, T.no_Yard_logger_map, hm, ?_⟩
    refine ⟨lm, _, rows.map (·.1), rfl, .inl e, by rw [List.map_map, List.map_map]; rfl, by rw [List.length_map]; exact len, ?_⟩
    exact fun ys p h1 h2 h3 => k p ys h3 h1 h2
theorem met_Yard_loggers (T : Txt w K mg) : Met P w K mg base 1 (ga K "Yard") "loggers" (spLoggers K) [] := by
  obtain ⟨fd, f, F⟩ := fn_Yard_loggers (P := P) (base := base) T
  have hB : Binds K fd ["self"] [] := F.bindsN (fun _ _ _ _ _ _ us hl => match us, hl with | [_], _ => rfl)
  have hV : Vals [] ([] : List Value) := .nil
  refine ⟨_, fd, _, _, T.cl_Yard, T.me_Yard_loggers, ?_, hB, hV⟩
  exact f
end
end Ry
namespace Ry
open PySem PySem.Spec PyProof.Rows L2 He RyH
open C8 (pss_cut tCut Cal Met Mak pe_c pe_mk pe_mt pe_mt0 pe_gc)
/-! ### a yard as a whole -/
/-- whose an address is -/
inductive Tg where
  | y | st | fr | no | nu | lm | mk | hn | fa | lr | lrf
  | lg (k : Str) | lf (k : Str) | lh (k : Str) | hd (i : Nat) | hf (i : Nat)
/-- a filter: a Filter of that name, a function -/
inductive FlR where
  | fil (a : Addr) (x : Str) | fn (a : Addr)
def FlR.addr : FlR → Addr
  | .fil a _ => a
  | .fn a => a
def FlOk (K : PySem.W.Frag) (H : Hp) (tg : Addr → Option Tg) : FlR → Prop
  | .fil a x => tg a = none ∧ ∃ dx, H a = some (.ins (ga K "Filter") dx ([("name", .str x)] : List (Str × V)))
  | .fn a => tg a = none ∧ H a = some (RyR.FnO a)
structure LgR where
  a : Addr
  fl : Addr
  hl : Addr
  name : Str
  level : Int
  prop : Bool
  dis : Bool
  fs : List FlR
  hs : List Addr
  par : V
structure LgOk (K : PySem.W.Frag) (H : Hp) (tg : Addr → Option Tg) (y : Addr) (key : Str) (r : LgR) : Prop where
  ta : tg r.a = some (.lg key)
  tf : tg r.fl = some (.lf key)
  th : tg r.hl = some (.lh key)
  aE : ∃ dx, H r.a = some (.ins (ga K "Logger") dx (lgF y r.fl r.name r.level r.prop r.dis r.hl r.par))
  flE : H r.fl = some (.lst ((r.fs.map FlR.addr).map V.ref))
  hlE : H r.hl = some (.lst (r.hs.map V.ref))
  fs : ∀ f ∈ r.fs, FlOk K H tg f
structure HdR where
  a : Addr
  fl : Addr
  st : Option Str
  level : Int
  term : Str
  fmt : Option (Addr × Addr × Bool × List FP)
  name : Option Str
  closed : Bool
  fs : List FlR
def fmtVal : Option (Addr × Addr × Bool × List FP) → V
  | none => .non
  | some x => .ref x.1
def hdFs (y : Addr) (h : HdR) : List (Str × V) := hdB y h.fl h.level (fmtVal h.fmt) (calV h.name) h.term h.closed ++ (match h.st with | none => [] | some x => ([("stream", .str x)] : List (Str × V)))
/-- of what shapes are tagged things -/
def okShape : HO → Prop
  | .lst _ => True
  | .dK _ => True
  | .ins _ _ fs => 7 ≤ fs.length
  | _ => False
def JAtT (K : PySem.W.Frag) (H : Hp) (tg : Addr → Option Tg) (v : V) : JP → Prop
  | .txt l => v = .str (tx l)
  | .fld nm => ∃ c dx, v = .ref c ∧ tg c = none ∧ H c = some (.ins (ga K "Field") dx (fdF (tx nm)))
/-- a formatter, none of its parts is tagged -/
def FmT (K : PySem.W.Frag) (H : Hp) (tg : Addr → Option Tg) (a : Addr) (b : Bool) (ps : List FP) (dd : Addr) : Prop := ∃ dx q js, tg a = none ∧ tg dd = none ∧ tg q = none ∧ H a = some (.ins (ga K "Formatter") dx (fmF (fmtText b ps) b q dd)) ∧ H q = some (.tup js) ∧ Paired (JAtT K H tg) js (joinT (toks ps)) ∧ H dd = some (.dK [])
theorem FmT.of {K : PySem.W.Frag} {H H0 : Hp} {tg : Addr → Option Tg} {a dd : Addr} {b : Bool} {ps : List FP} (h : FmAt K H a b ps dd) (ha : tg a = none) (hd : tg dd = none) (hs : ∀ c t, tg c = some t → ∃ o, H c = some o ∧ okShape o) : FmT K H tg a b ps dd := by
  obtain ⟨dx, q, js, e1, e2, e3, e4⟩ := h
  have un : ∀ c o, H c = some o → ¬ okShape o → tg c = none := fun c o e n => by
    cases z : tg c with
    | none => rfl
    | some t =>
      obtain ⟨o', e', k⟩ := hs c t z
      rw [e] at e'
      cases e'
      exact absurd k n
  refine ⟨dx, q, js, ha, hd, un q _ e2 (fun z => z), e1, e2, Paired.impl e3 fun v j hj => ?_, e4⟩
  cases j with
  | txt l => exact hj
  | fld nm =>
    obtain ⟨c, d, e, k⟩ := hj
    exact ⟨c, d, e, un c _ k (fun z : 7 ≤ 5 => absurd z (by decide)), k⟩
structure HdOk (K : PySem.W.Frag) (H : Hp) (tg : Addr → Option Tg) (y : Addr) (i : Nat) (h : HdR) : Prop where
  ta : tg h.a = some (.hd i)
  tf : tg h.fl = some (.hf i)
  aE : ∃ dx, H h.a = some (.ins (ga K (if h.st.isSome then "StreamHandler" else "NullHandler")) dx (hdFs y h))
  flE : H h.fl = some (.lst ((h.fs.map FlR.addr).map V.ref))
  fs : ∀ f ∈ h.fs, FlOk K H tg f
  fm : ∀ a dd b ps, h.fmt = some (a, dd, b, ps) → FmT K H tg a b ps dd
end Ry
namespace Ry
open PySem PySem.Spec PyProof.Rows L2 He RyH
open C8 (pss_cut tCut Cal Met Mak pe_c pe_mk pe_mt pe_mt0 pe_gc)
/-! ### what stays -/
/-- all but tagged things that M names stay -/
def KpT (tg : Addr → Option Tg) (M : Tg → Prop) (H H' : Hp) : Prop := ∀ b o, H b = some o → (∀ t, tg b = some t → ¬ M t) → H' b = some o
theorem KpT.at {tg : Addr → Option Tg} {M : Tg → Prop} {H : Hp} {p : Addr} {t : Tg} {o : HO} (h : tg p = some t) (m : M t) : KpT tg M H (upd H p o) := fun b u e n => by
  rw [upd_ne (fun z => n t (by rw [z]; exact h) m)]
  exact e
theorem KpT.same {tg : Addr → Option Tg} {M : Tg → Prop} {H H' : Hp} (k : Same H H') : KpT tg M H H' := fun b o e _ => k b o e
theorem KpT.trans {tg : Addr → Option Tg} {M : Tg → Prop} {H H1 H2 : Hp} (a : KpT tg M H H1) (b : KpT tg M H1 H2) : KpT tg M H H2 := fun c o e n => b c o (a c o e n) n
theorem FlOk.kp {K : PySem.W.Frag} {tg : Addr → Option Tg} {M : Tg → Prop} {H H' : Hp} {f : FlR} (h : FlOk K H tg f) (k : KpT tg M H H') : FlOk K H' tg f := by
  cases f with
  | fil a x =>
    obtain ⟨t, dx, e⟩ := h
    exact ⟨t, dx, k _ _ e fun u z => by rw [t] at z; cases z⟩
  | fn a =>
    obtain ⟨t, e⟩ := h
    exact ⟨t, k _ _ e fun u z => by rw [t] at z; cases z⟩
theorem LgOk.kp {K : PySem.W.Frag} {tg : Addr → Option Tg} {M : Tg → Prop} {H H' : Hp} {y : Addr} {key : Str} {r : LgR} (h : LgOk K H tg y key r) (k : KpT tg M H H') (n1 : ¬ M (.lg key)) (n2 : ¬ M (.lf key)) (n3 : ¬ M (.lh key)) : LgOk K H' tg y key r := by
  obtain ⟨dx, e⟩ := h.aE
  exact ⟨h.ta, h.tf, h.th, ⟨dx, k _ _ e fun t z => by rw [h.ta] at z; cases z; exact n1⟩, k _ _ h.flE fun t z => by rw [h.tf] at z; cases z; exact n2, k _ _ h.hlE fun t z => by rw [h.th] at z; cases z; exact n3, fun f hf => (h.fs f hf).kp k⟩
theorem FmT.kp {K : PySem.W.Frag} {tg : Addr → Option Tg} {M : Tg → Prop} {H H' : Hp} {a dd : Addr} {b : Bool} {ps : List FP} (h : FmT K H tg a b ps dd) (k : KpT tg M H H') : FmT K H' tg a b ps dd := by
  obtain ⟨dx, q, js, t1, t2, t3, e1, e2, e3, e4⟩ := h
  have kk : ∀ c o, tg c = none → H c = some o → H' c = some o := fun c o z e => k _ _ e fun u z' => by rw [z] at z'; cases z'
  refine ⟨dx, q, js, t1, t2, t3, kk _ _ t1 e1, kk _ _ t3 e2, Paired.impl e3 fun v j hj => ?_, kk _ _ t2 e4⟩
  cases j with
  | txt l => exact hj
  | fld nm =>
    obtain ⟨c, d, e, z, k⟩ := hj
    exact ⟨c, d, e, z, kk _ _ z k⟩
theorem HdOk.kp {K : PySem.W.Frag} {tg : Addr → Option Tg} {M : Tg → Prop} {H H' : Hp} {y : Addr} {i : Nat} {h : HdR} (x : HdOk K H tg y i h) (k : KpT tg M H H') (n1 : ¬ M (.hd i)) (n2 : ¬ M (.hf i)) : HdOk K H' tg y i h := by
  obtain ⟨dx, e⟩ := x.aE
  exact ⟨x.ta, x.tf, ⟨dx, k _ _ e fun t z => by rw [x.ta] at z; cases z; exact n1⟩, k _ _ x.flE fun t z => by rw [x.tf] at z; cases z; exact n2, fun f hf => (x.fs f hf).kp k, fun a dd b ps e => (x.fm a dd b ps e).kp k⟩
end Ry
namespace Ry
open PySem PySem.Spec PyProof.Rows L2 He RyH
open C8 (pss_cut tCut Cal Met Mak pe_c pe_mk pe_mt pe_mt0 pe_gc)
/-! ### new tags -/
/-- tg' says of what stands in H what tg says -/
def Ag (H : Hp) (tg tg' : Addr → Option Tg) : Prop := ∀ b o, H b = some o → tg' b = tg b
def tgU (tg : Addr → Option Tg) (p : Addr) (t : Tg) : Addr → Option Tg := fun b => if b = p then some t else tg b
theorem tgU_same {tg : Addr → Option Tg} {p : Addr} {t : Tg} : tgU tg p t p = some t := if_pos rfl
theorem tgU_ne {tg : Addr → Option Tg} {p b : Addr} {t : Tg} (h : b ≠ p) : tgU tg p t b = tg b := if_neg h
theorem Ag.refl {H : Hp} {tg : Addr → Option Tg} : Ag H tg tg := fun _ _ _ => rfl
theorem Ag.new {H : Hp} {tg tg' : Addr → Option Tg} {p : Addr} {t : Tg} (a : Ag H tg tg') (hp : H p = none) : Ag H tg (tgU tg' p t) := fun b o e => by
  rw [tgU_ne (ne_of_none e hp)]
  exact a b o e
theorem FlOk.ag {K : PySem.W.Frag} {H : Hp} {tg tg' : Addr → Option Tg} {f : FlR} (h : FlOk K H tg f) (a : Ag H tg tg') : FlOk K H tg' f := by
  cases f with
  | fil b x =>
    obtain ⟨t, dx, e⟩ := h
    exact ⟨(a _ _ e).trans t, dx, e⟩
  | fn b =>
    obtain ⟨t, e⟩ := h
    exact ⟨(a _ _ e).trans t, e⟩
theorem LgOk.ag {K : PySem.W.Frag} {H : Hp} {tg tg' : Addr → Option Tg} {y : Addr} {key : Str} {r : LgR} (h : LgOk K H tg y key r) (a : Ag H tg tg') : LgOk K H tg' y key r := by
  obtain ⟨dx, e⟩ := h.aE
  exact ⟨(a _ _ e).trans h.ta, (a _ _ h.flE).trans h.tf, (a _ _ h.hlE).trans h.th, ⟨dx, e⟩, h.flE, h.hlE, fun f hf => (h.fs f hf).ag a⟩
theorem FmT.ag {K : PySem.W.Frag} {H : Hp} {tg tg' : Addr → Option Tg} {c dd : Addr} {b : Bool} {ps : List FP} (h : FmT K H tg c b ps dd) (a : Ag H tg tg') : FmT K H tg' c b ps dd := by
  obtain ⟨dx, q, js, t1, t2, t3, e1, e2, e3, e4⟩ := h
  refine ⟨dx, q, js, (a _ _ e1).trans t1, (a _ _ e4).trans t2, (a _ _ e2).trans t3, e1, e2, Paired.impl e3 fun v j hj => ?_, e4⟩
  cases j with
  | txt l => exact hj
  | fld nm =>
    obtain ⟨c, d, e, z, k⟩ := hj
    exact ⟨c, d, e, (a _ _ k).trans z, k⟩
theorem HdOk.ag {K : PySem.W.Frag} {H : Hp} {tg tg' : Addr → Option Tg} {y : Addr} {i : Nat} {h : HdR} (x : HdOk K H tg y i h) (a : Ag H tg tg') : HdOk K H tg' y i h := by
  obtain ⟨dx, e⟩ := x.aE
  exact ⟨(a _ _ e).trans x.ta, (a _ _ x.flE).trans x.tf, ⟨dx, e⟩, x.flE, fun f hf => (x.fs f hf).ag a, fun c dd b ps e => (x.fm c dd b ps e).ag a⟩
end Ry
namespace Ry
open PySem PySem.Spec PyProof.Rows L2 He RyH
open C8 (pss_cut tCut Cal Met Mak pe_c pe_mk pe_mt pe_mt0 pe_gc)
/-! ### the yard -/
structure YD where
  y : Addr
  st : Addr
  fr : Addr
  no : Addr
  nu : Addr
  lm : Addr
  made : Addr
  hn : Addr
  fa : Addr
  lr : Addr
  lrf : Addr
  bar : Int
  names : List (Key × V)
  numbers : List (Key × V)
  root : LgR
  lgs : List (Str × LgR)
  hds : List HdR
  mkx : List Addr
def YD.rows (Y : YD) : List (Str × Addr) := Y.lgs.map fun x => (x.1, x.2.a)
structure YardW (K : PySem.W.Frag) (H : Hp) (tg : Addr → Option Tg) (Y : YD) : Prop where
  ty : tg Y.y = some .y
  tst : tg Y.st = some .st
  tfr : tg Y.fr = some .fr
  tno : tg Y.no = some .no
  tnu : tg Y.nu = some .nu
  tlm : tg Y.lm = some .lm
  tmk : tg Y.made = some .mk
  thn : tg Y.hn = some .hn
  tfa : tg Y.fa = some .fa
  tlr : tg Y.lr = some .lr
  tlf : tg Y.lrf = some .lrf
  yE : ∃ dy, H Y.y = some (.ins (ga K "Yard") dy (ydF 0 Y.st Y.fr Y.no Y.nu Y.bar Y.lm Y.made Y.hn Y.fa Y.root.a Y.lr))
  stE : H Y.st = some (.dK [])
  frE : H Y.fr = some (.dK [])
  noE : H Y.no = some (.dK Y.names)
  nuE : H Y.nu = some (.dK Y.numbers)
  lmE : H Y.lm = some (.dK (Y.rows.map rowE))
  mkE : H Y.made = some (.lst ((Y.hds.map fun h => V.ref h.a) ++ Y.mkx.map V.ref))
  hnE : H Y.hn = some (.dK [])
  faE : H Y.fa = some (.lst [])
  lrE : ∃ dx, H Y.lr = some (.ins (ga K "StreamHandler") dx (hdB Y.y Y.lrf 0 .non .non "\n" false ++ ([("stream", .str "stderr")] : List (Str × V))))
  lrfE : H Y.lrf = some (.lst [])
  root : LgOk K H tg Y.y "" Y.root ∧ Y.root.name = "root"
  lgs : ∀ x ∈ Y.lgs, LgOk K H tg Y.y x.1 x.2 ∧ x.2.name = x.1 ∧ x.1 ∈ logMenu
  nd : (Y.lgs.map (·.1)).Nodup
  hds : ∀ i h, Y.hds[i]? = some h → HdOk K H tg Y.y i h
  live : ∀ b t, tg b = some t → ∃ o, H b = some o ∧ okShape o
end Ry
namespace Ry
open PySem PySem.Spec PyProof.Rows L2 He RyH
open C8 (pss_cut tCut Cal Met Mak pe_c pe_mk pe_mt pe_mt0 pe_gc)
/-! ### the yard: what stays -/
theorem YardW.same {K : PySem.W.Frag} {H H' : Hp} {tg : Addr → Option Tg} {Y : YD} (h : YardW K H tg Y) (k : Same H H') : YardW K H' tg Y := by
  have kt : KpT tg (fun _ => False) H H' := KpT.same k
  obtain ⟨dy, ey⟩ := h.yE
  obtain ⟨dl, el⟩ := h.lrE
  exact { h with
    yE := ⟨dy, k _ _ ey⟩, stE := k _ _ h.stE, frE := k _ _ h.frE, noE := k _ _ h.noE, nuE := k _ _ h.nuE, lmE := k _ _ h.lmE, mkE := k _ _ h.mkE, hnE := k _ _ h.hnE, faE := k _ _ h.faE, lrE := ⟨dl, k _ _ el⟩, lrfE := k _ _ h.lrfE
    root := ⟨h.root.1.kp kt (fun z => z) (fun z => z) (fun z => z), h.root.2⟩
    lgs := fun x hx => ⟨(h.lgs x hx).1.kp kt (fun z => z) (fun z => z) (fun z => z), (h.lgs x hx).2⟩
    hds := fun i x hx => (h.hds i x hx).kp kt (fun z => z) (fun z => z)
    live := fun b t e => by
      obtain ⟨o, a, s⟩ := h.live b t e
      exact ⟨o, k _ _ a, s⟩ }
end Ry
namespace Ry
open PySem PySem.Spec PyProof.Rows L2 He RyH
open C8 (pss_cut tCut Cal Met Mak pe_c pe_mk pe_mt pe_mt0 pe_gc)
/-! ### one logger of the yard is changed -/
def YD.setLg (Y : YD) (k : Str) (r : LgR) : YD := { Y with lgs := Y.lgs.map fun x => if x.1 = k then (k, r) else x }
def mLg (k : Str) : Tg → Prop := fun t => t = .lg k ∨ t = .lf k ∨ t = .lh k
theorem live_upd {tg : Addr → Option Tg} {H : Hp} {p : Addr} {o : HO} (h : ∀ b t, tg b = some t → ∃ o, H b = some o ∧ okShape o) (ho : okShape o) : ∀ b t, tg b = some t → ∃ o', L2.upd H p o b = some o' ∧ okShape o' := fun b t e => by
  by_cases z : b = p
  · exact ⟨o, by rw [z, upd_same], ho⟩
  · obtain ⟨o', e', k⟩ := h b t e
    exact ⟨o', by rw [upd_ne z]; exact e', k⟩
/-- all but one logger's things -/
theorem YardW.rootSet {K : PySem.W.Frag} {H H' : Hp} {tg : Addr → Option Tg} {Y : YD} {r : LgR} (h : YardW K H tg Y) (k : KpT tg (mLg "") H H') (hr : LgOk K H' tg Y.y "" r) (ha : r.a = Y.root.a) (hn : r.name = "root") (hl : ∀ b t, tg b = some t → ∃ o, H' b = some o ∧ okShape o) (hne : ∀ x ∈ Y.lgs, x.1 ≠ "") : YardW K H' tg { Y with root := r } := by
  obtain ⟨dy, ey⟩ := h.yE
  obtain ⟨dl, el⟩ := h.lrE
  have kk : ∀ {b o t}, H b = some o → tg b = some t → ¬ mLg "" t → H' b = some o := fun {b o t} e et n => k b o e fun u z => by rw [et] at z; cases z; exact n
  have off : ∀ t : Tg, (∀ k, t ≠ .lg k) → (∀ k, t ≠ .lf k) → (∀ k, t ≠ .lh k) → ¬ mLg "" t := fun t a b c z => by rcases z with z | z | z <;> first | exact a _ z | exact b _ z | exact c _ z
  have o1 : ∀ t : Tg, t = .y ∨ t = .st ∨ t = .fr ∨ t = .no ∨ t = .nu ∨ t = .lm ∨ t = .mk ∨ t = .hn ∨ t = .fa ∨ t = .lr ∨ t = .lrf → ¬ mLg "" t := fun t z => by
    rcases z with z | z | z | z | z | z | z | z | z | z | z <;> (subst z; rintro (z | z | z) <;> cases z)
  exact { h with
    yE := ⟨dy, by rw [ha]; exact kk ey h.ty (o1 _ (by simp))⟩, stE := kk h.stE h.tst (o1 _ (by simp)), frE := kk h.frE h.tfr (o1 _ (by simp)), noE := kk h.noE h.tno (o1 _ (by simp)), nuE := kk h.nuE h.tnu (o1 _ (by simp)), lmE := kk h.lmE h.tlm (o1 _ (by simp)),
    mkE := kk h.mkE h.tmk (o1 _ (by simp)), hnE := kk h.hnE h.thn (o1 _ (by simp)), faE := kk h.faE h.tfa (o1 _ (by simp)), lrE := ⟨dl, kk el h.tlr (o1 _ (by simp))⟩, lrfE := kk h.lrfE h.tlf (o1 _ (by simp))
    root := ⟨hr, hn⟩
    lgs := fun x hx => ⟨(h.lgs x hx).1.kp k (by rintro (z | z | z) <;> first | exact hne x hx (Tg.lg.inj z) | cases z) (by rintro (z | z | z) <;> first | exact hne x hx (Tg.lf.inj z) | cases z) (by rintro (z | z | z) <;> first | exact hne x hx (Tg.lh.inj z) | cases z), (h.lgs x hx).2⟩
    hds := fun i x hx => (h.hds i x hx).kp k (by rintro (z | z | z) <;> cases z) (by rintro (z | z | z) <;> cases z)
    live := hl }
end Ry
namespace Ry
open PySem PySem.Spec PyProof.Rows L2 He RyH
open C8 (pss_cut tCut Cal Met Mak pe_c pe_mk pe_mt pe_mt0 pe_gc)
/-- another logger -/
theorem YardW.lgsSet {K : PySem.W.Frag} {H H' : Hp} {tg : Addr → Option Tg} {Y : YD} {key : Str} {r0 r : LgR} (h : YardW K H tg Y) (hm : (key, r0) ∈ Y.lgs) (k : KpT tg (mLg key) H H') (hr : LgOk K H' tg Y.y key r) (ha : r.a = r0.a) (hn : r.name = key) (hl : ∀ b t, tg b = some t → ∃ o, H' b = some o ∧ okShape o) (hk : key ≠ "") : YardW K H' tg (Y.setLg key r) := by
  obtain ⟨dy, ey⟩ := h.yE
  obtain ⟨dl, el⟩ := h.lrE
  have kk : ∀ {b o t}, H b = some o → tg b = some t → ¬ mLg key t → H' b = some o := fun {b o t} e et n => k b o e fun u z => by rw [et] at z; cases z; exact n
  have o1 : ∀ t : Tg, t = .y ∨ t = .st ∨ t = .fr ∨ t = .no ∨ t = .nu ∨ t = .lm ∨ t = .mk ∨ t = .hn ∨ t = .fa ∨ t = .lr ∨ t = .lrf → ¬ mLg key t := fun t z => by
    rcases z with z | z | z | z | z | z | z | z | z | z | z <;> (subst z; rintro (z | z | z) <;> cases z)
  have uniq : ∀ x ∈ Y.lgs, x.1 = key → x.2 = r0 := fun x hx e => by
    obtain ⟨i, hi, e1⟩ := List.getElem_of_mem hx
    obtain ⟨j, hj, e2⟩ := List.getElem_of_mem hm
    have a1 : Y.lgs[i]? = some x := by rw [List.getElem?_eq_getElem hi, e1]
    have a2 : Y.lgs[j]? = some (key, r0) := by rw [List.getElem?_eq_getElem hj, e2]
    have z1 := lookup_nd h.nd a1
    have z2 := lookup_nd h.nd a2
    rw [e] at z1
    have z3 : Y.lgs.lookup key = some r0 := z2
    rw [z1] at z3
    exact Option.some.inj z3
  have hrows : (Y.setLg key r).rows = Y.rows := by
    unfold YD.setLg YD.rows
    rw [List.map_map]
    refine List.map_congr_left fun x hx => ?_
    show ((if x.1 = key then (key, r) else x).1, (if x.1 = key then (key, r) else x).2.a) = (x.1, x.2.a)
    by_cases e : x.1 = key
    · rw [if_pos e, uniq x hx e, ha, e]
    · rw [if_neg e]
  exact { h with
    yE := ⟨dy, kk ey h.ty (o1 _ (by simp))⟩, stE := kk h.stE h.tst (o1 _ (by simp)), frE := kk h.frE h.tfr (o1 _ (by simp)), noE := kk h.noE h.tno (o1 _ (by simp)), nuE := kk h.nuE h.tnu (o1 _ (by simp)), lmE := by rw [hrows]; exact kk h.lmE h.tlm (o1 _ (by simp)),
    mkE := kk h.mkE h.tmk (o1 _ (by simp)), hnE := kk h.hnE h.thn (o1 _ (by simp)), faE := kk h.faE h.tfa (o1 _ (by simp)), lrE := ⟨dl, kk el h.tlr (o1 _ (by simp))⟩, lrfE := kk h.lrfE h.tlf (o1 _ (by simp))
    root := ⟨h.root.1.kp k (by rintro (z | z | z) <;> first | exact hk (Tg.lg.inj z).symm | cases z) (by rintro (z | z | z) <;> first | exact hk (Tg.lf.inj z).symm | cases z) (by rintro (z | z | z) <;> first | exact hk (Tg.lh.inj z).symm | cases z), h.root.2⟩
    lgs := fun x hx => by
      obtain ⟨x0, hx0, e⟩ := List.mem_map.mp (show x ∈ Y.lgs.map _ from hx)
      by_cases e1 : x0.1 = key
      · rw [if_pos e1] at e
        rw [← e]
        exact ⟨hr, hn, by rw [← e1]; exact (h.lgs x0 hx0).2.2⟩
      · rw [if_neg e1] at e
        rw [← e]
        exact ⟨(h.lgs x0 hx0).1.kp k (by rintro (z | z | z) <;> first | exact e1 (Tg.lg.inj z) | cases z) (by rintro (z | z | z) <;> first | exact e1 (Tg.lf.inj z) | cases z) (by rintro (z | z | z) <;> first | exact e1 (Tg.lh.inj z) | cases z), (h.lgs x0 hx0).2⟩
    nd := by
      have e : (Y.setLg key r).lgs.map (·.1) = Y.lgs.map (·.1) := by
        show (Y.lgs.map _).map _ = _
        rw [List.map_map]
        refine List.map_congr_left fun x hx => ?_
        show (if x.1 = key then (key, r) else x).1 = x.1
        by_cases e : x.1 = key
        · rw [if_pos e, e]
        · rw [if_neg e]
      rw [e]
      exact h.nd
    hds := fun i x hx => (h.hds i x hx).kp k (by rintro (z | z | z) <;> cases z) (by rintro (z | z | z) <;> cases z)
    live := hl }
end Ry
namespace Ry
open PySem PySem.Spec PyProof.Rows L2 He RyH
open C8 (pss_cut tCut Cal Met Mak pe_c pe_mk pe_mt pe_mt0 pe_gc)
/-- a handler is changed -/
def mHd (i : Nat) : Tg → Prop := fun t => t = .hd i ∨ t = .hf i
theorem YardW.hdSet {K : PySem.W.Frag} {H H' : Hp} {tg : Addr → Option Tg} {Y : YD} {i : Nat} {h0 r : HdR} (h : YardW K H tg Y) (hi : Y.hds[i]? = some h0) (k : KpT tg (mHd i) H H') (hr : HdOk K H' tg Y.y i r) (ha : r.a = h0.a) (hl : ∀ b t, tg b = some t → ∃ o, H' b = some o ∧ okShape o) : YardW K H' tg { Y with hds := Y.hds.set i r } := by
  obtain ⟨dy, ey⟩ := h.yE
  obtain ⟨dl, el⟩ := h.lrE
  have kk : ∀ {b o t}, H b = some o → tg b = some t → ¬ mHd i t → H' b = some o := fun {b o t} e et n => k b o e fun u z => by rw [et] at z; cases z; exact n
  have o1 : ∀ t : Tg, t = .y ∨ t = .st ∨ t = .fr ∨ t = .no ∨ t = .nu ∨ t = .lm ∨ t = .mk ∨ t = .hn ∨ t = .fa ∨ t = .lr ∨ t = .lrf → ¬ mHd i t := fun t z => by
    rcases z with z | z | z | z | z | z | z | z | z | z | z <;> (subst z; rintro (z | z) <;> cases z)
  have hmk : (Y.hds.set i r).map (fun h => V.ref h.a) = Y.hds.map fun h => V.ref h.a := by
    rw [List.map_set, ha]
    refine List.ext_getElem? fun j => ?_
    rw [List.getElem?_set]
    by_cases e : i = j
    · subst e
      rw [if_pos rfl]
      have hlt : i < Y.hds.length := (List.getElem?_eq_some_iff.mp hi).1
      rw [if_pos (by rw [List.length_map]; exact hlt), List.getElem?_map, hi]
      rfl
    · rw [if_neg e]
  exact { h with
    yE := ⟨dy, kk ey h.ty (o1 _ (by simp))⟩, stE := kk h.stE h.tst (o1 _ (by simp)), frE := kk h.frE h.tfr (o1 _ (by simp)), noE := kk h.noE h.tno (o1 _ (by simp)), nuE := kk h.nuE h.tnu (o1 _ (by simp)), lmE := kk h.lmE h.tlm (o1 _ (by simp)),
    mkE := by
      show H' Y.made = some (.lst (((Y.hds.set i r).map fun h => V.ref h.a) ++ Y.mkx.map V.ref))
      rw [hmk]
      exact kk h.mkE h.tmk (o1 _ (by simp))
    hnE := kk h.hnE h.thn (o1 _ (by simp)), faE := kk h.faE h.tfa (o1 _ (by simp)), lrE := ⟨dl, kk el h.tlr (o1 _ (by simp))⟩, lrfE := kk h.lrfE h.tlf (o1 _ (by simp))
    root := ⟨h.root.1.kp k (by rintro (z | z) <;> cases z) (by rintro (z | z) <;> cases z) (by rintro (z | z) <;> cases z), h.root.2⟩
    lgs := fun x hx => ⟨(h.lgs x hx).1.kp k (by rintro (z | z) <;> cases z) (by rintro (z | z) <;> cases z) (by rintro (z | z) <;> cases z), (h.lgs x hx).2⟩
    hds := fun j x hx => by
      have hx' : (Y.hds.set i r)[j]? = some x := hx
      rw [List.getElem?_set] at hx'
      by_cases e : i = j
      · subst e
        rw [if_pos rfl] at hx'
        split at hx'
        · cases hx'
          exact hr
        · cases hx'
      · rw [if_neg e] at hx'
        exact (h.hds j x hx').kp k (by rintro (z | z) <;> first | exact e (Tg.hd.inj z).symm | cases z) (by rintro (z | z) <;> first | exact e (Tg.hf.inj z).symm | cases z)
    live := hl }
end Ry
namespace Ry
open PySem PySem.Spec PyProof.Rows L2 He RyH
open C8 (pss_cut tCut Cal Met Mak pe_c pe_mk pe_mt pe_mt0 pe_gc)
/-- a handler is new -/
theorem YardW.hdAdd {K : PySem.W.Frag} {H H' : Hp} {tg tg' : Addr → Option Tg} {Y : YD} {r : HdR} (h : YardW K H tg Y) (hx : Y.mkx = []) (a : Ag H tg tg') (k : KpT tg (fun t => t = .mk) H H') (hmk : H' Y.made = some (.lst ((Y.hds.map fun h => V.ref h.a) ++ [.ref r.a]))) (hr : HdOk K H' tg' Y.y Y.hds.length r)
    (hl : ∀ b t, tg' b = some t → ∃ o, H' b = some o ∧ okShape o) : YardW K H' tg' { Y with hds := Y.hds ++ [r] } := by
  obtain ⟨dy, ey⟩ := h.yE
  obtain ⟨dl, el⟩ := h.lrE
  have kk : ∀ {b o t}, H b = some o → tg b = some t → t ≠ .mk → H' b = some o := fun {b o t} e et n => k b o e fun u z => by rw [et] at z; cases z; exact n
  have a' : Ag H' tg tg' → True := fun _ => True.intro
  have kt : KpT tg' (fun t => t = .mk) H H' := fun b o e n => k b o e fun t z => n t ((a b o e).trans z)
  refine ⟨(a _ _ ey).trans h.ty, (a _ _ h.stE).trans h.tst, (a _ _ h.frE).trans h.tfr, (a _ _ h.noE).trans h.tno, (a _ _ h.nuE).trans h.tnu, (a _ _ h.lmE).trans h.tlm, (a _ _ h.mkE).trans h.tmk, (a _ _ h.hnE).trans h.thn, (a _ _ h.faE).trans h.tfa, (a _ _ el).trans h.tlr, (a _ _ h.lrfE).trans h.tlf,
    ⟨dy, kk ey h.ty (fun z => nomatch z)⟩, kk h.stE h.tst (fun z => nomatch z), kk h.frE h.tfr (fun z => nomatch z), kk h.noE h.tno (fun z => nomatch z), kk h.nuE h.tnu (fun z => nomatch z), kk h.lmE h.tlm (fun z => nomatch z), ?_, kk h.hnE h.thn (fun z => nomatch z), kk h.faE h.tfa (fun z => nomatch z), ⟨dl, kk el h.tlr (fun z => nomatch z)⟩, kk h.lrfE h.tlf (fun z => nomatch z),
    ⟨(h.root.1.ag a).kp kt (fun z => nomatch z) (fun z => nomatch z) (fun z => nomatch z), h.root.2⟩, fun x hx => ⟨((h.lgs x hx).1.ag a).kp kt (fun z => nomatch z) (fun z => nomatch z) (fun z => nomatch z), (h.lgs x hx).2⟩, h.nd, fun j x hx => ?_, hl⟩
  · show H' Y.made = some (.lst (((Y.hds ++ [r]).map fun h => V.ref h.a) ++ Y.mkx.map V.ref))
    rw [hmk, List.map_append, hx, List.map_nil, List.append_nil]
    rfl
  · have hx' : (Y.hds ++ [r])[j]? = some x := hx
    rcases Nat.lt_or_ge j Y.hds.length with z | z
    · rw [List.getElem?_append_left z] at hx'
      exact ((h.hds j x hx').ag a).kp kt (fun z => nomatch z) (fun z => nomatch z)
    · rw [List.getElem?_append_right z] at hx'
      have e : j - Y.hds.length = 0 := by
        cases q : j - Y.hds.length with
        | zero => rfl
        | succ m => rw [q] at hx'; cases hx'
      rw [e] at hx'
      cases hx'
      rw [show j = Y.hds.length by omega]
      exact hr
end Ry
namespace Ry
open PySem PySem.Spec PyProof.Rows L2 He RyH
open C8 (pss_cut tCut Cal Met Mak pe_c pe_mk pe_mt pe_mt0 pe_gc)
/-! ### a new handler of a yard -/
def FlR.nm : FlR → Option Str
  | .fil _ x => some x
  | .fn _ => none
def fmtOf : Option (Addr × Addr × Bool × List FP) → Option (Bool × List FP)
  | none => none
  | some x => some (x.2.2.1, x.2.2.2)
/-- the handler is the plan's -/
structure HdFit (r : HdR) (h : HP) : Prop where
  level : r.level = h.level
  term : r.term = h.term
  name : r.name = none
  closed : r.closed = false
  st : r.st = if h.null = true then none else some h.stream
  fs : r.fs.map FlR.nm = h.filters.map some
  fmt : fmtOf r.fmt = h.fmt.map fun ps => (h.style, ps)
structure HNew (K : PySem.W.Frag) (H0 : Hp) (tg : Addr → Option Tg) (Y : YD) (H : Hp) (tg' : Addr → Option Tg) (r : HdR) : Prop where
  yw : YardW K H tg' { Y with hds := Y.hds ++ [r] }
  ag : Ag H0 tg tg'
  kp : KpT tg (fun t => t = .mk) H0 H
  fa : H0 r.a = none
  ff : H0 r.fl = none
theorem get_last {α : Type} (xs : List α) (x : α) : (xs ++ [x])[xs.length]? = some x := by simp
theorem set_last {α : Type} (xs : List α) (x y : α) : (xs ++ [x]).set xs.length y = xs ++ [y] := by simp
theorem HNew.hd {K : PySem.W.Frag} {H0 H : Hp} {tg tg' : Addr → Option Tg} {Y : YD} {r : HdR} (h : HNew K H0 tg Y H tg' r) : HdOk K H tg' Y.y Y.hds.length r := h.yw.hds _ _ (get_last Y.hds r)
theorem HdOk.live {K : PySem.W.Frag} {H H' : Hp} {tg : Addr → Option Tg} {y : Addr} {i : Nat} {r : HdR} (x : HdOk K H' tg y i r) (k : Kp (fun b => b = r.a ∨ b = r.fl) H H') (hl : ∀ b t, tg b = some t → ∃ o, H b = some o ∧ okShape o) : ∀ b t, tg b = some t → ∃ o, H' b = some o ∧ okShape o := fun b t e => by
  by_cases e1 : b = r.a
  · obtain ⟨dx, q⟩ := x.aE
    exact ⟨_, by rw [e1]; exact q, by show 7 ≤ (hdFs y r).length; unfold hdFs; rw [List.length_append]; show 7 ≤ 7 + _; omega⟩
  · by_cases e2 : b = r.fl
    · exact ⟨.lst _, by rw [e2]; exact x.flE, True.intro⟩
    · obtain ⟨o, q, s⟩ := hl b t e
      exact ⟨o, k _ _ q fun z => by rcases z with z | z <;> first | exact e1 z | exact e2 z, s⟩
theorem HNew.set {K : PySem.W.Frag} {H0 H H' : Hp} {tg tg' : Addr → Option Tg} {Y : YD} {r r' : HdR} (h : HNew K H0 tg Y H tg' r) (hr : HdOk K H' tg' Y.y Y.hds.length r') (ha : r'.a = r.a) (hf : r'.fl = r.fl) (k : Kp (fun b => b = r.a ∨ b = r.fl) H H') : HNew K H0 tg Y H' tg' r' := by
  have h0 := h.hd
  have kt : KpT tg' (mHd Y.hds.length) H H' := fun b o e n => k b o e fun z => by
    rcases z with z | z
    · exact n _ (by rw [z]; exact h0.ta) (.inl rfl)
    · exact n _ (by rw [z]; exact h0.tf) (.inr rfl)
  have yw := YardW.hdSet h.yw (get_last Y.hds r) kt hr ha (HdOk.live hr (by rw [ha, hf]; exact k) h.yw.live)
  have e : ({ Y with hds := Y.hds ++ [r] } : YD).hds.set Y.hds.length r' = Y.hds ++ [r'] := set_last Y.hds r r'
  rw [e] at yw
  refine ⟨yw, h.ag, fun b o e n => k _ _ (h.kp b o e n) fun z => ?_, (by rw [ha]; exact h.fa), (by rw [hf]; exact h.ff)⟩
  rcases z with z | z
  · rw [z, h.fa] at e
    cases e
  · rw [z, h.ff] at e
    cases e
/-- what is new is put beside -/
theorem HNew.same {K : PySem.W.Frag} {H0 H H' : Hp} {tg tg' : Addr → Option Tg} {Y : YD} {r : HdR} (h : HNew K H0 tg Y H tg' r) (k : Same H H') : HNew K H0 tg Y H' tg' r := ⟨h.yw.same k, h.ag, fun b o e n => k _ _ (h.kp b o e n), h.fa, h.ff⟩
/-- a field of the handler is set -/
theorem HdOk.setA {K : PySem.W.Frag} {H : Hp} {tg : Addr → Option Tg} {y : Addr} {i : Nat} {r r' : HdR} {dx : Addr} (x : HdOk K H tg y i r) (ha : r'.a = r.a) (hf : r'.fl = r.fl) (hs : r'.fs = r.fs)
    (hm : ∀ a dd b ps, r'.fmt = some (a, dd, b, ps) → FmT K H tg a b ps dd) : HdOk K (L2.upd H r.a (.ins (ga K (if r'.st.isSome then "StreamHandler" else "NullHandler")) dx (hdFs y r'))) tg y i r' := by
  obtain ⟨d0, e0⟩ := x.aE
  have kt : ∀ o, KpT tg (mHd i) H (L2.upd H r.a o) := fun o => KpT.at x.ta (.inl rfl)
  refine ⟨by rw [ha]; exact x.ta, by rw [hf]; exact x.tf, ⟨dx, by rw [ha, upd_same]⟩, ?_, fun f hfm => (x.fs f (by rw [← hs]; exact hfm)).kp (kt _), fun a dd b ps e => (hm a dd b ps e).kp (kt _)⟩
  rw [hf, hs, upd_ne (ne_of x.flE e0 fun z => nomatch z)]
  exact x.flE
theorem hdFs_level (y : Addr) (h : HdR) (i : Int) : putF "level" (.int i) (hdFs y h) = hdFs y { h with level := i } := by
  obtain ⟨a, fl, st, lv, tm, fm, nm, cl, fs⟩ := h
  cases st <;> kernel_rfl
theorem hdFs_term (y : Addr) (h : HdR) (z : Str) : putF "terminator" (.str z) (hdFs y h) = hdFs y { h with term := z } := by
  obtain ⟨a, fl, st, lv, tm, fm, nm, cl, fs⟩ := h
  cases st <;> kernel_rfl
theorem hdFs_fmt (y : Addr) (h : HdR) (x : Addr × Addr × Bool × List FP) : putF "formatter" (.ref x.1) (hdFs y h) = hdFs y { h with fmt := some x } := by
  obtain ⟨a, fl, st, lv, tm, fm, nm, cl, fs⟩ := h
  cases st <;> kernel_rfl
theorem hdFs_len (y : Addr) (h : HdR) : (hdFs y h).length < 1000 := by
  obtain ⟨a, fl, st, lv, tm, fm, nm, cl, fs⟩ := h
  cases st <;> exact csz rfl
theorem hdFs_lk (y : Addr) (h : HdR) : lk (hdFs y h) "filters" = some (.ref h.fl) ∧ lk (hdFs y h) "yard" = some (.ref y) ∧ lk (hdFs y h) "setLevel" = none ∧ lk (hdFs y h) "setTerminator" = none ∧ lk (hdFs y h) "addFilter" = none ∧ lk (hdFs y h) "setFormatter" = none := by
  obtain ⟨a, fl, st, lv, tm, fm, nm, cl, fs⟩ := h
  cases st <;> exact ⟨by kernel_rfl, by kernel_rfl, by kernel_rfl, by kernel_rfl, by kernel_rfl, by kernel_rfl⟩
/-- classes of handlers -/
def HC (K : PySem.W.Frag) (C : Addr) : Prop := C = ga K "StreamHandler" ∨ C = ga K "NullHandler"
theorem pe_any {X : Cx} {e : Expr} {ι : Type} {D : ι → Prop} {t : ι → TE} (h : ∀ i, D i → PE X e (t i)) : PE X e (fun σ H Q => ∃ i, D i ∧ t i σ H Q) := ⟨fun pins s σ H Q I ⟨i, d, q⟩ => (h i d).run pins s σ H Q I q⟩
theorem hc_of (K : PySem.W.Frag) (st : Option Str) : HC K (ga K (if st.isSome then "StreamHandler" else "NullHandler")) := by
  cases st
  · exact .inr rfl
  · exact .inl rfl
theorem KpT.kp {tg : Addr → Option Tg} {M : Tg → Prop} {H H' : Hp} (k : KpT tg M H H') : Kp (fun b => ∃ t, tg b = some t) H H' := fun b o e n => k b o e fun t z _ => n ⟨t, z⟩
section
variable {P : Program} {w : World} {K : PySem.W.Frag} {mg : Str → Option Value} {base : Heap}
theorem HC.hcls (T : Txt w K mg) {C : Addr} (h : HC K C) : HCls K C := by
  rcases h with rfl | rfl
  · exact hc_StreamHandler T
  · exact hc_NullHandler T
theorem HC.cmp (T : Txt w K mg) {C : Addr} (h : HC K C) : CmpC K C := by
  rcases h with rfl | rfl
  · exact T.cc_StreamHandler
  · exact T.cc_NullHandler
theorem met_H_setLevel (T : Txt w K mg) : ∀ C, HC K C → Met P w K mg base 3 C "setLevel" (spSetLevel K) [] := fun C h => by
  rcases h with rfl | rfl
  · exact met_StreamHandler_setLevel T
  · exact met_NullHandler_setLevel T
theorem met_H_setFormatter (T : Txt w K mg) : ∀ C, HC K C → Met P w K mg base 1 C "setFormatter" (spSetF K "formatter") [] := fun C h => by
  rcases h with rfl | rfl
  · exact met_StreamHandler_setFormatter T
  · exact met_NullHandler_setFormatter T
theorem met_H_setTerminator (T : Txt w K mg) : ∀ C, HC K C → Met P w K mg base 1 C "setTerminator" (spSetF K "terminator") [] := fun C h => by
  rcases h with rfl | rfl
  · exact met_StreamHandler_setTerminator T
  · exact met_NullHandler_setTerminator T
theorem met_H_addFilter (T : Txt w K mg) : ∀ C, HC K C → Met P w K mg base 1 C "addFilter" (spAddFilter K) [] := fun C h => by
  rcases h with rfl | rfl
  · exact met_StreamHandler_addFilter T
  · exact met_NullHandler_addFilter T
theorem FlOk.cmp (T : Txt w K mg) {H : Hp} {tg : Addr → Option Tg} {f : FlR} (h : FlOk K H tg f) : RyR.CmpV K H f.addr := by
  cases f with
  | fil a x =>
    obtain ⟨_, dx, e⟩ := h
    exact .inl ⟨_, dx, _, e, T.cc_Filter⟩
  | fn a => exact .inr h.2
theorem FlOk.live {H : Hp} {tg : Addr → Option Tg} {f : FlR} (h : FlOk K H tg f) : H f.addr ≠ none := by
  cases f with
  | fil a x =>
    obtain ⟨_, dx, e⟩ := h
    show H a ≠ none
    rw [e]
    exact fun z => nomatch z
  | fn a =>
    show H a ≠ none
    rw [h.2]
    exact fun z => nomatch z
end
end Ry
namespace Ry
open PySem PySem.Spec PyProof.Rows L2 He RyH
open C8 (pss_cut tCut Cal Met Mak pe_c pe_mk pe_mt pe_mt0 pe_gc)
/-! ### a handler is made of its plan: the first state -/
theorem HNew.make {K : PySem.W.Frag} {H H' : Hp} {tg : Addr → Option Tg} {Y : YD} {C x dx fl : Addr} (st : Option Str) (h : YardW K H tg Y) (hmx : Y.mkx = []) (hx : H x = none) (hdx : H dx = none) (hfl : L2.upd (L2.upd H dx (.own x)) x (.ins C dx []) fl = none)
    (hC : C = ga K (if st.isSome then "StreamHandler" else "NullHandler")) (e1 : H' x = some (.ins C dx (hdFs Y.y ⟨x, fl, st, 0, "\n", none, none, false, []⟩))) (e2 : H' fl = some (.lst []))
    (e3 : H' Y.made = some (.lst ((Y.hds.map fun h => V.ref h.a) ++ [.ref x]))) (kk : Kp (fun b => b = x ∨ b = Y.made) (L2.upd (L2.upd H dx (.own x)) x (.ins C dx [])) H') :
    HNew K H tg Y H' (tgU (tgU tg x (.hd Y.hds.length)) fl (.hf Y.hds.length)) ⟨x, fl, st, 0, "\n", none, none, false, []⟩ := by
  have hfH : H fl = none := was_none (was_none hfl)
  have hfx : fl ≠ x := fun z => by rw [z, upd_same] at hfl; cases hfl
  have ag : Ag H tg (tgU (tgU tg x (.hd Y.hds.length)) fl (.hf Y.hds.length)) := (Ag.refl.new hx).new hfH
  have kp : KpT tg (fun t => t = .mk) H H' := fun b o e n => by
    refine kk b o ?_ ?_
    · rw [upd_ne (ne_of_none e hx), upd_ne (ne_of_none e hdx)]
      exact e
    · rintro (z | z)
      · exact ne_of_none e hx z
      · exact n .mk (by rw [z]; exact h.tmk) rfl
  have ok : HdOk K H' (tgU (tgU tg x (.hd Y.hds.length)) fl (.hf Y.hds.length)) Y.y Y.hds.length ⟨x, fl, st, 0, "\n", none, none, false, []⟩ := by
    refine ⟨?_, tgU_same, ⟨dx, by rw [← hC]; exact e1⟩, e2, (fun f hf => nomatch hf), (fun _ _ _ _ z => nomatch z)⟩
    show tgU (tgU tg x _) fl _ x = _
    rw [tgU_ne hfx.symm, tgU_same]
  refine ⟨h.hdAdd hmx ag kp e3 ok fun b t e => ?_, ag, kp, hx, hfH⟩
  by_cases b1 : b = fl
  · exact ⟨.lst _, by rw [b1]; exact e2, True.intro⟩
  rw [tgU_ne b1] at e
  by_cases b2 : b = x
  · refine ⟨_, by rw [b2]; exact e1, ?_⟩
    show 7 ≤ (hdFs _ _).length
    unfold hdFs
    rw [List.length_append]
    show 7 ≤ 7 + _
    omega
  rw [tgU_ne b2] at e
  by_cases b3 : b = Y.made
  · exact ⟨.lst _, by rw [b3]; exact e3, True.intro⟩
  obtain ⟨o, q, s⟩ := h.live b t e
  refine ⟨o, kk b o ?_ fun z => by rcases z with z | z <;> first | exact b2 z | exact b3 z, s⟩
  rw [upd_ne b2, upd_ne (ne_of_none q hdx)]
  exact q
/-- a field is set -/
theorem HNew.fld {K : PySem.W.Frag} {H0 H : Hp} {tg tg' : Addr → Option Tg} {Y : YD} {r r' : HdR} {dx : Addr} (h : HNew K H0 tg Y H tg' r) (ha : r'.a = r.a) (hf : r'.fl = r.fl) (hs : r'.fs = r.fs)
    (hm : ∀ a dd b ps, r'.fmt = some (a, dd, b, ps) → FmT K H tg' a b ps dd) : HNew K H0 tg Y (L2.upd H r.a (.ins (ga K (if r'.st.isSome then "StreamHandler" else "NullHandler")) dx (hdFs Y.y r'))) tg' r' :=
  h.set (h.hd.setA ha hf hs hm) ha hf (Kp.at (.inl rfl))
theorem HdOk.addF {K : PySem.W.Frag} {H : Hp} {tg : Addr → Option Tg} {y : Addr} {i : Nat} {r : HdR} (x : HdOk K H tg y i r) {f : FlR} (hf : FlOk K H tg f) : HdOk K (L2.upd H r.fl (.lst (((r.fs.map FlR.addr) ++ [f.addr]).map V.ref))) tg y i { r with fs := r.fs ++ [f] } := by
  obtain ⟨dx, e⟩ := x.aE
  have kt : ∀ o, KpT tg (mHd i) H (L2.upd H r.fl o) := fun o => KpT.at x.tf (.inr rfl)
  refine ⟨x.ta, x.tf, ⟨dx, ?_⟩, ?_, fun g hg => ?_, fun a dd b ps e => (x.fm a dd b ps e).kp (kt _)⟩
  · rw [upd_ne (ne_of e x.flE fun z => nomatch z)]
    exact e
  · show L2.upd H r.fl _ r.fl = some (.lst (((r.fs ++ [f]).map FlR.addr).map V.ref))
    rw [upd_same, List.map_append (f := FlR.addr)]
    rfl
  · rcases List.mem_append.mp (show g ∈ r.fs ++ [f] from hg) with z | z
    · exact (x.fs g z).kp (kt _)
    · rw [List.mem_singleton.mp z]
      exact hf.kp (kt _)
theorem HNew.addF {K : PySem.W.Frag} {H0 H : Hp} {tg tg' : Addr → Option Tg} {Y : YD} {r : HdR} (h : HNew K H0 tg Y H tg' r) {f : FlR} (hf : FlOk K H tg' f) : HNew K H0 tg Y (L2.upd H r.fl (.lst (((r.fs.map FlR.addr) ++ [f.addr]).map V.ref))) tg' { r with fs := r.fs ++ [f] } :=
  h.set (h.hd.addF hf) rfl rfl (Kp.at (.inr rfl))
theorem YardW.untag {K : PySem.W.Frag} {H : Hp} {tg : Addr → Option Tg} {Y : YD} (h : YardW K H tg Y) {x : Addr} (hx : H x = none) : tg x = none := by
  cases q : tg x with
  | none => rfl
  | some t =>
    obtain ⟨o, e, _⟩ := h.live x t q
    rw [hx] at e
    cases e
theorem HNew.tr {K : PySem.W.Frag} {H0 H : Hp} {tg tg' : Addr → Option Tg} {Y : YD} {r : HdR} (h : HNew K H0 tg Y H tg' r) {b : Addr} {o : HO} (nb : tg b = none) (e : H0 b = some o) : H b = some o := h.kp _ _ e fun t z => by rw [nb] at z; cases z
theorem vh_null (h : HP) (fl : Addr) (fv : V) : valV (hpK h fl fv) (kS "null") = some (.bl h.null) := by kernel_rfl
theorem vh_stream (h : HP) (fl : Addr) (fv : V) : valV (hpK h fl fv) (kS "stream") = some (.str h.stream) := by kernel_rfl
theorem vh_level (h : HP) (fl : Addr) (fv : V) : valV (hpK h fl fv) (kS "level") = some (.int h.level) := by kernel_rfl
theorem vh_end (h : HP) (fl : Addr) (fv : V) : valV (hpK h fl fv) (kS "end") = some (.str h.term) := by kernel_rfl
theorem vh_filters (h : HP) (fl : Addr) (fv : V) : valV (hpK h fl fv) (kS "filters") = some (.ref fl) := by kernel_rfl
theorem vh_format (h : HP) (fl : Addr) (fv : V) : valV (hpK h fl fv) (kS "format") = some fv := by kernel_rfl
theorem vh_style (h : HP) (fl : Addr) (fv : V) : valV (hpK h fl fv) (kS "style") = some (.str (styleOf h.style)) := by kernel_rfl
theorem vh_called (h : HP) (fl : Addr) (fv : V) : valV (hpK h fl fv) (kS "called") = some (calV h.called) := by kernel_rfl
theorem dget {H : Hp} {p : Addr} {kvs : List (Key × V)} {k : Str} {v : V} (e : H p = some (.dK kvs)) (q : valV kvs (kS k) = some v) : DGet H p (.str k) (some v) := by
  rw [← q]
  exact DGet.k (k := kS k) e
theorem yd_lk (ck : Int) (st fr no nu : Addr) (bar : Int) (lm mk hn fa rt lr : Addr) : lk (ydF ck st fr no nu bar lm mk hn fa rt lr) "level_of" = none ∧ lk (ydF ck st fr no nu bar lm mk hn fa rt lr) "made" = some (.ref mk) ∧ lk (ydF ck st fr no nu bar lm mk hn fa rt lr) "enrol" = none ∧
    lk (ydF ck st fr no nu bar lm mk hn fa rt lr) "names_of" = some (.ref no) ∧ lk (ydF ck st fr no nu bar lm mk hn fa rt lr) "numbers_of" = some (.ref nu) ∧ lk (ydF ck st fr no nu bar lm mk hn fa rt lr) "logger_map" = some (.ref lm) ∧ lk (ydF ck st fr no nu bar lm mk hn fa rt lr) "root" = some (.ref rt) ∧
    lk (ydF ck st fr no nu bar lm mk hn fa rt lr) "bar_level" = some (.int bar) := ⟨by kernel_rfl, by kernel_rfl, by kernel_rfl, by kernel_rfl, by kernel_rfl, by kernel_rfl, by kernel_rfl, by kernel_rfl⟩
def spHandler (K : PySem.W.Frag) : Sp := fun vs H Q _ => ∃ (p : Addr) (h : HP) (N : Addr → Prop) (tg : Addr → Option Tg) (Y : YD), vs = [.ref Y.y, .ref p] ∧ YardW K H tg Y ∧ HPlanAt N H p h ∧ (∀ b, N b → tg b = none) ∧ HPok h ∧ h.called = none ∧ Y.hds.length < 100 ∧ Y.mkx = [] ∧
  ∀ r tg' H', HdFit r h → HNew K H tg Y H' tg' r → Q (.ref r.a) H'
section
variable {P : Program} {w : World} {K : PySem.W.Frag} {mg : Str → Option Value} {base : Heap}
theorem sc_law_handler : FnScope ["_law_yard_here", "_law_plan_here", "_law_found", "_law_name", "_law_text"] ["_law_yard_here", "_law_plan_here"] (defScope s_law_handler) := ⟨rfl, rfl, rfl, by decide +kernel, rfl, by decide +kernel, by decide +kernel⟩
theorem cal_law_handler (T : Txt w K mg) : Cal P w K mg base 7 "_law_handler" (spHandler K) [] := by
  obtain ⟨fd, F⟩ := T.df_law_handler
  have c_mk_NullHandler := mk_NullHandler (P := P) (base := base) T
  have c_mk_StreamHandler := mk_StreamHandler (P := P) (base := base) T
  have c_H_setLevel := met_H_setLevel (P := P) (base := base) T
  have c_H_setTerminator := met_H_setTerminator (P := P) (base := base) T
  have c_H_addFilter := met_H_addFilter (P := P) (base := base) T
  have c_mk_Filter := mk_Filter (P := P) (base := base) T
  have c_law_format_text := cal_law_format_text (P := P) (base := base) T
  have c_H_setFormatter := met_H_setFormatter (P := P) (base := base) T
  have c_mk_Formatter := mk_Formatter (P := P) (base := base) T
  have c_law_has_field := cal_law_has_field (P := P) (base := base) T
  refine ⟨_, fd, ["_law_yard_here", "_law_plan_here"], [], F.ok sc_law_handler (fun vs H Q E h => ?_) (fun cdv A outer s H vs Q E hr h => ?_), T.m_law_handler, F.kp, F.bindsN (fun _ _ _ _ _ _ us hl => match us, hl with | [_, _], _ => rfl), .nil⟩
  · obtain ⟨_, _, _, _, _, rfl, _⟩ := h
    rfl
  · obtain ⟨p, h, N, tg, Y, rfl, hY, hP, hN, hok, hcal, hlen, hmx, k⟩ := h
    refine ⟨_, PSs.nox (pss_cut (ps_if (pt_val (pe_dget (hu_of hr) (pv 1) pe_str (fun _ _ => rfl)))
        (pss_one (ps_set (i := 2) sc_law_handler.nd rfl (Or.inl rfl) (pe_mk c_mk_NullHandler hr (by decide) (by rfl) (pa_cons (pv 0) pa_nil))))
        (pss_one (ps_set (i := 2) sc_law_handler.nd rfl (Or.inl rfl) (pe_mk c_mk_StreamHandler hr (by decide) (by rfl) (pa_cons (pv 0) (pa_cons (pe_dget (hu_of hr) (pv 1) pe_str (fun _ _ => rfl)) pa_nil))))))
      (pss_cons (ps_expr (pe_any fun C hC => pe_mt (c_H_setLevel C hC) hr (by decide) (pv 2) (pa_cons (pe_dget (hu_of hr) (pv 1) pe_str (fun _ _ => rfl)) pa_nil)))
      (pss_cons (ps_expr (pe_any fun C hC => pe_mt (c_H_setTerminator C hC) hr (by decide) (pv 2) (pa_cons (pe_dget (hu_of hr) (pv 1) pe_str (fun _ _ => rfl)) pa_nil)))
      (pss_cons (ps_for PassesOwn.never rfl (pi_list (pe_dget (hu_of hr) (pv 1) pe_str (fun _ _ => rfl))) (pg_name (i := 3) sc_law_handler.nd rfl (Or.inl rfl))
        (pss_one (ps_expr (pe_any fun C hC => pe_mt (c_H_addFilter C hC) hr (by decide) (pv 2) (pa_cons (pe_mk c_mk_Filter hr (by decide) (by rfl) (pa_cons (pv 3) pa_nil)) pa_nil)))))
      (pss_cut (ps_if (pt_cmpR op_notN (pe_dget (hu_of hr) (pv 1) pe_str (fun _ _ => rfl)) pe_non (nomark _))
        (pss_cons (ps_set (i := 4) sc_law_handler.nd rfl (Or.inl rfl) (pe_c c_law_format_text hr (by decide) (by rfl) (pa_cons (pe_dget (hu_of hr) (pv 1) pe_str (fun _ _ => rfl)) (pa_cons (pe_dget (hu_of hr) (pv 1) pe_str (fun _ _ => rfl)) pa_nil))))
        (pss_one (ps_expr (pe_any fun C hC => pe_mt (c_H_setFormatter C hC) hr (by decide) (pv 2) (pa_cons (pe_mk c_mk_Formatter hr (by decide) (by rfl) (pa_cons (pv 4) (pa_cons (pe_dget (hu_of hr) (pv 1) pe_str (fun _ _ => rfl)) (pa_cons (pe_c c_law_has_field hr (by decide) (by rfl) (pa_cons (pe_dget (hu_of hr) (pv 1) pe_str (fun _ _ => rfl)) pa_nil)) pa_nil)))) pa_nil)))))
        pss_nil)
      (pss_cut (ps_if (pt_cmpR op_notN (pe_dget (hu_of hr) (pv 1) pe_str (fun _ _ => rfl)) pe_non (nomark _))
        (pss_one ps_never)
        pss_nil)
      (pss_one (ps_ret (pv 2))))))))), ?_⟩
    obtain ⟨fl0, fv, np, ep, nf, ef, hfv⟩ := hP
    have hcalV : calV h.called = .non := by rw [hcal]; rfl
    obtain ⟨dy, ey⟩ := hY.yE
    have hmkE : H Y.made = some (.lst (Y.hds.map fun h => V.ref h.a)) := by
      have z := hY.mkE
      rw [hmx, List.map_nil, List.append_nil] at z
      exact z
    have hpx := dget ep (vh_null h fl0 fv)
    refine ⟨fun σ' H' => ∃ x fl tg', σ' = [some (.ref Y.y), some (.ref p), some (.ref x), none, none] ∧ HNew K H tg Y H' tg' ⟨x, fl, if h.null = true then none else some h.stream, 0, "\n", none, none, false, []⟩, ?_, ?_⟩
    · refine ⟨_, rfl, p, _, rfl, hpx, _, rfl, ?_⟩
      cases en : h.null with
      | true =>
        refine iteT ?_
        refine ⟨_, rfl, fun x dx hx hdx hne => ?_⟩
        have hyx : Y.y ≠ x := ne_of_none ey hx
        have eyH : L2.upd (L2.upd H dx (.own x)) x (.ins (ga K "NullHandler") dx []) Y.y = some (.ins (ga K "Yard") dy (ydF 0 Y.st Y.fr Y.no Y.nu Y.bar Y.lm Y.made Y.hn Y.fa Y.root.a Y.lr)) := by rw [upd_ne hyx, upd_ne (ne_of_none ey hdx)]; exact ey
        refine ⟨x, _, dx, Y.y, Y.made, _, _, rfl, upd_same, hc_NullHandler T, ⟨dy, eyH⟩, (yd_lk ..).2.1, (yd_lk ..).2.2.1, hyx, by rw [upd_ne (ne_of_none hmkE hx), upd_ne (ne_of_none hmkE hdx)]; exact hmkE, by rw [List.length_map]; omega, fun fl H' hfl e1 e2 e3 kk => ?_⟩
        exact ⟨rfl, x, fl, _, rfl, HNew.make none hY hmx hx hdx hfl rfl e1 e2 e3 kk⟩
      | false =>
        refine iteF ?_
        refine ⟨_, rfl, _, rfl, p, _, rfl, dget ep (vh_stream h fl0 fv), fun x dx hx hdx hne => ?_⟩
        have hyx : Y.y ≠ x := ne_of_none ey hx
        have eyH : L2.upd (L2.upd H dx (.own x)) x (.ins (ga K "StreamHandler") dx []) Y.y = some (.ins (ga K "Yard") dy (ydF 0 Y.st Y.fr Y.no Y.nu Y.bar Y.lm Y.made Y.hn Y.fa Y.root.a Y.lr)) := by rw [upd_ne hyx, upd_ne (ne_of_none ey hdx)]; exact ey
        refine ⟨x, dx, Y.y, Y.made, _, _, h.stream, rfl, upd_same, ⟨dy, eyH⟩, (yd_lk ..).2.1, (yd_lk ..).2.2.1, hyx, by rw [upd_ne (ne_of_none hmkE hx), upd_ne (ne_of_none hmkE hdx)]; exact hmkE, by rw [List.length_map]; omega, fun fl H' hfl e1 e2 e3 kk => ?_⟩
        exact ⟨rfl, x, fl, _, rfl, HNew.make (some h.stream) hY hmx hx hdx hfl rfl e1 e2 e3 kk⟩
    rintro σ1 H1 ⟨x, fl, tg', rfl, h1⟩
    have hst : (if h.null = true then none else some h.stream) = (if h.null = true then none else some h.stream) := rfl
    generalize hse : (if h.null = true then none else some h.stream) = st at h1 ⊢
    have yins : ∀ {H' : Hp} {tg' : Addr → Option Tg} {r : HdR}, HNew K H tg Y H' tg' r → ∃ dy, H' Y.y = some (.ins (ga K "Yard") dy (ydF 0 Y.st Y.fr Y.no Y.nu Y.bar Y.lm Y.made Y.hn Y.fa Y.root.a Y.lr)) := fun z => z.yw.yE
    -- setLevel
    obtain ⟨d1, a1⟩ := h1.hd.aE
    obtain ⟨dy1, ey1⟩ := yins h1
    refine ⟨_, hc_of K st, _, rfl, x, d1, _, rfl, a1, (hdFs_lk ..).2.2.1, _, rfl, p, _, rfl, dget (h1.tr (hN _ np) ep) (vh_level h fl0 fv), ?_⟩
    refine ⟨x, _, d1, Y.y, _, _, h.level, rfl, a1, (hc_of K st).hcls T |>.cl, ((hc_of K st).hcls T).yard, ((hc_of K st).hcls T).level, hdFs_len .., (hdFs_lk ..).2.1, ⟨dy1, ey1⟩, (yd_lk ..).1, ?_⟩
    rw [hdFs_level]
    have h2 := h1.fld (r' := ⟨x, fl, st, h.level, "
", none, none, false, []⟩) (dx := d1) rfl rfl rfl (fun _ _ _ _ z => nomatch z)
    generalize L2.upd H1 x _ = H2 at h2 ⊢
    -- setTerminator
    obtain ⟨d2, a2⟩ := h2.hd.aE
    refine ⟨_, hc_of K st, _, rfl, x, d2, _, rfl, a2, (hdFs_lk ..).2.2.2.1, _, rfl, p, _, rfl, dget (h2.tr (hN _ np) ep) (vh_end h fl0 fv), ?_⟩
    refine ⟨x, _, d2, _, .str h.term, rfl, a2, ((hc_of K st).hcls T).cl, ((hc_of K st).hcls T).terminator, hdFs_len .., ?_⟩
    rw [hdFs_term]
    have h3 := h2.fld (r' := ⟨x, fl, st, h.level, h.term, none, none, false, []⟩) (dx := d2) rfl rfl rfl (fun _ _ _ _ z => nomatch z)
    generalize L2.upd H2 x _ = H3 at h3 ⊢
    -- filters
    refine ⟨_, rfl, p, _, rfl, dget (h3.tr (hN _ np) ep) (vh_filters h fl0 fv), ?_⟩
    refine ⟨fl0, rfl, ⟨_, SqL.of (h3.tr (hN _ nf) ef)⟩, ?_⟩
    refine for_list (xs := h.filters.map V.str) (fun i σ' H' => ∃ o fs, σ' = [some (.ref Y.y), some (.ref p), some (.ref x), o, none] ∧ HNew K H tg Y H' tg' ⟨x, fl, st, h.level, h.term, none, none, false, fs⟩ ∧ fs.map FlR.nm = (h.filters.take i).map some) ⟨_, [], rfl, h3, rfl⟩ (fun i σ' H' _ ⟨_, _, _, z, _⟩ => SqL.of (z.tr (hN _ nf) ef)) ?_ ?_
    · rintro i v σ' H' hv ⟨o, fs, rfl, h4, hfs⟩
      rw [List.getElem?_map] at hv
      obtain ⟨nm, hnm, rfl⟩ := Option.map_eq_some_iff.mp hv
      obtain ⟨d4, a4⟩ := h4.hd.aE
      refine ⟨_, hc_of K st, _, rfl, x, d4, _, rfl, a4, (hdFs_lk ..).2.2.2.2.1, _, rfl, fun q dq hq hdq hne => ?_⟩
      refine ⟨q, dq, nm, rfl, upd_same, rfl, ?_⟩
      rw [upd_upd]
      have hq' : L2.upd H' dq (.own q) q = none := by rw [upd_ne hne.symm]; exact hq
      have s5 : Same H' (L2.upd (L2.upd H' dq (.own q)) q (.ins (ga K "Filter") dq ([("name", .str nm)] : List (Str × V)))) := Same.tr (Same.nw hdq) (Same.nw hq')
      have h5 := h4.same s5
      have f5 : FlOk K (L2.upd (L2.upd H' dq (.own q)) q (.ins (ga K "Filter") dq ([("name", .str nm)] : List (Str × V)))) tg' (.fil q nm) := ⟨h4.yw.untag hq, dq, upd_same⟩
      generalize L2.upd (L2.upd H' dq (.own q)) q (.ins (ga K "Filter") dq ([("name", .str nm)] : List (Str × V))) = H5 at h5 f5 s5 ⊢
      have hlt : fs.length = min i h.filters.length := by
        have z := congrArg List.length hfs
        rw [List.length_map, List.length_map, List.length_take] at z
        exact z
      have hfew := hok.few
      have hqn : q ∉ fs.map FlR.addr := fun z => by
        obtain ⟨g, hg, e⟩ := List.mem_map.mp z
        exact (h4.hd.fs g hg).live (by rw [e]; exact hq)
      refine ⟨x, _, d4, fl, q, _, fs.map FlR.addr, rfl, s5 _ _ a4, ((hc_of K st).hcls T).cl, ((hc_of K st).hcls T).filters, (hdFs_lk ..).1, h5.hd.flE, f5.cmp T, fun z hz => ?_, hqn, by rw [List.length_map]; omega, ?_⟩
      · obtain ⟨g, hg, rfl⟩ := List.mem_map.mp hz
        exact (h5.hd.fs g hg).cmp T
      · have z5 := h5.addF f5
        refine ⟨_, fs ++ [.fil q nm], rfl, (by exact z5), ?_⟩
        rw [take_nth hnm, List.map_append, List.map_append, hfs]
        rfl
    rintro σ' H4 ⟨o, fs, rfl, h4, hfs⟩
    rw [List.length_map, List.take_length] at hfs
    -- format
    refine ⟨fun σ' H' => ∃ o1 o2 fm, σ' = [some (.ref Y.y), some (.ref p), some (.ref x), o1, o2] ∧ HNew K H tg Y H' tg' ⟨x, fl, st, h.level, h.term, fm, none, false, fs⟩ ∧ fmtOf fm = h.fmt.map fun ps => (h.style, ps), ?_, ?_⟩
    · have e4 := h4.tr (hN _ np) ep
      have hfv4 : FmtV N H4 fv h.fmt := hfv.kp (M := fun b => ∃ t, tg b = some t) (N' := N) (h4.kp.kp) fun b hb => ⟨hb, fun ⟨t, z⟩ => by rw [hN b hb] at z; cases z⟩
      refine ⟨_, rfl, p, _, rfl, dget e4 (vh_format h fl0 fv), ?_⟩
      have hok' := hok.fmt
      generalize hfe : h.fmt = fo at hfv4 hok' ⊢
      cases fo with
      | none =>
        have hv : fv = .non := hfv4
        refine ⟨rfl, false, congrArg V.bl (by rw [hv]; rfl), iteF ?_⟩
        exact ⟨_, _, none, rfl, h4, rfl⟩
      | some ps =>
        obtain ⟨fa, ys, rfl, nfa, efa, hfa⟩ := hfv4
        obtain ⟨ho, hl6, _⟩ := hok'
        refine ⟨rfl, true, rfl, iteT ?_⟩
        refine ⟨_, rfl, p, _, rfl, dget e4 (vh_format h fl0 (.ref fa)), _, rfl, p, _, rfl, dget e4 (vh_style h fl0 (.ref fa)), ?_⟩
        refine ⟨fa, N, ys, ps, h.style, rfl, efa, hfa, ho, by omega, ?_⟩
        obtain ⟨d4, a4⟩ := h4.hd.aE
        refine ⟨_, hc_of K st, _, rfl, x, d4, _, rfl, a4, (hdFs_lk ..).2.2.2.2.2, _, rfl, _, rfl, p, _, rfl, dget e4 (vh_style h fl0 (.ref fa)), _, rfl, p, _, rfl, dget e4 (vh_format h fl0 (.ref fa)), ?_⟩
        refine ⟨fa, N, ys, ps, rfl, efa, hfa, by omega, fun H5 s5 q dq hq hdq hne => ?_⟩
        have h5 := h4.same s5
        have hq' : L2.upd H5 dq (.own q) q = none := by rw [upd_ne hne.symm]; exact hq
        refine ⟨q, dq, h.style, ps, rfl, upd_same, ho, by omega, fun dd H6 hdd hfm k6 => ⟨rfl, ?_⟩⟩
        have hdd5 : H5 dd = none := was_none (was_none hdd)
        have s6 : Same H5 H6 := fun b u e => k6 _ _ (by rw [upd_ne (ne_of_none e hq), upd_ne (ne_of_none e hdq)]; exact e) (ne_of_none e hq)
        have h6 := h5.same s6
        have hft := FmT.of (H0 := H) hfm (h5.yw.untag hq) (h5.yw.untag hdd5) h6.yw.live
        obtain ⟨d6, a6⟩ := h6.hd.aE
        refine ⟨x, _, d4, _, .ref q, rfl, s6 _ _ (s5 _ _ a4), ((hc_of K st).hcls T).cl, ((hc_of K st).hcls T).formatter, hdFs_len .., ?_⟩
        have hE := hdFs_fmt Y.y ⟨x, fl, st, h.level, h.term, none, none, false, fs⟩ (q, dd, h.style, ps)
        rw [show V.ref q = V.ref (q, dd, h.style, ps).1 from rfl, hE]
        refine ⟨_, _, some (q, dd, h.style, ps), rfl, h6.fld (r' := ⟨x, fl, st, h.level, h.term, some (q, dd, h.style, ps), none, false, fs⟩) (dx := d4) rfl rfl rfl (fun a' dd' b' ps' z => ?_), rfl⟩
        cases z
        exact hft
    rintro σ' H5 ⟨o1, o2, fm, rfl, h5, hfm⟩
    -- called
    refine ⟨fun σ' H' => σ' = [some (.ref Y.y), some (.ref p), some (.ref x), o1, o2] ∧ H5 = H', ?_, ?_⟩
    · refine ⟨_, rfl, p, _, rfl, dget (h5.tr (hN _ np) ep) (vh_called h fl0 fv), rfl, false, congrArg V.bl (by rw [hcalV]; rfl), iteF ?_⟩
      exact ⟨rfl, rfl⟩
    rintro σ' H6 ⟨rfl, rfl⟩
    refine ⟨_, rfl, k ⟨x, fl, st, h.level, h.term, fm, none, false, fs⟩ tg' _ ⟨rfl, rfl, rfl, rfl, hse.symm, hfs, hfm⟩ h5⟩
end
end Ry
namespace Ry
open PySem PySem.Spec PyProof.Rows L2 He RyH
open C8 (pss_cut tCut Cal Met Mak pe_c pe_mk pe_mt pe_mt0 pe_gc)
/-! ### what stands beside a yard -/
/-- G stands in H, none of it is tagged -/
def FrK (G H : Hp) (tg : Addr → Option Tg) : Prop := ∀ b o, G b = some o → H b = some o ∧ tg b = none
theorem FrK.kp {G H H' : Hp} {tg : Addr → Option Tg} {M : Tg → Prop} (f : FrK G H tg) (k : KpT tg M H H') : FrK G H' tg := fun b o e => ⟨k _ _ (f b o e).1 (fun t z => by rw [(f b o e).2] at z; cases z), (f b o e).2⟩
theorem FrK.ag {G H : Hp} {tg tg' : Addr → Option Tg} (f : FrK G H tg) (a : Ag H tg tg') : FrK G H tg' := fun b o e => ⟨(f b o e).1, (a _ _ (f b o e).1).trans (f b o e).2⟩
theorem FrK.same {G H H' : Hp} {tg : Addr → Option Tg} (f : FrK G H tg) (k : Same H H') : FrK G H' tg := fun b o e => ⟨k _ _ (f b o e).1, (f b o e).2⟩
theorem FrK.sm {G H : Hp} {tg : Addr → Option Tg} (f : FrK G H tg) : Same G H := fun b o e => (f b o e).1
/-- one thing more -/
theorem FrK.add {G H : Hp} {tg : Addr → Option Tg} {p : Addr} {o : HO} (f : FrK G H tg) (e : H p = some o) (t : tg p = none) : FrK (L2.upd G p o) H tg := fun b u q => by
  by_cases z : b = p
  · rw [z, upd_same] at q
    cases q
    rw [z]
    exact ⟨e, t⟩
  · rw [upd_ne z] at q
    exact f b u q
theorem FrK.sub {G G0 H : Hp} {tg : Addr → Option Tg} (f : FrK G H tg) (k : Same G0 G) : FrK G0 H tg := fun b o e => f b o (k _ _ e)
/-! ### a new yard -/
def tgOf (ps : List (Addr × Tg)) : Addr → Option Tg := fun b => ps.lookup b
theorem tgOf_at : ∀ {ps : List (Addr × Tg)} {a : Addr} {t : Tg}, (ps.map (·.1)).Nodup → (a, t) ∈ ps → tgOf ps a = some t
  | (b, u) :: ps, a, t, h, m => by
    rw [List.map_cons, List.nodup_cons] at h
    show List.lookup a ((b, u) :: ps) = _
    rw [List.lookup_cons]
    rcases List.mem_cons.mp m with z | z
    · rw [show (a == b) = true from beq_iff_eq.mpr (congrArg Prod.fst z)]
      exact congrArg some (congrArg Prod.snd z).symm
    · have hne : (a == b) = false := beq_eq_false_iff_ne.mpr fun q => h.1 (List.mem_map.mpr ⟨_, z, q⟩)
      rw [hne]
      exact tgOf_at h.2 z
theorem tgOf_mem : ∀ {ps : List (Addr × Tg)} {a : Addr} {t : Tg}, tgOf ps a = some t → (a, t) ∈ ps
  | [], a, t, h => nomatch h
  | (b, u) :: ps, a, t, h => by
    have h' : List.lookup a ((b, u) :: ps) = some t := h
    rw [List.lookup_cons] at h'
    cases e : (a == b) with
    | true =>
      rw [e] at h'
      cases h'
      have q : a = b := eq_of_beq e
      rw [q]
      exact List.mem_cons_self ..
    | false =>
      rw [e] at h'
      exact List.mem_cons_of_mem _ (tgOf_mem h')
abbrev newTags (y st fr no nu lm mk hn fa rt lr rf rh lrf : Addr) : List (Addr × Tg) := [(y, .y), (mk, .mk), (lrf, .lrf), (lr, .lr), (rh, .lh ""), (rf, .lf ""), (rt, .lg ""), (fa, .fa), (hn, .hn), (lm, .lm), (nu, .nu), (no, .no), (fr, .fr), (st, .st)]
abbrev newYD (y st fr no nu lm mk hn fa rt lr rf rh lrf : Addr) : YD := ⟨y, st, fr, no, nu, lm, mk, hn, fa, lr, lrf, 0, kvNames, kvNumbers, ⟨rt, rf, rh, "root", 30, true, false, [], [], .non⟩, [], [], []⟩
theorem YardW.new {K : PySem.W.Frag} {H : Hp} {y st fr no nu lm mk hn fa rt lr rf rh lrf : Addr} (h : YNew K H y st fr no nu lm mk hn fa rt lr rf rh lrf) (nd : [mk, lrf, lr, rh, rf, rt, fa, hn, lm, nu, no, fr, st].Nodup) (hy : ∀ b ∈ [mk, lrf, lr, rh, rf, rt, fa, hn, lm, nu, no, fr, st], b ≠ y) :
    YardW K H (tgOf (newTags y st fr no nu lm mk hn fa rt lr rf rh lrf)) (newYD y st fr no nu lm mk hn fa rt lr rf rh lrf) := by
  have nd' : ((newTags y st fr no nu lm mk hn fa rt lr rf rh lrf).map (·.1)).Nodup := List.nodup_cons.mpr ⟨fun z => hy y z rfl, nd⟩
  have at_ : ∀ {a t}, (a, t) ∈ newTags y st fr no nu lm mk hn fa rt lr rf rh lrf → tgOf (newTags y st fr no nu lm mk hn fa rt lr rf rh lrf) a = some t := fun m => tgOf_at nd' m
  refine ⟨at_ (by simp), at_ (by simp), at_ (by simp), at_ (by simp), at_ (by simp), at_ (by simp), at_ (by simp), at_ (by simp), at_ (by simp), at_ (by simp), at_ (by simp), h.ins, h.stE, h.frE, h.noE, h.nuE, h.lmE, h.mkE, h.hnE, h.faE, h.lrE, h.lrfE,
    ⟨⟨at_ (by simp), at_ (by simp), at_ (by simp), h.rtE, h.rflE, h.rhlE, (fun f hf => nomatch hf)⟩, rfl⟩, (fun x hx => nomatch hx), List.nodup_nil, (fun i x hx => nomatch hx), fun b t e => ?_⟩
  have m := tgOf_mem e
  obtain ⟨dy, e1⟩ := h.ins
  obtain ⟨d2, e2⟩ := h.rtE
  obtain ⟨d3, e3⟩ := h.lrE
  simp only [List.mem_cons, Prod.mk.injEq, List.not_mem_nil, or_false] at m
  rcases m with ⟨rfl, _⟩ | ⟨rfl, _⟩ | ⟨rfl, _⟩ | ⟨rfl, _⟩ | ⟨rfl, _⟩ | ⟨rfl, _⟩ | ⟨rfl, _⟩ | ⟨rfl, _⟩ | ⟨rfl, _⟩ | ⟨rfl, _⟩ | ⟨rfl, _⟩ | ⟨rfl, _⟩ | ⟨rfl, _⟩ | ⟨rfl, _⟩
  · exact ⟨_, e1, Nat.le_of_ble_eq_true rfl⟩
  · exact ⟨_, h.mkE, True.intro⟩
  · exact ⟨_, h.lrfE, True.intro⟩
  · exact ⟨_, e3, Nat.le_of_ble_eq_true rfl⟩
  · exact ⟨_, h.rhlE, True.intro⟩
  · exact ⟨_, h.rflE, True.intro⟩
  · exact ⟨_, e2, Nat.le_of_ble_eq_true rfl⟩
  · exact ⟨_, h.faE, True.intro⟩
  · exact ⟨_, h.hnE, True.intro⟩
  · exact ⟨_, h.lmE, True.intro⟩
  · exact ⟨_, h.nuE, True.intro⟩
  · exact ⟨_, h.noE, True.intro⟩
  · exact ⟨_, h.frE, True.intro⟩
  · exact ⟨_, h.stE, True.intro⟩
/-- nothing that stood is tagged -/
theorem FrK.new {G H : Hp} {y st fr no nu lm mk hn fa rt lr rf rh lrf : Addr} (s : Same G H) (hn' : ∀ b ∈ [mk, lrf, lr, rh, rf, rt, fa, hn, lm, nu, no, fr, st], G b = none) (hy : G y = none) : FrK G H (tgOf (newTags y st fr no nu lm mk hn fa rt lr rf rh lrf)) := fun b o e => by
  refine ⟨s _ _ e, ?_⟩
  cases q : tgOf (newTags y st fr no nu lm mk hn fa rt lr rf rh lrf) b with
  | none => rfl
  | some t =>
    have m : b ∈ y :: [mk, lrf, lr, rh, rf, rt, fa, hn, lm, nu, no, fr, st] := (List.mem_map (f := fun z : Addr × Tg => z.1)).mpr ⟨_, tgOf_mem q, rfl⟩
    rcases List.mem_cons.mp m with z | z
    · rw [z, hy] at e; cases e
    · rw [hn' b z] at e; cases e
end Ry
namespace Ry
open PySem PySem.Spec PyProof.Rows L2 He RyH
open C8 (pss_cut tCut Cal Met Mak pe_c pe_mk pe_mt pe_mt0 pe_gc)
/-! ### names of levels, the bar -/
theorem YardW.nmSet {K : PySem.W.Frag} {H : Hp} {tg : Addr → Option Tg} {Y : YD} (h : YardW K H tg Y) (ns us : List (Key × V)) : YardW K (L2.upd (L2.upd H Y.no (.dK ns)) Y.nu (.dK us)) tg { Y with names := ns, numbers := us } := by
  have kt : KpT tg (fun t => t = .no ∨ t = .nu) H (L2.upd (L2.upd H Y.no (.dK ns)) Y.nu (.dK us)) := (KpT.at h.tno (.inl rfl)).trans (KpT.at h.tnu (.inr rfl))
  have kk : ∀ {b o t}, H b = some o → tg b = some t → t ≠ .no → t ≠ .nu → (L2.upd (L2.upd H Y.no (.dK ns)) Y.nu (.dK us)) b = some o := fun {b o t} e et n1 n2 => kt b o e fun u z => by rw [et] at z; cases z; exact fun q => q.elim n1 n2
  have hne : Y.no ≠ Y.nu := fun z => by
    have z1 := h.tno
    rw [z, h.tnu] at z1
    cases z1
  obtain ⟨dy, ey⟩ := h.yE
  obtain ⟨dl, el⟩ := h.lrE
  exact { h with
    yE := ⟨dy, kk ey h.ty (fun z => nomatch z) (fun z => nomatch z)⟩, stE := kk h.stE h.tst (fun z => nomatch z) (fun z => nomatch z), frE := kk h.frE h.tfr (fun z => nomatch z) (fun z => nomatch z),
    noE := by rw [upd_ne hne, upd_same], nuE := upd_same, lmE := kk h.lmE h.tlm (fun z => nomatch z) (fun z => nomatch z), mkE := kk h.mkE h.tmk (fun z => nomatch z) (fun z => nomatch z), hnE := kk h.hnE h.thn (fun z => nomatch z) (fun z => nomatch z), faE := kk h.faE h.tfa (fun z => nomatch z) (fun z => nomatch z),
    lrE := ⟨dl, kk el h.tlr (fun z => nomatch z) (fun z => nomatch z)⟩, lrfE := kk h.lrfE h.tlf (fun z => nomatch z) (fun z => nomatch z)
    root := ⟨h.root.1.kp kt (fun z => z.elim (fun z => nomatch z) (fun z => nomatch z)) (fun z => z.elim (fun z => nomatch z) (fun z => nomatch z)) (fun z => z.elim (fun z => nomatch z) (fun z => nomatch z)), h.root.2⟩
    lgs := fun x hx => ⟨(h.lgs x hx).1.kp kt (fun z => z.elim (fun z => nomatch z) (fun z => nomatch z)) (fun z => z.elim (fun z => nomatch z) (fun z => nomatch z)) (fun z => z.elim (fun z => nomatch z) (fun z => nomatch z)), (h.lgs x hx).2⟩
    hds := fun i x hx => (h.hds i x hx).kp kt (fun z => z.elim (fun z => nomatch z) (fun z => nomatch z)) (fun z => z.elim (fun z => nomatch z) (fun z => nomatch z))
    live := live_upd (live_upd h.live True.intro) True.intro }
theorem nmSet_kp {K : PySem.W.Frag} {H : Hp} {tg : Addr → Option Tg} {Y : YD} (h : YardW K H tg Y) (ns us : List (Key × V)) : KpT tg (fun t => t = .no ∨ t = .nu) H (L2.upd (L2.upd H Y.no (.dK ns)) Y.nu (.dK us)) := (KpT.at h.tno (.inl rfl)).trans (KpT.at h.tnu (.inr rfl))
theorem ydF_bar (b : Int) (ck : Int) (st fr no nu : Addr) (bar : Int) (lm mk hn fa rt lr : Addr) : putF "bar_level" (.int b) (ydF ck st fr no nu bar lm mk hn fa rt lr) = ydF ck st fr no nu b lm mk hn fa rt lr := by kernel_rfl
theorem YardW.barSet {K : PySem.W.Frag} {H : Hp} {tg : Addr → Option Tg} {Y : YD} (h : YardW K H tg Y) (dy : Addr) (bar : Int) : YardW K (L2.upd H Y.y (.ins (ga K "Yard") dy (ydF 0 Y.st Y.fr Y.no Y.nu bar Y.lm Y.made Y.hn Y.fa Y.root.a Y.lr))) tg { Y with bar := bar } := by
  have kt : ∀ o, KpT tg (fun t => t = .y) H (L2.upd H Y.y o) := fun o => KpT.at h.ty rfl
  generalize ho : HO.ins (ga K "Yard") dy (ydF 0 Y.st Y.fr Y.no Y.nu bar Y.lm Y.made Y.hn Y.fa Y.root.a Y.lr) = o
  have kk : ∀ {b u t}, H b = some u → tg b = some t → t ≠ .y → (L2.upd H Y.y o) b = some u := fun {b u t} e et n1 => kt o b u e fun v z => by rw [et] at z; cases z; exact n1
  obtain ⟨dl, el⟩ := h.lrE
  exact { h with
    yE := ⟨dy, by rw [ho]; exact upd_same⟩, stE := kk h.stE h.tst (fun z => nomatch z), frE := kk h.frE h.tfr (fun z => nomatch z), noE := kk h.noE h.tno (fun z => nomatch z), nuE := kk h.nuE h.tnu (fun z => nomatch z), lmE := kk h.lmE h.tlm (fun z => nomatch z),
    mkE := kk h.mkE h.tmk (fun z => nomatch z), hnE := kk h.hnE h.thn (fun z => nomatch z), faE := kk h.faE h.tfa (fun z => nomatch z), lrE := ⟨dl, kk el h.tlr (fun z => nomatch z)⟩, lrfE := kk h.lrfE h.tlf (fun z => nomatch z)
    root := ⟨h.root.1.kp (kt o) (fun z => nomatch z) (fun z => nomatch z) (fun z => nomatch z), h.root.2⟩
    lgs := fun x hx => ⟨(h.lgs x hx).1.kp (kt o) (fun z => nomatch z) (fun z => nomatch z) (fun z => nomatch z), (h.lgs x hx).2⟩
    hds := fun i x hx => (h.hds i x hx).kp (kt o) (fun z => nomatch z) (fun z => nomatch z)
    live := live_upd h.live (by rw [← ho]; exact Nat.le_of_ble_eq_true rfl) }
/-! ### a new logger -/
def parSet (rows : List (Str × Addr)) (rt : Addr) (x : Str × LgR) : Str × LgR := (x.1, { x.2 with par := .ref (parentA rows rt x.1) })
theorem rows_mem {Y : YD} {x : Str × LgR} (h : x ∈ Y.lgs) : (x.1, x.2.a) ∈ Y.rows := List.mem_map.mpr ⟨x, h, rfl⟩
theorem mem_rows {Y : YD} {r : Str × Addr} (h : r ∈ Y.rows) : ∃ x ∈ Y.lgs, x.1 = r.1 ∧ x.2.a = r.2 := by
  obtain ⟨x, hx, rfl⟩ := List.mem_map.mp h
  exact ⟨x, hx, rfl, rfl⟩
theorem rows_keys (Y : YD) : Y.rows.map (·.1) = Y.lgs.map (·.1) := by
  unfold YD.rows
  rw [List.map_map]
  rfl
theorem YardW.ndA {K : PySem.W.Frag} {H : Hp} {tg : Addr → Option Tg} {Y : YD} (h : YardW K H tg Y) : (Y.rows.map (·.2)).Nodup := by
  have aux : ∀ {l : List (Str × LgR)}, (∀ x ∈ l, tg x.2.a = some (.lg x.1)) → (l.map (·.1)).Nodup → (l.map fun x => x.2.a).Nodup := by
    intro l
    induction l with
    | nil => intro _ _; exact List.nodup_nil
    | cons x l ih =>
      intro ht hn
      rw [List.map_cons, List.nodup_cons] at hn ⊢
      refine ⟨fun z => ?_, ih (fun y hy => ht y (List.mem_cons_of_mem _ hy)) hn.2⟩
      obtain ⟨y, hy, e⟩ := List.mem_map.mp z
      have e1 := ht y (List.mem_cons_of_mem _ hy)
      rw [e, ht x (List.mem_cons_self ..)] at e1
      have e2 : x.1 = y.1 := by injection e1 with e1; injection e1
      exact hn.1 (List.mem_map.mpr ⟨y, hy, e2.symm⟩)
  have z := aux (l := Y.lgs) (fun x hx => (h.lgs x hx).1.ta) h.nd
  unfold YD.rows
  rw [List.map_map]
  exact z
theorem YardW.lgsW {K : PySem.W.Frag} {H : Hp} {tg : Addr → Option Tg} {Y : YD} (h : YardW K H tg Y) (hl : Y.lgs.length ≤ 90) : Lgs K H Y.y Y.lm Y.rows := by
  refine ⟨fun r hr => ?_, fun r hr => ?_, h.ndA, by rw [rows_keys]; exact h.nd, fun ⟨r, hr, e⟩ => ?_, by unfold YD.rows; rw [List.length_map]; exact hl⟩
  · obtain ⟨x, hx, e1, _⟩ := mem_rows hr
    rw [← e1]
    exact (h.lgs x hx).2.2
  · obtain ⟨x, hx, _, e2⟩ := mem_rows hr
    obtain ⟨dx, q⟩ := (h.lgs x hx).1.aE
    exact ⟨dx, _, by rw [← e2]; exact q, csz rfl⟩
  · obtain ⟨x, hx, _, e2⟩ := mem_rows hr
    have z := (h.lgs x hx).1.ta
    rw [e2, e, h.ty] at z
    cases z
theorem YardW.ymap {K : PySem.W.Frag} {H : Hp} {tg : Addr → Option Tg} {Y : YD} (h : YardW K H tg Y) : YMap K H Y.y Y.lm Y.root.a (ydF 0 Y.st Y.fr Y.no Y.nu Y.bar Y.lm Y.made Y.hn Y.fa Y.root.a Y.lr) Y.rows := ⟨h.yE, (yd_lk ..).2.2.2.2.2.1, (yd_lk ..).2.2.2.2.2.2.1, h.lmE⟩
def YD.lgNew (Y : YD) (nm : Str) (a fl hl : Addr) : YD := { Y with lgs := Y.lgs.map (parSet (Y.rows ++ [(nm, a)]) Y.root.a) ++ [(nm, ⟨a, fl, hl, nm, 0, true, false, [], [], .ref (parentA (Y.rows ++ [(nm, a)]) Y.root.a nm)⟩)] }
theorem lgNew_rows (Y : YD) (nm : Str) (a fl hl : Addr) : (Y.lgNew nm a fl hl).rows = Y.rows ++ [(nm, a)] := by
  unfold YD.lgNew YD.rows
  show List.map _ (_ ++ _) = _
  rw [List.map_append, List.map_map]
  rfl
theorem lgNew_keys (Y : YD) (nm : Str) (a fl hl : Addr) : (Y.lgNew nm a fl hl).lgs.map (·.1) = Y.lgs.map (·.1) ++ [nm] := by
  unfold YD.lgNew
  show List.map _ (_ ++ _) = _
  rw [List.map_append, List.map_map]
  rfl
theorem YardW.lgNew {K : PySem.W.Frag} {H H' : Hp} {tg : Addr → Option Tg} {Y : YD} {nm : Str} {a fl hl dx : Addr} (h : YardW K H tg Y) (hm : nm ∈ logMenu) (hnew : nm ∉ Y.lgs.map (·.1)) (ha : H a = none) (hf : H fl = none) (hh : H hl = none) (hfh : fl ≠ hl) (haf : a ≠ fl) (hah : a ≠ hl)
    (elm : H' Y.lm = some (.dK ((Y.rows ++ [(nm, a)]).map rowE))) (ea : H' a = some (.ins (ga K "Logger") dx (lgF Y.y fl nm 0 true false hl (.ref (parentA (Y.rows ++ [(nm, a)]) Y.root.a nm))))) (ef : H' fl = some (.lst [])) (eh : H' hl = some (.lst []))
    (all : ∀ r ∈ Y.rows, ∀ dx fs, H r.2 = some (.ins (ga K "Logger") dx fs) → H' r.2 = some (.ins (ga K "Logger") dx (putF "parent" (.ref (parentA (Y.rows ++ [(nm, a)]) Y.root.a r.1)) fs))) (k : Kp (fun b => b = Y.lm ∨ rowsM Y.rows b) H H') :
    YardW K H' (tgU (tgU (tgU tg a (.lg nm)) fl (.lf nm)) hl (.lh nm)) (Y.lgNew nm a fl hl) ∧ Ag H tg (tgU (tgU (tgU tg a (.lg nm)) fl (.lf nm)) hl (.lh nm)) ∧ KpT tg (fun t => t = .lm ∨ ∃ k, t = .lg k) H H' := by
  have ag : Ag H tg (tgU (tgU (tgU tg a (.lg nm)) fl (.lf nm)) hl (.lh nm)) := ((Ag.refl.new ha).new hf).new hh
  have kp : KpT tg (fun t => t = .lm ∨ ∃ k, t = .lg k) H H' := fun b o e n => k b o e fun z => by
    rcases z with z | ⟨r, hr, z⟩
    · exact n .lm (by rw [z]; exact h.tlm) (.inl rfl)
    · obtain ⟨x, hx, _, e2⟩ := mem_rows hr
      exact n (.lg x.1) (by rw [← z, ← e2]; exact (h.lgs x hx).1.ta) (.inr ⟨_, rfl⟩)
  have kt : KpT (tgU (tgU (tgU tg a (.lg nm)) fl (.lf nm)) hl (.lh nm)) (fun t => t = .lm ∨ ∃ k, t = .lg k) H H' := fun b o e n => kp b o e fun t z => n t ((ag b o e).trans z)
  have kk : ∀ {b o t}, H b = some o → tg b = some t → t ≠ .lm → (∀ k, t ≠ .lg k) → H' b = some o := fun {b o t} e et n1 n2 => kp b o e fun u z => by rw [et] at z; cases z; exact fun q => q.elim n1 fun ⟨k, q⟩ => n2 k q
  have hne : nm ≠ "" := fun z => by
    have := (logMenu_ne nm hm).1
    rw [z] at this
    exact absurd this (by decide)
  obtain ⟨dy, ey⟩ := h.yE
  obtain ⟨dl, el⟩ := h.lrE
  obtain ⟨dr, er⟩ := h.root.1.aE
  have rt : ¬ rowsM Y.rows Y.root.a := fun ⟨r, hr, z⟩ => by
    obtain ⟨x, hx, _, e2⟩ := mem_rows hr
    have q := (h.lgs x hx).1.ta
    rw [e2, z, h.root.1.ta] at q
    injection q with q
    injection q with q
    have hx2 := (h.lgs x hx).2.2
    rw [← q] at hx2
    have := (logMenu_ne "" hx2).1
    exact absurd this (by decide)
  have hlg : ∀ x ∈ Y.lgs, x.1 ≠ "" := fun x hx z => by
    have := (logMenu_ne _ (h.lgs x hx).2.2).1
    rw [z] at this
    exact absurd this (by decide)
  refine ⟨⟨(ag _ _ ey).trans h.ty, (ag _ _ h.stE).trans h.tst, (ag _ _ h.frE).trans h.tfr, (ag _ _ h.noE).trans h.tno, (ag _ _ h.nuE).trans h.tnu, (ag _ _ h.lmE).trans h.tlm, (ag _ _ h.mkE).trans h.tmk, (ag _ _ h.hnE).trans h.thn, (ag _ _ h.faE).trans h.tfa, (ag _ _ el).trans h.tlr, (ag _ _ h.lrfE).trans h.tlf,
    ⟨dy, kk ey h.ty (fun z => nomatch z) (fun _ z => nomatch z)⟩, kk h.stE h.tst (fun z => nomatch z) (fun _ z => nomatch z), kk h.frE h.tfr (fun z => nomatch z) (fun _ z => nomatch z), kk h.noE h.tno (fun z => nomatch z) (fun _ z => nomatch z), kk h.nuE h.tnu (fun z => nomatch z) (fun _ z => nomatch z), by rw [lgNew_rows]; exact elm,
    kk h.mkE h.tmk (fun z => nomatch z) (fun _ z => nomatch z), kk h.hnE h.thn (fun z => nomatch z) (fun _ z => nomatch z), kk h.faE h.tfa (fun z => nomatch z) (fun _ z => nomatch z), ⟨dl, kk el h.tlr (fun z => nomatch z) (fun _ z => nomatch z)⟩, kk h.lrfE h.tlf (fun z => nomatch z) (fun _ z => nomatch z),
    ⟨⟨(ag _ _ er).trans h.root.1.ta, (ag _ _ h.root.1.flE).trans h.root.1.tf, (ag _ _ h.root.1.hlE).trans h.root.1.th, ⟨dr, ?_⟩, kk h.root.1.flE h.root.1.tf (fun z => nomatch z) (fun _ z => nomatch z), kk h.root.1.hlE h.root.1.th (fun z => nomatch z) (fun _ z => nomatch z), fun f hf => ((h.root.1.fs f hf).ag ag).kp kt⟩, h.root.2⟩,
    fun x hx => ?_, ?_, fun i x hx => ((h.hds i x hx).ag ag).kp kt (fun z => z.elim (fun z => nomatch z) fun ⟨_, z⟩ => nomatch z) (fun z => z.elim (fun z => nomatch z) fun ⟨_, z⟩ => nomatch z), fun b t e => ?_⟩, ag, kp⟩
  · refine k _ _ er fun z => ?_
    rcases z with z | z
    · exact ne_of er h.lmE (fun q => nomatch q) z
    · exact rt z
  · rcases List.mem_append.mp (show x ∈ Y.lgs.map _ ++ _ from hx) with z | z
    · obtain ⟨x0, hx0, rfl⟩ := List.mem_map.mp z
      have q := h.lgs x0 hx0
      obtain ⟨d0, e0⟩ := q.1.aE
      have e1 := all _ (rows_mem hx0) d0 _ e0
      rw [pf_lp] at e1
      exact ⟨⟨(ag _ _ e0).trans q.1.ta, (ag _ _ q.1.flE).trans q.1.tf, (ag _ _ q.1.hlE).trans q.1.th, ⟨d0, e1⟩, kk q.1.flE q.1.tf (fun z => nomatch z) (fun _ z => nomatch z), kk q.1.hlE q.1.th (fun z => nomatch z) (fun _ z => nomatch z), fun f hf => ((q.1.fs f hf).ag ag).kp kt⟩, q.2⟩
    · rw [List.mem_singleton.mp z]
      refine ⟨⟨?_, ?_, tgU_same, ⟨dx, ea⟩, ef, eh, (fun f hf => nomatch hf)⟩, rfl, hm⟩
      · show tgU (tgU (tgU tg a _) fl _) hl _ a = _
        rw [tgU_ne hah, tgU_ne haf, tgU_same]
      · show tgU (tgU (tgU tg a _) fl _) hl _ fl = _
        rw [tgU_ne hfh, tgU_same]
  · rw [lgNew_keys]
    exact List.nodup_append.mpr ⟨h.nd, by simp, fun x hx y hy => by rw [List.mem_singleton.mp hy]; intro z; rw [z] at hx; exact hnew hx⟩
  · by_cases b1 : b = hl
    · exact ⟨.lst _, by rw [b1]; exact eh, True.intro⟩
    rw [tgU_ne b1] at e
    by_cases b2 : b = fl
    · exact ⟨.lst _, by rw [b2]; exact ef, True.intro⟩
    rw [tgU_ne b2] at e
    by_cases b3 : b = a
    · exact ⟨.ins _ _ _, by rw [b3]; exact ea, Nat.le_of_ble_eq_true rfl⟩
    rw [tgU_ne b3] at e
    by_cases b4 : b = Y.lm
    · exact ⟨.dK _, by rw [b4]; exact elm, True.intro⟩
    by_cases b5 : rowsM Y.rows b
    · obtain ⟨r, hr, z⟩ := b5
      obtain ⟨x, hx, _, e2⟩ := mem_rows hr
      obtain ⟨d0, e0⟩ := (h.lgs x hx).1.aE
      have e1 := all _ hr d0 _ (by rw [← e2]; exact e0)
      rw [pf_lp, z] at e1
      exact ⟨_, e1, Nat.le_of_ble_eq_true rfl⟩
    · obtain ⟨o, q, s⟩ := h.live b t e
      exact ⟨o, k b o q fun z => z.elim b4 b5, s⟩
end Ry
namespace Ry
open PySem PySem.Spec PyProof.Rows L2 He RyH
open C8 (pss_cut tCut Cal Met Mak pe_c pe_mk pe_mt pe_mt0 pe_gc)
/-! ### the logger of a name -/
def YD.lgAt (Y : YD) (k : Str) : Option LgR := if k = "" then some Y.root else Y.lgs.lookup k
def YD.putLg (Y : YD) (k : Str) (r : LgR) : YD := if k = "" then { Y with root := r } else Y.setLg k r
theorem put_root {Y : YD} {r : LgR} : Y.putLg "" r = { Y with root := r } := if_pos rfl
theorem put_ne {Y : YD} {k : Str} {r : LgR} (h : k ≠ "") : Y.putLg k r = Y.setLg k r := if_neg h
theorem at_root {Y : YD} : Y.lgAt "" = some Y.root := if_pos rfl
theorem at_ne {Y : YD} {k : Str} (h : k ≠ "") : Y.lgAt k = Y.lgs.lookup k := if_neg h
theorem put_same {Y : YD} {k : Str} {r : LgR} : (Y.putLg k r).y = Y.y ∧ (Y.putLg k r).hds = Y.hds ∧ (Y.putLg k r).bar = Y.bar ∧ (Y.putLg k r).names = Y.names ∧ (Y.putLg k r).numbers = Y.numbers ∧ (Y.putLg k r).mkx = Y.mkx := by
  by_cases h : k = ""
  · subst h
    rw [put_root]
    exact ⟨rfl, rfl, rfl, rfl, rfl, rfl⟩
  · rw [put_ne h]
    exact ⟨rfl, rfl, rfl, rfl, rfl, rfl⟩
theorem lookup_set {k : Str} {r r0 : LgR} : ∀ {l : List (Str × LgR)}, l.lookup k = some r0 → (l.map fun x => if x.1 = k then (k, r) else x).lookup k = some r
  | (a, b) :: l, h => by
    rw [List.lookup_cons] at h
    rw [List.map_cons]
    by_cases e : a = k
    · rw [if_pos e, List.lookup_cons, show (k == k) = true from beq_self_eq_true k]
    · have e' : (k == a) = false := beq_eq_false_iff_ne.mpr fun z => e z.symm
      rw [e'] at h
      rw [if_neg e, List.lookup_cons, e']
      exact lookup_set h
theorem lgAt_put {Y : YD} {k : Str} {r r0 : LgR} (h : Y.lgAt k = some r0) : (Y.putLg k r).lgAt k = some r := by
  by_cases e : k = ""
  · subst e
    rw [put_root, at_root]
  · rw [at_ne e] at h
    rw [put_ne e, at_ne e]
    exact lookup_set h
theorem put_put {Y : YD} {k : Str} {r r' : LgR} : (Y.putLg k r).putLg k r' = Y.putLg k r' := by
  by_cases e : k = ""
  · subst e
    rw [put_root, put_root, put_root]
  · rw [put_ne e, put_ne e, put_ne e]
    unfold YD.setLg
    show ({ Y with lgs := _ } : YD) = _
    congr 1
    rw [List.map_map]
    refine List.map_congr_left fun x _ => ?_
    show (if (if x.1 = k then (k, r) else x).1 = k then (k, r') else (if x.1 = k then (k, r) else x)) = if x.1 = k then (k, r') else x
    by_cases z : x.1 = k
    · simp [z]
    · simp [z]
theorem lookup_mem {α : Type} {k : Str} {v : α} : ∀ {l : List (Str × α)}, l.lookup k = some v → (k, v) ∈ l
  | (a, b) :: l, h => by
    rw [List.lookup_cons] at h
    cases e : (k == a) with
    | true =>
      rw [e] at h
      cases h
      rw [eq_of_beq e]
      exact List.mem_cons_self ..
    | false =>
      rw [e] at h
      exact List.mem_cons_of_mem _ (lookup_mem h)
theorem mem_lookup {α : Type} {k : Str} {v : α} {l : List (Str × α)} (nd : (l.map (·.1)).Nodup) (h : (k, v) ∈ l) : l.lookup k = some v := by
  obtain ⟨j, hj, e⟩ := List.getElem_of_mem h
  exact lookup_nd (r := (k, v)) nd (by rw [List.getElem?_eq_getElem hj, e])
theorem put_self {Y : YD} {k : Str} {r : LgR} (nd : (Y.lgs.map (·.1)).Nodup) (h : Y.lgAt k = some r) : Y.putLg k r = Y := by
  by_cases e : k = ""
  · subst e
    rw [at_root] at h
    cases h
    rw [put_root]
  · rw [at_ne e] at h
    rw [put_ne e]
    unfold YD.setLg
    have z : (Y.lgs.map fun x => if x.1 = k then (k, r) else x) = Y.lgs := by
      refine (List.map_congr_left fun x hx => ?_).trans (List.map_id _)
      by_cases q : x.1 = k
      · have m := mem_lookup (k := x.1) (v := x.2) nd hx
        rw [q, h] at m
        cases m
        rw [if_pos q, ← q]
        rfl
      · rw [if_neg q]
        rfl
    rw [z]
theorem YardW.lgOk {K : PySem.W.Frag} {H : Hp} {tg : Addr → Option Tg} {Y : YD} {k : Str} {r : LgR} (h : YardW K H tg Y) (e : Y.lgAt k = some r) : LgOk K H tg Y.y k r := by
  by_cases z : k = ""
  · subst z
    rw [at_root] at e
    cases e
    exact h.root.1
  · rw [at_ne z] at e
    exact (h.lgs _ (lookup_mem e)).1
theorem logMenu_em {x : Str} (h : x ∈ logMenu) : x ≠ "" := fun z => by
  have := (logMenu_ne x h).1
  rw [z] at this
  exact absurd this (by decide)
theorem LgOk.live {K : PySem.W.Frag} {H H' : Hp} {tg : Addr → Option Tg} {y : Addr} {k : Str} {r : LgR} (x : LgOk K H' tg y k r) (kp : Kp (fun b => b = r.a ∨ b = r.fl ∨ b = r.hl) H H') (hl : ∀ b t, tg b = some t → ∃ o, H b = some o ∧ okShape o) : ∀ b t, tg b = some t → ∃ o, H' b = some o ∧ okShape o := fun b t e => by
  by_cases e1 : b = r.a
  · obtain ⟨dx, q⟩ := x.aE
    exact ⟨_, by rw [e1]; exact q, Nat.le_of_ble_eq_true rfl⟩
  · by_cases e2 : b = r.fl
    · exact ⟨.lst _, by rw [e2]; exact x.flE, True.intro⟩
    · by_cases e3 : b = r.hl
      · exact ⟨.lst _, by rw [e3]; exact x.hlE, True.intro⟩
      · obtain ⟨o, q, s⟩ := hl b t e
        exact ⟨o, kp _ _ q fun z => by rcases z with z | z | z <;> first | exact e1 z | exact e2 z | exact e3 z, s⟩
/-- a step at a logger -/
theorem YardW.lgStep {K : PySem.W.Frag} {H H' : Hp} {tg : Addr → Option Tg} {Y : YD} {k : Str} {r r' r0 : LgR} (h : YardW K H tg (Y.putLg k r)) (e : Y.lgAt k = some r0) (hr : LgOk K H' tg Y.y k r') (ha : r'.a = r.a) (hf : r'.fl = r.fl) (hh : r'.hl = r.hl) (hn : r'.name = r.name)
    (kp : Kp (fun b => b = r.a ∨ b = r.fl ∨ b = r.hl) H H') : YardW K H' tg (Y.putLg k r') ∧ KpT tg (mLg k) H H' := by
  have e1 : (Y.putLg k r).lgAt k = some r := lgAt_put e
  have ok := h.lgOk e1
  have kt : KpT tg (mLg k) H H' := fun b o q n => kp b o q fun z => by
    rcases z with z | z | z
    · exact n _ (by rw [z]; exact ok.ta) (.inl rfl)
    · exact n _ (by rw [z]; exact ok.tf) (.inr (.inl rfl))
    · exact n _ (by rw [z]; exact ok.th) (.inr (.inr rfl))
  have hl := LgOk.live hr (by rw [ha, hf, hh]; exact kp) h.live
  refine ⟨?_, kt⟩
  rw [← put_put (r := r)]
  by_cases z : k = ""
  · subst z
    rw [at_root] at e1
    have hr' : LgOk K H' tg (Y.putLg "" r).y "" r' := by rw [put_same.1]; exact hr
    rw [put_root]
    refine YardW.rootSet h kt hr' ?_ ?_ hl fun x hx => logMenu_em (h.lgs x hx).2.2
    · rw [ha]
      exact congrArg (·.a) (Option.some.inj e1).symm
    · rw [hn]
      have := h.root.2
      rw [Option.some.inj e1] at this
      exact this
  · rw [at_ne z] at e1
    have hr' : LgOk K H' tg (Y.putLg k r).y k r' := by rw [put_same.1]; exact hr
    rw [put_ne z (Y := Y.putLg k r)]
    refine YardW.lgsSet h (lookup_mem e1) kt hr' ha ?_ hl z
    rw [hn]
    exact (h.lgs _ (lookup_mem e1)).2.1
theorem LgOk.setA {K : PySem.W.Frag} {H : Hp} {tg : Addr → Option Tg} {y : Addr} {k : Str} {r r' : LgR} {dx : Addr} (x : LgOk K H tg y k r) (ha : r'.a = r.a) (hf : r'.fl = r.fl) (hh : r'.hl = r.hl) (hs : r'.fs = r.fs) (hhs : r'.hs = r.hs) :
    LgOk K (L2.upd H r.a (.ins (ga K "Logger") dx (lgF y r'.fl r'.name r'.level r'.prop r'.dis r'.hl r'.par))) tg y k r' := by
  obtain ⟨d0, e0⟩ := x.aE
  have kt : ∀ o, KpT tg (mLg k) H (L2.upd H r.a o) := fun o => KpT.at x.ta (.inl rfl)
  refine ⟨by rw [ha]; exact x.ta, by rw [hf]; exact x.tf, by rw [hh]; exact x.th, ⟨dx, by rw [ha, upd_same]⟩, ?_, ?_, fun f hfm => (x.fs f (by rw [← hs]; exact hfm)).kp (kt _)⟩
  · rw [hf, hs, upd_ne (ne_of x.flE e0 fun z => nomatch z)]
    exact x.flE
  · rw [hh, hhs, upd_ne (ne_of x.hlE e0 fun z => nomatch z)]
    exact x.hlE
theorem LgOk.flhl {K : PySem.W.Frag} {H : Hp} {tg : Addr → Option Tg} {y : Addr} {k : Str} {r : LgR} (x : LgOk K H tg y k r) : r.fl ≠ r.hl := fun z => by
  have e := x.tf
  rw [z, x.th] at e
  cases e
theorem LgOk.addF {K : PySem.W.Frag} {H : Hp} {tg : Addr → Option Tg} {y : Addr} {k : Str} {r : LgR} (x : LgOk K H tg y k r) {f : FlR} (hf : FlOk K H tg f) : LgOk K (L2.upd H r.fl (.lst (((r.fs.map FlR.addr) ++ [f.addr]).map V.ref))) tg y k { r with fs := r.fs ++ [f] } := by
  obtain ⟨dx, e⟩ := x.aE
  have kt : ∀ o, KpT tg (mLg k) H (L2.upd H r.fl o) := fun o => KpT.at x.tf (.inr (.inl rfl))
  refine ⟨x.ta, x.tf, x.th, ⟨dx, ?_⟩, ?_, ?_, fun g hg => ?_⟩
  · rw [upd_ne (ne_of e x.flE fun z => nomatch z)]
    exact e
  · show L2.upd H r.fl _ r.fl = some (.lst (((r.fs ++ [f]).map FlR.addr).map V.ref))
    rw [upd_same, List.map_append (f := FlR.addr)]
    rfl
  · rw [upd_ne x.flhl.symm]
    exact x.hlE
  · rcases List.mem_append.mp (show g ∈ r.fs ++ [f] from hg) with z | z
    · exact (x.fs g z).kp (kt _)
    · rw [List.mem_singleton.mp z]
      exact hf.kp (kt _)
theorem LgOk.addH {K : PySem.W.Frag} {H : Hp} {tg : Addr → Option Tg} {y : Addr} {k : Str} {r : LgR} (x : LgOk K H tg y k r) (a : Addr) : LgOk K (L2.upd H r.hl (.lst ((r.hs ++ [a]).map V.ref))) tg y k { r with hs := r.hs ++ [a] } := by
  obtain ⟨dx, e⟩ := x.aE
  have kt : ∀ o, KpT tg (mLg k) H (L2.upd H r.hl o) := fun o => KpT.at x.th (.inr (.inr rfl))
  refine ⟨x.ta, x.tf, x.th, ⟨dx, ?_⟩, ?_, upd_same, fun g hg => (x.fs g hg).kp (kt _)⟩
  · rw [upd_ne (ne_of e x.hlE fun z => nomatch z)]
    exact e
  · rw [upd_ne x.flhl]
    exact x.flE
theorem lgF_level (y fl : Addr) (nm : Str) (lv : Int) (pr di : Bool) (hl : Addr) (pa : V) (i : Int) : putF "level" (.int i) (lgF y fl nm lv pr di hl pa) = lgF y fl nm i pr di hl pa := by kernel_rfl
theorem lgF_prop (y fl : Addr) (nm : Str) (lv : Int) (pr di : Bool) (hl : Addr) (pa : V) (b : Bool) : putF "propagate" (.bl b) (lgF y fl nm lv pr di hl pa) = lgF y fl nm lv b di hl pa := by kernel_rfl
theorem lgF_dis (y fl : Addr) (nm : Str) (lv : Int) (pr di : Bool) (hl : Addr) (pa : V) (b : Bool) : putF "disabled" (.bl b) (lgF y fl nm lv pr di hl pa) = lgF y fl nm lv pr b hl pa := by kernel_rfl
theorem lgF_lk (y fl : Addr) (nm : Str) (lv : Int) (pr di : Bool) (hl : Addr) (pa : V) : lk (lgF y fl nm lv pr di hl pa) "setLevel" = none ∧ lk (lgF y fl nm lv pr di hl pa) "setPropagate" = none ∧ lk (lgF y fl nm lv pr di hl pa) "setDisabled" = none ∧ lk (lgF y fl nm lv pr di hl pa) "addFilter" = none ∧ lk (lgF y fl nm lv pr di hl pa) "addHandler" = none ∧
    lk (lgF y fl nm lv pr di hl pa) "yard" = some (.ref y) ∧ lk (lgF y fl nm lv pr di hl pa) "filters" = some (.ref fl) ∧ lk (lgF y fl nm lv pr di hl pa) "handlers" = some (.ref hl) := ⟨by kernel_rfl, by kernel_rfl, by kernel_rfl, by kernel_rfl, by kernel_rfl, by kernel_rfl, by kernel_rfl, by kernel_rfl⟩
end Ry
namespace Ry
open PySem PySem.Spec PyProof.Rows L2 He RyH
open C8 (pss_cut tCut Cal Met Mak pe_c pe_mk pe_mt pe_mt0 pe_gc)
/-! ### lists that are not the yard's may change -/
def Big : HO → Prop
  | .lst _ => True
  | .ins _ _ fs => 7 ≤ fs.length
  | .dK kvs => kvs ≠ []
  | .tbl _ => True
  | _ => False
def KpU (tg : Addr → Option Tg) (H H' : Hp) : Prop := ∀ b o, H b = some o → (tg b = none → ¬ Big o) → H' b = some o
theorem KpU.tagged {tg : Addr → Option Tg} {H H' : Hp} (k : KpU tg H H') {b : Addr} {o : HO} {t : Tg} (e : H b = some o) (h : tg b = some t) : H' b = some o := k b o e fun z => by rw [h] at z; cases z
theorem KpU.at_ {tg : Addr → Option Tg} {H : Hp} {p : Addr} {u o : HO} (t : tg p = none) (e : H p = some u) (hb : Big u) : KpU tg H (L2.upd H p o) := fun b w q n => by
  rw [upd_ne (fun z => by rw [z, e] at q; cases q; rw [z] at n; exact n t hb)]
  exact q
theorem KpU.lst {tg : Addr → Option Tg} {H : Hp} {p : Addr} {xs : List V} {o : HO} (t : tg p = none) (e : H p = some (.lst xs)) : KpU tg H (L2.upd H p o) := KpU.at_ t e True.intro
theorem FlOk.kpu {K : PySem.W.Frag} {tg : Addr → Option Tg} {H H' : Hp} {f : FlR} (h : FlOk K H tg f) (k : KpU tg H H') : FlOk K H' tg f := by
  cases f with
  | fil a x =>
    obtain ⟨t, dx, e⟩ := h
    exact ⟨t, dx, k _ _ e fun _ z => absurd z (Nat.not_le_of_lt (Nat.lt_of_sub_eq_succ rfl))⟩
  | fn a =>
    obtain ⟨t, e⟩ := h
    exact ⟨t, k _ _ e fun _ z => z⟩
theorem LgOk.kpu {K : PySem.W.Frag} {tg : Addr → Option Tg} {H H' : Hp} {y : Addr} {key : Str} {r : LgR} (h : LgOk K H tg y key r) (k : KpU tg H H') : LgOk K H' tg y key r := by
  obtain ⟨dx, e⟩ := h.aE
  exact ⟨h.ta, h.tf, h.th, ⟨dx, k.tagged e h.ta⟩, k.tagged h.flE h.tf, k.tagged h.hlE h.th, fun f hf => (h.fs f hf).kpu k⟩
theorem FmT.kpu {K : PySem.W.Frag} {tg : Addr → Option Tg} {H H' : Hp} {a dd : Addr} {b : Bool} {ps : List FP} (h : FmT K H tg a b ps dd) (k : KpU tg H H') : FmT K H' tg a b ps dd := by
  obtain ⟨dx, q, js, t1, t2, t3, e1, e2, e3, e4⟩ := h
  refine ⟨dx, q, js, t1, t2, t3, k _ _ e1 (fun _ z => absurd z (Nat.not_le_of_lt (Nat.lt_of_sub_eq_succ rfl))), k _ _ e2 (fun _ z => z), Paired.impl e3 fun v j hj => ?_, k _ _ e4 (fun _ z => z rfl)⟩
  cases j with
  | txt l => exact hj
  | fld nm =>
    obtain ⟨c, d, e, z, q⟩ := hj
    exact ⟨c, d, e, z, k _ _ q (fun _ z => absurd z (Nat.not_le_of_lt (Nat.lt_of_sub_eq_succ rfl)))⟩
theorem HdOk.kpu {K : PySem.W.Frag} {tg : Addr → Option Tg} {H H' : Hp} {y : Addr} {i : Nat} {h : HdR} (x : HdOk K H tg y i h) (k : KpU tg H H') : HdOk K H' tg y i h := by
  obtain ⟨dx, e⟩ := x.aE
  exact ⟨x.ta, x.tf, ⟨dx, k.tagged e x.ta⟩, k.tagged x.flE x.tf, fun f hf => (x.fs f hf).kpu k, fun a dd b ps e => (x.fm a dd b ps e).kpu k⟩
theorem YardW.kpu {K : PySem.W.Frag} {H H' : Hp} {tg : Addr → Option Tg} {Y : YD} (h : YardW K H tg Y) (k : KpU tg H H') : YardW K H' tg Y := by
  obtain ⟨dy, ey⟩ := h.yE
  obtain ⟨dl, el⟩ := h.lrE
  exact { h with
    yE := ⟨dy, k.tagged ey h.ty⟩, stE := k.tagged h.stE h.tst, frE := k.tagged h.frE h.tfr, noE := k.tagged h.noE h.tno, nuE := k.tagged h.nuE h.tnu, lmE := k.tagged h.lmE h.tlm, mkE := k.tagged h.mkE h.tmk, hnE := k.tagged h.hnE h.thn, faE := k.tagged h.faE h.tfa, lrE := ⟨dl, k.tagged el h.tlr⟩, lrfE := k.tagged h.lrfE h.tlf
    root := ⟨h.root.1.kpu k, h.root.2⟩
    lgs := fun x hx => ⟨(h.lgs x hx).1.kpu k, (h.lgs x hx).2⟩
    hds := fun i x hx => (h.hds i x hx).kpu k
    live := fun b t e => by
      obtain ⟨o, a, s⟩ := h.live b t e
      exact ⟨o, k.tagged a e, s⟩ }
/-! ### a logger is put in its place: what stays -/
theorem put_keys {Y : YD} {k : Str} {r : LgR} : (Y.putLg k r).lgs.map (·.1) = Y.lgs.map (·.1) := by
  by_cases e : k = ""
  · subst e
    rw [put_root]
  · rw [put_ne e]
    show (Y.lgs.map _).map _ = _
    rw [List.map_map]
    refine List.map_congr_left fun x _ => ?_
    show (if x.1 = k then (k, r) else x).1 = x.1
    by_cases z : x.1 = k
    · rw [if_pos z, z]
    · rw [if_neg z]
theorem put_mem {Y : YD} {k : Str} {r : LgR} {x : Str × LgR} (h : x ∈ (Y.putLg k r).lgs) : (k ≠ "" ∧ x = (k, r)) ∨ (x ∈ Y.lgs ∧ (k ≠ "" → x.1 ≠ k)) := by
  by_cases e : k = ""
  · subst e
    rw [put_root] at h
    exact .inr ⟨h, fun z => absurd rfl z⟩
  · rw [put_ne e] at h
    obtain ⟨x0, hx0, q⟩ := List.mem_map.mp (show x ∈ Y.lgs.map _ from h)
    by_cases z : x0.1 = k
    · rw [if_pos z] at q
      exact .inl ⟨e, q.symm⟩
    · rw [if_neg z] at q
      rw [← q]
      exact .inr ⟨hx0, fun _ => z⟩
theorem put_rt {Y : YD} {k : Str} {r : LgR} : (Y.putLg k r).root = if k = "" then r else Y.root := by
  by_cases e : k = ""
  · subst e
    rw [put_root, if_pos rfl]
  · rw [put_ne e, if_neg e]
    rfl
theorem put_rows {Y : YD} {k : Str} {r r0 : LgR} (nd : (Y.lgs.map (·.1)).Nodup) (h : Y.lgAt k = some r0) (ha : r.a = r0.a) : (Y.putLg k r).rows = Y.rows := by
  by_cases e : k = ""
  · subst e
    rw [put_root]
    rfl
  · rw [put_ne e]
    rw [at_ne e] at h
    unfold YD.setLg YD.rows
    show (Y.lgs.map _).map _ = _
    rw [List.map_map]
    refine List.map_congr_left fun x hx => ?_
    show ((if x.1 = k then (k, r) else x).1, (if x.1 = k then (k, r) else x).2.a) = (x.1, x.2.a)
    by_cases z : x.1 = k
    · have m := mem_lookup (k := x.1) (v := x.2) nd hx
      rw [z, h] at m
      rw [if_pos z, z, ha, Option.some.inj m]
    · rw [if_neg z]
theorem put_rta {Y : YD} {k : Str} {r r0 : LgR} (h : Y.lgAt k = some r0) (ha : r.a = r0.a) : (Y.putLg k r).root.a = Y.root.a := by
  rw [put_rt]
  by_cases e : k = ""
  · subst e
    rw [at_root] at h
    rw [if_pos rfl, ha, Option.some.inj h]
  · rw [if_neg e]
/-! ### what a yard made of a plan is -/
structure LgFit (hds : List HdR) (r : LgR) (row : RP) : Prop where
  level : r.level = row.level
  prop : r.prop = row.prop
  dis : r.dis = row.disabled
  fs : r.fs.map FlR.nm = row.filters.map some
  hs : r.hs.map some = row.handlers.map fun i => (hds[i]?).map (·.a)
def putN (ns : List (Key × V)) (x : Int × Str) : List (Key × V) := putK ns (.inl x.1) (.str x.2)
def putU (us : List (Key × V)) (x : Int × Str) : List (Key × V) := putK us (kS x.2) (.int x.1)
structure YFit (Y : YD) (pl : Pl) (ks : List PySem.Str) : Prop where
  bar : Y.bar = pl.bar
  names : Y.names = pl.words.foldl putN kvNames
  numbers : Y.numbers = pl.words.foldl putU kvNumbers
  mkx : Y.mkx = []
  hds : Paired HdFit Y.hds pl.handlers
  rootP : Y.root.par = .non
  root : ∃ row, (("" : Str), row) ∈ pl.loggers ∧ LgFit Y.hds Y.root row
  perm : (ks : List Str).Perm (pl.loggers.map (·.1))
  sorted : sortedS ks = true
  keys : Y.lgs.map (·.1) = (ks.filter fun z : Str => decide (z ≠ ("" : Str)))
  lgs : ∀ x ∈ Y.lgs, x.2.par = .ref (parentA Y.rows Y.root.a x.1) ∧ ∃ row, (x.1, row) ∈ pl.loggers ∧ LgFit Y.hds x.2 row
def wY (Y : YD) (ws : List (Int × Str)) : YD := { Y with names := ws.foldl putN Y.names, numbers := ws.foldl putU Y.numbers }
theorem fold_putN_len : ∀ (ws : List (Int × Str)) (ns : List (Key × V)), (ws.foldl putN ns).length ≤ ns.length + ws.length
  | [], ns => Nat.le_refl _
  | x :: ws, ns => by
    rw [List.foldl_cons, List.length_cons]
    have h1 := fold_putN_len ws (putN ns x)
    have h2 := length_putK ns (.inl x.1) (.str x.2)
    have h3 : (putN ns x).length ≤ ns.length + 1 := h2
    omega
theorem fold_putU_len : ∀ (ws : List (Int × Str)) (ns : List (Key × V)), (ws.foldl putU ns).length ≤ ns.length + ws.length
  | [], ns => Nat.le_refl _
  | x :: ws, ns => by
    rw [List.foldl_cons, List.length_cons]
    have h1 := fold_putU_len ws (putU ns x)
    have h2 := length_putK ns (kS x.2) (.int x.1)
    have h3 : (putU ns x).length ≤ ns.length + 1 := h2
    omega
theorem yd_lk2 (ck : Int) (st fr no nu : Addr) (bar : Int) (lm mk hn fa rt lr : Addr) : lk (ydF ck st fr no nu bar lm mk hn fa rt lr) "add_level_name" = none ∧ lk (ydF ck st fr no nu bar lm mk hn fa rt lr) "getLogger" = none ∧ lk (ydF ck st fr no nu bar lm mk hn fa rt lr) "disable" = none ∧ lk (ydF ck st fr no nu bar lm mk hn fa rt lr) "loggers" = none :=
  ⟨by kernel_rfl, by kernel_rfl, by kernel_rfl, by kernel_rfl⟩
theorem vk_words (hs ws lg : Addr) (b : Int) : valV (planK hs ws lg b) (kS "words") = some (.ref ws) := by kernel_rfl
theorem vk_handlers (hs ws lg : Addr) (b : Int) : valV (planK hs ws lg b) (kS "handlers") = some (.ref hs) := by kernel_rfl
theorem vk_loggers (hs ws lg : Addr) (b : Int) : valV (planK hs ws lg b) (kS "loggers") = some (.ref lg) := by kernel_rfl
theorem vk_bar (hs ws lg : Addr) (b : Int) : valV (planK hs ws lg b) (kS "bar") = some (.int b) := by kernel_rfl
theorem vr_level (r : RP) (hl fl : Addr) : valV (rpK r hl fl) (kS "level") = some (.int r.level) := by kernel_rfl
theorem vr_prop (r : RP) (hl fl : Addr) : valV (rpK r hl fl) (kS "propagate") = some (.bl r.prop) := by kernel_rfl
theorem vr_handlers (r : RP) (hl fl : Addr) : valV (rpK r hl fl) (kS "handlers") = some (.ref hl) := by kernel_rfl
theorem vr_filters (r : RP) (hl fl : Addr) : valV (rpK r hl fl) (kS "filters") = some (.ref fl) := by kernel_rfl
theorem vr_dis (r : RP) (hl fl : Addr) : valV (rpK r hl fl) (kS "disabled") = some (.bl r.disabled) := by kernel_rfl
theorem row_at {N : Addr → Prop} {H : Hp} {nm : Str} : ∀ {rows : List (Str × Addr)} {ls : List (Str × RP)}, Paired (RowP N H) rows ls → nm ∈ ls.map (·.1) → ∃ ra row, rows.lookup nm = some ra ∧ (nm, row) ∈ ls ∧ RowAt N H ra row
  | _, _, .nil, h => nomatch h
  | (a, b) :: rows, (c, d) :: ls, .cons r t, h => by
    obtain ⟨e, q⟩ := r
    have e' : a = c := e
    rw [List.lookup_cons]
    cases z : (nm == a) with
    | true =>
      have w : nm = a := eq_of_beq z
      exact ⟨b, d, rfl, by rw [w, e']; exact List.mem_cons_self .., q⟩
    | false =>
      rcases List.mem_cons.mp h with w | w
      · have w' : nm = c := w
        rw [w', ← e', beq_self_eq_true] at z
        cases z
      · obtain ⟨ra, row, h1, h2, h3⟩ := row_at t w
        exact ⟨ra, row, h1, List.mem_cons_of_mem _ h2, h3⟩
theorem rows_keysP {N : Addr → Prop} {H : Hp} : ∀ {rows : List (Str × Addr)} {ls : List (Str × RP)}, Paired (RowP N H) rows ls → rows.map (·.1) = ls.map (·.1)
  | _, _, .nil => rfl
  | _, _, .cons r t => by rw [List.map_cons, List.map_cons, rows_keysP t, r.1]
end Ry
namespace Ry
open PySem PySem.Spec PyProof.Rows L2 He RyH
open C8 (pss_cut tCut Cal Met Mak pe_c pe_mk pe_mt pe_mt0 pe_gc)
/-! ### the yard of a plan -/
def spYard (K : PySem.W.Frag) : Sp := fun vs H Q _ => ∃ (p : Addr) (pl : Pl) (N : Addr → Prop) (lo ha : Nat), vs = [.ref p] ∧ PlanAt N H p pl ∧ PlOk lo ha pl ∧ lo ≤ 20 ∧ ha ≤ 20 ∧
  ∀ tg Y ks H', YardW K H' tg Y → YFit Y pl ks → FrK H H' tg → Q (.ref Y.y) H'
/-- behind the turn for nm: what is told of the others -/
structure YTurn (Y2 Y : YD) (pl : Pl) (ys : List Str) (n i : Nat) (nm : Str) : Prop where
  y : Y.y = Y2.y
  bar : Y.bar = Y2.bar
  names : Y.names = Y2.names
  numbers : Y.numbers = Y2.numbers
  hds : Y.hds = Y2.hds
  mkx : Y.mkx = Y2.mkx
  rootP : Y.root.par = .non
  keys : Y.lgs.map (·.1) = ((ys.take n).filter fun z : Str => decide (z ≠ ("" : Str)))
  lgs : ∀ x ∈ Y.lgs, x.2.par = .ref (parentA Y.rows Y.root.a x.1) ∧ (x.1 ≠ nm → ∃ row, (x.1, row) ∈ pl.loggers ∧ LgFit Y.hds x.2 row)
  rt0 : (("" : Str) ∉ ys.take n) → Y.root.fs = [] ∧ Y.root.hs = []
  rt1 : (("" : Str) ∈ ys.take i) → ∃ row, (("" : Str), row) ∈ pl.loggers ∧ LgFit Y.hds Y.root row
theorem pe_mk0 {X : Cx} {k j : Nat} {C : Addr} {x : Str} {sp : Sp} {dvs : List V} {p pos : Pos} (c : Mak X.prog X.w X.K X.mg X.base k x C sp dvs) (hr : Room j X.A) (hk : k + 1 ≤ j) (hg : Gl X x)
    (hdb : (x == ("__debug__" : Str)) = false := by decide) : PE X (.Call (.Name x p) [] [] pos) (tMake C sp dvs C8.E0 tNil) := by
  obtain ⟨f, fd, ps, ds, M, F, hm, b, d⟩ := c.ex
  exact pe_make0 M F (hr.mono hk) hg hm b d C8.pass0 hdb
section
variable {P : Program} {w : World} {K : PySem.W.Frag} {mg : Str → Option Value} {base : Heap}
theorem sc_law_yard : FnScope ["_law_plan_here", "_law_yard_here", "_law_level_here", "_law_word", "_law_handlers", "_law_name", "_law_logger", "_law_row", "_law_one", "_law_at"] ["_law_plan_here"] (defScope s_law_yard) := ⟨rfl, rfl, rfl, by decide +kernel, rfl, by decide +kernel, by decide +kernel⟩
theorem cal_law_yard (T : Txt w K mg) : Cal P w K mg base 8 "_law_yard" (spYard K) [] := by
  obtain ⟨fd, F⟩ := T.df_law_yard
  have c_mk_Yard := mk_Yard (P := P) (base := base) T
  have c_Yard_add_level_name := met_Yard_add_level_name (P := P) (base := base) T
  have c_law_handler := cal_law_handler (P := P) (base := base) T
  have c_Yard_getLogger := met_Yard_getLogger (P := P) (base := base) T
  have c_Logger_setLevel := met_Logger_setLevel (P := P) (base := base) T
  have c_Logger_setPropagate := met_Logger_setPropagate (P := P) (base := base) T
  have c_Logger_setDisabled := met_Logger_setDisabled (P := P) (base := base) T
  have c_Logger_addFilter := met_Logger_addFilter (P := P) (base := base) T
  have c_mk_Filter := mk_Filter (P := P) (base := base) T
  have c_Logger_addHandler := met_Logger_addHandler (P := P) (base := base) T
  have c_Yard_disable := met_Yard_disable (P := P) (base := base) T
  refine ⟨_, fd, ["_law_plan_here"], [], F.ok sc_law_yard (fun vs H Q E h => ?_) (fun cdv A outer s H vs Q E hr h => ?_), T.m_law_yard, F.kp, F.bindsN (fun _ _ _ _ _ _ us hl => match us, hl with | [_], _ => rfl), .nil⟩
  · obtain ⟨_, _, _, _, _, rfl, _⟩ := h
    rfl
  · obtain ⟨p, pl, N, lo, ha, rfl, hP, hok, hlo, hha, k⟩ := h
    refine ⟨_, PSs.nox (pss_cons (ps_set (i := 1) sc_law_yard.nd rfl (Or.inr rfl) (pe_mk0 c_mk_Yard hr (by decide) (by rfl)))
      (pss_cons (ps_for PassesOwn.never rfl (pi_list (pe_dget (hu_of hr) (pv 0) pe_str (fun _ _ => rfl))) (pg_tup rfl (pgs_cons (pg_name (i := 2) sc_law_yard.nd rfl (Or.inl rfl)) (pgs_cons (pg_name (i := 3) sc_law_yard.nd rfl (Or.inl rfl)) pgs_nil)))
        (pss_one (ps_expr (pe_mt c_Yard_add_level_name hr (by decide) (pv 1) (pa_cons (pv 2) (pa_cons (pv 3) pa_nil))))))
      (pss_cons (ps_setLc (i := 4) (own := [("_law_one", 8)]) rfl sc_law_yard.nd rfl rfl (sw_true rfl rfl rfl (by decide +kernel)) (pi_list (pe_dget (hu_of hr) (pv 0) pe_str (fun _ _ => rfl))) (blkOk_by (N := ["_law_plan_here", "_law_yard_here", "_law_level_here", "_law_word", "_law_handlers", "_law_name", "_law_logger", "_law_row", "_law_one", "_law_at"]) (sc := defScope s_law_yard) (own := [("_law_one", 8)]) (by decide +kernel)) (fun _ _ _ _ _ => pg_name (i := 8) sc_law_yard.nd rfl (Or.inl rfl)) (fun _ _ _ _ _ => pts_nil) (fun _ _ _ _ _ => (pe_c c_law_handler hr (by decide) (by rfl) (pa_cons (pv 1) (pa_cons (pv 8) pa_nil)))))
      (pss_cons (ps_for PassesOwn.never rfl (pi_list (pe_callB (call_sortedD rfl) (by rfl) T.f_sorted (by decide +kernel) (pa_cons (pe_dget (hu_of hr) (pv 0) pe_str (fun _ _ => rfl)) pa_nil))) (pg_name (i := 5) sc_law_yard.nd rfl (Or.inl rfl))
        (pss_cons (ps_par (i := 6) (j := 7) (by rfl) sc_law_yard.nd rfl rfl (by decide) rfl rfl (pa_cons (RyT.pe_cutE (pe_mt c_Yard_getLogger hr (by decide) (pv 1) (pa_cons (pv 5) pa_nil))) (pa_cons (pe_dget (hu_of hr) (pe_dget (hu_of hr) (pv 0) pe_str (fun _ _ => rfl)) (pv 5) (fun _ _ => rfl)) pa_nil)) (by rfl))
        (pss_cons (ps_expr (pe_mt c_Logger_setLevel hr (by decide) (pv 6) (pa_cons (pe_dget (hu_of hr) (pv 7) pe_str (fun _ _ => rfl)) pa_nil)))
        (pss_cons (ps_expr (pe_mt c_Logger_setPropagate hr (by decide) (pv 6) (pa_cons (pe_dget (hu_of hr) (pv 7) pe_str (fun _ _ => rfl)) pa_nil)))
        (pss_cons (ps_expr (pe_mt c_Logger_setDisabled hr (by decide) (pv 6) (pa_cons (pe_dget (hu_of hr) (pv 7) pe_str (fun _ _ => rfl)) pa_nil)))
        (pss_cons (ps_for PassesOwn.never rfl (pi_list (pe_dget (hu_of hr) (pv 7) pe_str (fun _ _ => rfl))) (pg_name (i := 8) sc_law_yard.nd rfl (Or.inl rfl))
          (pss_one (ps_expr (pe_mt c_Logger_addFilter hr (by decide) (pv 6) (pa_cons (pe_mk c_mk_Filter hr (by decide) (by rfl) (pa_cons (pv 8) pa_nil)) pa_nil)))))
        (pss_one (ps_for PassesOwn.never rfl (pi_list (pe_dget (hu_of hr) (pv 7) pe_str (fun _ _ => rfl))) (pg_name (i := 9) sc_law_yard.nd rfl (Or.inl rfl))
          (pss_one (ps_expr (pe_mt c_Logger_addHandler hr (by decide) (pv 6) (pa_cons (pe_ix ix_list (pv 4) (pv 9) (fun _ _ => rfl)) pa_nil))))))))))))
      (pss_cons (ps_expr (pe_mt c_Yard_disable hr (by decide) (pv 1) (pa_cons (pe_dget (hu_of hr) (pv 0) pe_str (fun _ _ => rfl)) pa_nil)))
      (pss_one (ps_ret (pv 1)))))))), ?_⟩
    obtain ⟨hs, ws, lg, hps, wvs, rows, W⟩ := hP
    refine fun x dx hx hdx hne => ?_
    refine ⟨x, dx, rfl, upd_same, fun st fr no nu lm mk hn fa rt lr rf rh lrf H1 nd hfree hnew kk => ⟨rfl, ?_⟩⟩
    have hfr : ∀ b ∈ [mk, lrf, lr, rh, rf, rt, fa, hn, lm, nu, no, fr, st], H b = none := fun b hb => was_none (was_none (hfree b hb))
    have hbx : ∀ b ∈ [mk, lrf, lr, rh, rf, rt, fa, hn, lm, nu, no, fr, st], b ≠ x := fun b hb z => by
      have q := hfree b hb
      rw [z, upd_same] at q
      cases q
    have s1 : Same H H1 := fun b o e => kk b o (by rw [upd_ne (ne_of_none e hx), upd_ne (ne_of_none e hdx)]; exact e) (ne_of_none e hx)
    have YW1 := YardW.new hnew nd hbx
    have FK1 := FrK.new s1 hfr hx
    obtain ⟨tg1, Y0, ey0, yw0, fk0, yb0, yn0, yu0, yl0, yh0, yp0, yf0, ys0, ymx0⟩ : ∃ tg Y, x = YD.y Y ∧ YardW K H1 tg Y ∧ FrK H H1 tg ∧ Y.bar = 0 ∧ Y.names = kvNames ∧ Y.numbers = kvNumbers ∧ Y.lgs = [] ∧ Y.hds = [] ∧ Y.root.par = .non ∧ Y.root.fs = [] ∧ Y.root.hs = [] ∧ Y.mkx = [] := ⟨_, _, rfl, YW1, FK1, rfl, rfl, rfl, rfl, rfl, rfl, rfl, rfl, rfl⟩
    clear YW1 FK1 hnew hfree hfr hbx nd kk
    subst ey0
    have Wat := W.at_
    -- words
    have eP1 := (fk0 _ _ Wat).1
    refine ⟨_, rfl, p, _, rfl, dget eP1 (vk_words hs ws lg pl.bar), ?_⟩
    refine ⟨ws, rfl, ⟨_, SqL.of (fk0 _ _ W.wsE).1⟩, ?_⟩
    have hwl : wvs.length = pl.words.length := Paired.length W.wsP
    have hw2 := hok.fewW
    refine for_list (xs := wvs) (fun i σ' H' => ∃ o1 o2, σ' = [some (.ref p), some (.ref Y0.y), o1, o2, none, none, none, none, none, none] ∧ YardW K H' tg1 (wY Y0 (pl.words.take i)) ∧ FrK H H' tg1) ⟨_, _, rfl, yw0, fk0⟩ (fun i σ' H' _ ⟨_, _, _, _, f⟩ => SqL.of (f _ _ W.wsE).1) ?_ ?_
    · rintro i v σ' H' hv ⟨o1, o2, rfl, yw, fk⟩
      obtain ⟨wd, hwd, t, rfl, nt, et⟩ := Paired.nth W.wsP hv
      refine ⟨t, _, rfl, SqT.of (fk _ _ et).1, rfl, ?_⟩
      refine ⟨_, _, rfl, _, _, rfl, rfl, ?_⟩
      obtain ⟨dy, ey⟩ := yw.yE
      refine ⟨_, rfl, Y0.y, dy, _, rfl, ey, (yd_lk2 ..).1, _, rfl, _, rfl, ?_⟩
      have l1 := fold_putN_len (pl.words.take i) Y0.names
      have l2 := fold_putU_len (pl.words.take i) Y0.numbers
      rw [List.length_take] at l1 l2
      have l3 : Y0.names.length = 6 := by rw [yn0]; rfl
      have l4 : Y0.numbers.length = 8 := by rw [yu0]; rfl
      have hne2 : (wY Y0 (pl.words.take i)).no ≠ (wY Y0 (pl.words.take i)).nu := fun z => by
        have z1 := yw.tno
        rw [z, yw.tnu] at z1
        cases z1
      refine ⟨Y0.y, _, _, _, wd.1, wd.2, _, _, rfl, ⟨dy, ey⟩, (yd_lk ..).2.2.2.1, (yd_lk ..).2.2.2.2.1, yw.noE, yw.nuE, hne2, ?_, ?_, ?_⟩
      · show ((pl.words.take i).foldl putN Y0.names).length < 1000
        omega
      · show ((pl.words.take i).foldl putU Y0.numbers).length < 1000
        omega
      · have z := yw.nmSet (putN ((pl.words.take i).foldl putN Y0.names) wd) (putU ((pl.words.take i).foldl putU Y0.numbers) wd)
        have zk := fk.kp (nmSet_kp yw (putN ((pl.words.take i).foldl putN Y0.names) wd) (putU ((pl.words.take i).foldl putU Y0.numbers) wd))
        refine ⟨_, _, rfl, ?_, zk⟩
        have e : wY Y0 (pl.words.take (i + 1)) = { wY Y0 (pl.words.take i) with names := putN ((pl.words.take i).foldl putN Y0.names) wd, numbers := putU ((pl.words.take i).foldl putU Y0.numbers) wd } := by
          unfold wY
          rw [take_nth hwd, List.foldl_append, List.foldl_append]
          rfl
        rw [e]
        exact z
    rintro σ' H2 ⟨o1, o2, rfl, yw2, fk2⟩
    rw [hwl, List.take_length] at yw2
    have n2 : (wY Y0 pl.words).names = pl.words.foldl putN kvNames := by rw [← yn0]; rfl
    have u2 : (wY Y0 pl.words).numbers = pl.words.foldl putU kvNumbers := by rw [← yu0]; rfl
    obtain ⟨Y2, e2⟩ : ∃ Y2, Y2 = wY Y0 pl.words := ⟨_, rfl⟩
    have ey2 : Y0.y = Y2.y := by rw [e2]; rfl
    have yb2 : Y2.bar = 0 := by rw [e2]; exact yb0
    have yl2 : Y2.lgs = [] := by rw [e2]; exact yl0
    have yh2 : Y2.hds = [] := by rw [e2]; exact yh0
    have yp2 : Y2.root.par = .non := by rw [e2]; exact yp0
    have yf2 : Y2.root.fs = [] ∧ Y2.root.hs = [] := by rw [e2]; exact ⟨yf0, ys0⟩
    have ymx2 : Y2.mkx = [] := by rw [e2]; exact ymx0
    rw [← e2] at yw2 n2 u2
    rw [ey2]
    clear e2
    -- handlers
    refine ⟨_, rfl, p, _, rfl, dget (fk2 _ _ Wat).1 (vk_handlers hs ws lg pl.bar), ?_⟩
    refine ⟨hs, rfl, ⟨_, SqL.of (fk2 _ _ W.hsE).1⟩, ?_⟩
    have hhl : hps.length = pl.handlers.length := Paired.length W.hsP
    have hfew := hok.fewH
    intro D hD
    refine lc_list (xs := hps.map V.ref) (fun i H' => ∃ tg Y, YardW K H' tg Y ∧ Y = { Y2 with hds := Y.hds } ∧ FrK H H' tg ∧ tg D = none ∧ H' D = some (.lst (Y.hds.map fun h => V.ref h.a)) ∧ Paired HdFit Y.hds (pl.handlers.take i)) ?_ (fun i H' _ ⟨_, _, _, _, f, _⟩ => SqL.of (f _ _ W.hsE).1) ?_ ?_
    · refine ⟨tg1, Y2, yw2.same (Same.nw hD), rfl, fk2.same (Same.nw hD), yw2.untag hD, ?_, ?_⟩
      · rw [upd_same, yh2]
        rfl
      · rw [yh2]
        exact .nil
    · rintro i v H' hv ⟨tg, Y, yw, eY, fk, tD, eD, pf⟩
      rw [List.getElem?_map] at hv
      obtain ⟨hp, hhp, rfl⟩ := Option.map_eq_some_iff.mp hv
      obtain ⟨h, hh, hpa⟩ := Paired.nth W.hsP hhp
      have hpN : HPlanAt (fun b => H b ≠ none) H' hp h := (hpa.to (N' := fun b => H b ≠ none) fun b _ z => z).kp (Kp.same (M := fun _ => False) fk.sm) fun b hb => ⟨hb, fun z => z⟩
      have hlen : Y.hds.length = min i pl.handlers.length := by
        rw [Paired.length pf, List.length_take]
      have hyy : Y2.y = Y.y := (congrArg YD.y eY).symm
      refine ⟨rfl, ?_⟩
      refine ⟨_, rfl, _, rfl, ?_⟩
      refine ⟨hp, h, fun b => H b ≠ none, tg, Y, by rw [hyy]; rfl, yw, hpN, fun b hb => ?_, (hok.handlers h (List.mem_of_getElem? hh)).1, (hok.handlers h (List.mem_of_getElem? hh)).2, by omega, (congrArg YD.mkx eY).trans ymx2, fun r tg' H4 hfit hn => ?_⟩
      · cases q : H b with
        | none => exact absurd q hb
        | some o => exact (fk b o q).2
      · have eD4 : H4 D = some (.lst (Y.hds.map fun h => V.ref h.a)) := hn.tr tD eD
        have tD4 : tg' D = none := (hn.ag _ _ eD).trans tD
        refine ⟨_, eD4, by rw [List.length_map, sizeLine_eq]; omega, tg', { Y with hds := Y.hds ++ [r] }, hn.yw.kpu (KpU.lst tD4 eD4), ?_, ?_, tD4, ?_, ?_⟩
        · have z := congrArg (fun z : YD => ({ z with hds := Y.hds ++ [r] } : YD)) eY
          exact z
        · refine fun b o e => ⟨?_, ((fk.ag hn.ag) b o e).2⟩
          have hbD : b ≠ D := fun z => by
            have q := fk2.sm _ _ e
            rw [z, hD] at q
            cases q
          rw [upd_ne hbD]
          exact hn.tr (fk b o e).2 (fk b o e).1
        · rw [upd_same]
          show _ = some (HO.lst (List.map _ (Y.hds ++ [r])))
          rw [List.map_append]
          rfl
        · rw [take_nth hh]
          exact Paired.snoc hfit pf
    rintro H3 ⟨tg3, Y3, yw3, eY3, fk3, tD, eD, pf3⟩
    rw [List.length_map, hhl, List.take_length] at pf3
    have hyy3 : Y2.y = Y3.y := (congrArg YD.y eY3).symm
    rw [hyy3]
    have b3 : Y3.bar = 0 := (congrArg YD.bar eY3).trans yb2
    have n3 : Y3.names = pl.words.foldl putN kvNames := (congrArg YD.names eY3).trans n2
    have u3 : Y3.numbers = pl.words.foldl putU kvNumbers := (congrArg YD.numbers eY3).trans u2
    have l3 : Y3.lgs = [] := (congrArg YD.lgs eY3).trans yl2
    have mx3 : Y3.mkx = [] := (congrArg YD.mkx eY3).trans ymx2
    have r3 : Y3.root = Y2.root := by
      have z := congrArg YD.root eY3
      exact z
    have rp3 : Y3.root.par = .non := by rw [r3]; exact yp2
    have rf3 : Y3.root.fs = [] ∧ Y3.root.hs = [] := by rw [r3]; exact yf2
    clear eY3 r3 yw2
    have hD0 : H D = none := Same.was fk2.sm hD
    clear fk2
    -- loggers
    have hkeys := rows_keysP W.lgP
    refine ⟨_, rfl, p, _, rfl, dget (fk3 _ _ Wat).1 (vk_loggers hs ws lg pl.bar), ?_⟩
    have hfewL := hok.fewL
    refine ⟨lg, _, rows.map (·.1), rfl, .inl (fk3 _ _ W.lgE).1, by rw [List.map_map, List.map_map]; rfl, by rw [hkeys, List.length_map]; omega, fun ys L hperm hsrt hL => ?_⟩
    rw [hkeys] at hperm
    have hynd : ys.Nodup := hperm.symm.nodup hok.nd
    refine ⟨L, rfl, ⟨_, SqL.of upd_same⟩, ?_⟩
    have fk4 : FrK (L2.upd (L2.upd H D (.lst (Y3.hds.map fun h => V.ref h.a))) L (.lst (ys.map V.str))) (L2.upd H3 L (.lst (ys.map V.str))) tg3 :=
      ((fk3.add eD tD).same (Same.nw hL)).add upd_same (yw3.untag hL)
    have yw4 := yw3.same (Same.nw (o := .lst (ys.map V.str)) hL)
    have sHG : Same H (L2.upd (L2.upd H D (.lst (Y3.hds.map fun h => V.ref h.a))) L (.lst (ys.map V.str))) := fun b o e => by
      have e3 := (fk3 _ _ e).1
      rw [upd_ne (ne_of_none e3 hL), upd_ne (fun z => by rw [z, hD0] at e; cases e)]
      exact e
    have gD : L2.upd (L2.upd H D (.lst (Y3.hds.map fun h => V.ref h.a))) L (.lst (ys.map V.str)) D = some (.lst (Y3.hds.map fun h => V.ref h.a)) := by rw [upd_ne (ne_of_none eD hL), upd_same]
    have gL : L2.upd (L2.upd H D (.lst (Y3.hds.map fun h => V.ref h.a))) L (.lst (ys.map V.str)) L = some (.lst (ys.map V.str)) := upd_same
    generalize L2.upd (L2.upd H D (.lst (Y3.hds.map fun h => V.ref h.a))) L (.lst (ys.map V.str)) = G at fk4 sHG gD gL
    generalize L2.upd H3 L (.lst (ys.map V.str)) = H4 at fk4 yw4 ⊢
    refine for_list (xs := ys.map V.str) (fun i σ' H' => ∃ tg Y o5 o6 o7 o8 o9, σ' = [some (.ref p), some (.ref Y3.y), o1, o2, some (.ref D), o5, o6, o7, o8, o9] ∧ YardW K H' tg Y ∧ FrK G H' tg ∧ YTurn Y3 Y pl ys i i "" ∧ ∀ x ∈ Y.lgs, ∃ row, (x.1, row) ∈ pl.loggers ∧ LgFit Y.hds x.2 row) ?_ (fun i σ' H' _ ⟨_, _, _, _, _, _, _, _, _, f, _⟩ => SqL.of (f _ _ gL).1) ?_ ?_
    · refine ⟨tg3, Y3, _, _, _, _, _, rfl, yw4, fk4, ⟨rfl, rfl, rfl, rfl, rfl, rfl, rp3, (by rw [l3]; rfl), (fun x hx => by rw [l3] at hx; cases hx), (fun _ => rf3), (fun z => by cases z)⟩, (fun x hx => by rw [l3] at hx; cases hx)⟩
    · rintro i v σ' H' hv ⟨tg, Y, o5, o6, o7, o8, o9, rfl, yw, fk, ht, hall⟩
      rw [List.getElem?_map] at hv
      obtain ⟨nm, hnm, rfl⟩ := Option.map_eq_some_iff.mp hv
      have hyy : Y.y = Y3.y := ht.y
      have hnmk : nm ∈ pl.loggers.map (·.1) := hperm.mem_iff.mp (List.mem_of_getElem? hnm)
      have htk : ys.take (i + 1) = ys.take i ++ [nm] := take_nth hnm
      have hnt : nm ∉ ys.take i := fun z => by
        obtain ⟨j, hj, e⟩ := List.getElem_of_mem z
        rw [List.length_take] at hj
        rw [List.getElem_take] at e
        have q := nodup_inj hynd (List.getElem?_eq_getElem (show j < ys.length by omega)) (by rw [e]; exact hnm)
        omega
      have hin : nm ∈ ys.take (i + 1) := by rw [htk]; exact List.mem_append_right _ (List.mem_singleton.mpr rfl)
      refine ⟨fun v H2 => ∃ tg2 Y2 r0, v = .ref r0.a ∧ YardW K H2 tg2 Y2 ∧ FrK G H2 tg2 ∧ Y2.lgAt nm = some r0 ∧ r0.fs = [] ∧ r0.hs = [] ∧ YTurn Y3 Y2 pl ys (i + 1) i nm, ?_, ?_⟩
      · obtain ⟨dy, ey⟩ := yw.yE
        refine ⟨_, rfl, Y3.y, dy, _, rfl, by rw [← hyy]; exact ey, (yd_lk2 ..).2.1, _, rfl, ?_⟩
        refine ⟨Y.y, Y.lm, Y.root.a, _, Y.rows, nm, by rw [hyy]; rfl, yw.ymap, ?_⟩
        by_cases en : nm = ""
        · obtain ⟨q1, q2⟩ := ht.rt0 (by rw [← en]; exact hnt)
          refine .inl ⟨en, tg, Y, Y.root, rfl, yw, fk, by rw [en]; exact at_root, q1, q2, ⟨ht.y, ht.bar, ht.names, ht.numbers, ht.hds, ht.mkx, ht.rootP, ?_, fun x hx => ⟨(ht.lgs x hx).1, fun _ => hall x hx⟩, fun z => absurd (by rw [← en]; exact hin) z, ht.rt1⟩⟩
          rw [ht.keys, htk, List.filter_append, en]
          simp
        · have hmenu : nm ∈ logMenu := by
            obtain ⟨x, hx, e⟩ := List.mem_map.mp hnmk
            have q := (hok.loggers x hx).1
            rw [e] at q
            exact (List.mem_cons.mp q).resolve_left en
          have hnk : nm ∉ Y.lgs.map (·.1) := by
            rw [ht.keys]
            exact fun z => hnt (List.mem_filter.mp z).1
          have hlen : Y.lgs.length ≤ 90 := by
            have z := congrArg List.length ht.keys
            rw [List.length_map] at z
            have z1 := List.length_filter_le (fun z : Str => decide (z ≠ ("" : Str))) (ys.take i)
            have z2 := hperm.length_eq
            rw [List.length_map] at z2
            rw [List.length_take] at z1
            omega
          refine .inr (.inr ⟨hmenu, by rw [rows_keys]; exact hnk, yw.lgsW hlen, fun a fl hl dx H2 ha hf hh hfh haf hah elm ea ef eh all kk => ?_⟩)
          obtain ⟨yw2, ag, kp⟩ := yw.lgNew hmenu hnk ha hf hh hfh haf hah elm ea ef eh all kk
          refine ⟨_, Y.lgNew nm a fl hl, ⟨a, fl, hl, nm, 0, true, false, [], [], .ref (parentA (Y.rows ++ [(nm, a)]) Y.root.a nm)⟩, rfl, yw2, fun b o e => ⟨((fk.kp kp) b o e).1, ((fk.ag ag) b o e).2⟩, ?_, rfl, rfl, ?_⟩
          · rw [at_ne en]
            exact mem_lookup yw2.nd (List.mem_append_right _ (List.mem_singleton.mpr rfl))
          · refine ⟨ht.y, ht.bar, ht.names, ht.numbers, ht.hds, ht.mkx, ht.rootP, ?_, fun x hx => ?_, fun z => ht.rt0 fun q => z (by rw [htk]; exact List.mem_append_left _ q), ht.rt1⟩
            · rw [lgNew_keys, ht.keys, htk, List.filter_append]
              simp [en]
            · rw [lgNew_rows]
              rcases List.mem_append.mp (show x ∈ Y.lgs.map _ ++ _ from hx) with z | z
              · obtain ⟨x0, hx0, rfl⟩ := List.mem_map.mp z
                refine ⟨rfl, fun _ => ?_⟩
                obtain ⟨row, h1, h2⟩ := hall x0 hx0
                exact ⟨row, h1, ⟨h2.level, h2.prop, h2.dis, h2.fs, h2.hs⟩⟩
              · rw [List.mem_singleton.mp z]
                exact ⟨rfl, fun z => absurd rfl z⟩
      rintro v H2 ⟨tg2, Y2, r0, rfl, yw2, fk2, e0, f0, h0, ht2⟩
      clear yw fk ht hall tg Y hyy
      obtain ⟨ra, row, hra, hrow, hRA⟩ := row_at W.lgP hnmk
      have hrok := (hok.loggers _ hrow).2
      obtain ⟨hl, fl, _, era, _, ehl, _, efl⟩ := hRA
      have Fg : ∀ {H' : Hp} {b : Addr} {o : HO}, FrK G H' tg2 → H b = some o → H' b = some o := fun f e => (f _ _ (sHG _ _ e)).1
      refine ⟨_, rfl, p, _, rfl, dget (Fg fk2 Wat) (vk_loggers hs ws lg pl.bar), _, rfl, lg, .ref ra, rfl, dget (Fg fk2 W.lgE) (by rw [valV_row, hra]; rfl), _, _, rfl, ?_⟩
      have ok2 := yw2.lgOk e0
      have yp2 : YardW K H2 tg2 (Y2.putLg nm r0) := by rw [put_self yw2.nd e0]; exact yw2
      have hh3 : Y2.hds = Y3.hds := ht2.hds
      -- setLevel
      obtain ⟨d2, a2⟩ := ok2.aE
      refine ⟨_, rfl, r0.a, d2, _, rfl, a2, (lgF_lk ..).1, _, rfl, ra, _, rfl, dget (Fg fk2 era) (vr_level row hl fl), ?_⟩
      refine ⟨r0.a, _, d2, Y2.y, _, _, row.level, rfl, a2, T.cl_Logger, T.no_Logger_yard, T.no_Logger_level, csz rfl, (lgF_lk ..).2.2.2.2.2.1, yw2.yE, (yd_lk ..).1, ?_⟩
      rw [lgF_level]
      have ok3 := ok2.setA (r' := { r0 with level := row.level }) (dx := d2) rfl rfl rfl rfl rfl
      obtain ⟨yp3, kt3⟩ := yp2.lgStep e0 ok3 rfl rfl rfl rfl (Kp.at (.inl rfl))
      have fk3 := fk2.kp kt3
      generalize L2.upd H2 r0.a _ = H3 at ok3 yp3 kt3 fk3 ⊢
      -- setPropagate
      obtain ⟨d3, a3⟩ := ok3.aE
      refine ⟨_, rfl, r0.a, d3, _, rfl, a3, (lgF_lk ..).2.1, _, rfl, ra, _, rfl, dget (Fg fk3 era) (vr_prop row hl fl), ?_⟩
      refine ⟨r0.a, _, d3, _, .bl row.prop, rfl, a3, T.cl_Logger, T.no_Logger_propagate, csz rfl, ?_⟩
      rw [lgF_prop]
      have ok4 := ok3.setA (r' := { r0 with level := row.level, prop := row.prop }) (dx := d3) rfl rfl rfl rfl rfl
      obtain ⟨yp4, kt4⟩ := yp3.lgStep e0 ok4 rfl rfl rfl rfl (Kp.at (.inl rfl))
      have fk4 := fk3.kp kt4
      generalize L2.upd H3 r0.a _ = H4 at ok4 yp4 kt4 fk4 ⊢
      -- setDisabled
      obtain ⟨d4, a4⟩ := ok4.aE
      refine ⟨_, rfl, r0.a, d4, _, rfl, a4, (lgF_lk ..).2.2.1, _, rfl, ra, _, rfl, dget (Fg fk4 era) (vr_dis row hl fl), ?_⟩
      refine ⟨r0.a, _, d4, _, .bl row.disabled, rfl, a4, T.cl_Logger, T.no_Logger_disabled, csz rfl, ?_⟩
      rw [lgF_dis]
      have ok5 := ok4.setA (r' := { r0 with level := row.level, prop := row.prop, dis := row.disabled }) (dx := d4) rfl rfl rfl rfl rfl
      obtain ⟨yp5, kt5⟩ := yp4.lgStep e0 ok5 rfl rfl rfl rfl (Kp.at (.inl rfl))
      have fk5 := fk4.kp kt5
      generalize L2.upd H4 r0.a _ = H5 at ok5 yp5 kt5 fk5 ⊢
      clear ok4 yp4 kt4 fk4 a4 ok3 yp3 kt3 fk3 a3 a2 kt5 yp2 ok2
      -- filters
      refine ⟨_, rfl, ra, _, rfl, dget (Fg fk5 era) (vr_filters row hl fl), ?_⟩
      refine ⟨fl, rfl, ⟨_, SqL.of (Fg fk5 efl)⟩, ?_⟩
      refine for_list (xs := row.filters.map V.str) (fun j σ' H' => ∃ o8 fs, σ' = [some (.ref p), some (.ref Y3.y), o1, o2, some (.ref D), some (.str nm), some (.ref r0.a), some (.ref ra), o8, o9] ∧ YardW K H' tg2 (Y2.putLg nm { r0 with level := row.level, prop := row.prop, dis := row.disabled, fs := fs }) ∧
        LgOk K H' tg2 Y2.y nm { r0 with level := row.level, prop := row.prop, dis := row.disabled, fs := fs } ∧ FrK G H' tg2 ∧ fs.map FlR.nm = (row.filters.take j).map some) ?_ (fun j σ' H' _ ⟨_, _, _, _, _, f, _⟩ => SqL.of (Fg f efl)) ?_ ?_
      · exact ⟨_, r0.fs, rfl, yp5, ok5, fk5, by rw [f0]; rfl⟩
      · rintro j v σ' H' hv ⟨o8', fs, rfl, yp, ok, fk, hfs⟩
        rw [List.getElem?_map] at hv
        obtain ⟨fn, hfn, rfl⟩ := Option.map_eq_some_iff.mp hv
        obtain ⟨d6, a6⟩ := ok.aE
        refine ⟨_, rfl, r0.a, d6, _, rfl, a6, (lgF_lk ..).2.2.2.1, _, rfl, fun q dq hq hdq hne => ?_⟩
        refine ⟨q, dq, fn, rfl, upd_same, rfl, ?_⟩
        rw [upd_upd]
        have hq' : L2.upd H' dq (.own q) q = none := by rw [upd_ne hne.symm]; exact hq
        have s6 : Same H' (L2.upd (L2.upd H' dq (.own q)) q (.ins (ga K "Filter") dq ([("name", .str fn)] : List (Str × V)))) := Same.tr (Same.nw hdq) (Same.nw hq')
        have yp6 := yp.same s6
        have ok6 := ok.kp (KpT.same (M := fun _ => False) s6) (fun z => z) (fun z => z) (fun z => z)
        have fk6 := fk.same s6
        have f6 : FlOk K (L2.upd (L2.upd H' dq (.own q)) q (.ins (ga K "Filter") dq ([("name", .str fn)] : List (Str × V)))) tg2 (.fil q fn) := ⟨yp.untag hq, dq, upd_same⟩
        generalize L2.upd (L2.upd H' dq (.own q)) q (.ins (ga K "Filter") dq ([("name", .str fn)] : List (Str × V))) = H6 at yp6 ok6 fk6 f6 s6 ⊢
        have hlt : fs.length = min j row.filters.length := by
          have z := congrArg List.length hfs
          rw [List.length_map, List.length_map, List.length_take] at z
          exact z
        have hfewF : row.filters.length ≤ 2 := hrok.fewF
        have hqn : q ∉ fs.map FlR.addr := fun z => by
          obtain ⟨g, hg, e⟩ := List.mem_map.mp z
          exact (ok.fs g hg).live (by rw [e]; exact hq)
        refine ⟨r0.a, _, d6, r0.fl, q, _, fs.map FlR.addr, rfl, s6 _ _ a6, T.cl_Logger, T.no_Logger_filters, (lgF_lk ..).2.2.2.2.2.2.1, ok6.flE, f6.cmp T, fun z hz => ?_, hqn, by rw [List.length_map]; omega, ?_⟩
        · obtain ⟨g, hg, rfl⟩ := List.mem_map.mp hz
          exact (ok6.fs g hg).cmp T
        · have ok7 := ok6.addF f6
          obtain ⟨yp7, kt7⟩ := yp6.lgStep e0 ok7 rfl rfl rfl rfl (Kp.at (.inr (.inl rfl)))
          have fk7 := fk6.kp kt7
          refine ⟨_, fs ++ [.fil q fn], rfl, (by exact yp7), (by exact ok7), (by exact fk7), ?_⟩
          rw [take_nth hfn, List.map_append, List.map_append, hfs]
          rfl
      rintro σ' H6 ⟨o8', fs, rfl, yp6, ok6, fk6, hfs⟩
      rw [List.length_map, List.take_length] at hfs
      -- handlers
      refine ⟨_, rfl, ra, _, rfl, dget (Fg fk6 era) (vr_handlers row hl fl), ?_⟩
      refine ⟨hl, rfl, ⟨_, SqL.of (Fg fk6 ehl)⟩, ?_⟩
      refine for_list (xs := row.handlers.map natV) (fun j σ' H' => ∃ o9 has, σ' = [some (.ref p), some (.ref Y3.y), o1, o2, some (.ref D), some (.str nm), some (.ref r0.a), some (.ref ra), o8', o9] ∧ YardW K H' tg2 (Y2.putLg nm { r0 with level := row.level, prop := row.prop, dis := row.disabled, fs := fs, hs := has }) ∧
        LgOk K H' tg2 Y2.y nm { r0 with level := row.level, prop := row.prop, dis := row.disabled, fs := fs, hs := has } ∧ FrK G H' tg2 ∧ has.map some = (row.handlers.take j).map fun n => (Y3.hds[n]?).map (·.a)) ?_ (fun j σ' H' _ ⟨_, _, _, _, _, f, _⟩ => SqL.of (Fg f ehl)) ?_ ?_
      · exact ⟨_, r0.hs, rfl, yp6, ok6, fk6, by rw [h0]; rfl⟩
      · rintro j v σ' H' hv ⟨o9', has, rfl, yp, ok, fk, hhs⟩
        rw [List.getElem?_map] at hv
        obtain ⟨n, hn, rfl⟩ := Option.map_eq_some_iff.mp hv
        have hnl : n < Y3.hds.length := by
          rw [Paired.length pf3]
          exact hrok.handlers n (List.mem_of_getElem? hn)
        have hY : ∀ (m : Nat) (h : HdR), Y3.hds[m]? = some h → HdOk K H' tg2 (Y2.putLg nm { r0 with level := row.level, prop := row.prop, dis := row.disabled, fs := fs, hs := has }).y m h := fun m h e => yp.hds m h (by rw [put_same.2.1, hh3]; exact e)
        have hcmp : ∀ (m : Nat) (h : HdR), Y3.hds[m]? = some h → RyR.CmpV K H' h.a := fun m h e => by
          obtain ⟨dh, eh⟩ := (hY m h e).aE
          exact .inl ⟨_, dh, _, eh, (hc_of K h.st).cmp T⟩
        have hen : Y3.hds[n]? = some Y3.hds[n] := List.getElem?_eq_getElem hnl
        have hmem : ∀ z ∈ has, ∃ (m : Nat) (h : HdR), m ∈ row.handlers.take j ∧ Y3.hds[m]? = some h ∧ h.a = z := fun z hz => by
          have q : some z ∈ has.map some := List.mem_map.mpr ⟨z, hz, rfl⟩
          rw [hhs] at q
          obtain ⟨m, hm, e⟩ := List.mem_map.mp q
          obtain ⟨h, e1, e2⟩ := Option.map_eq_some_iff.mp e
          exact ⟨m, h, hm, e1, e2⟩
        have hno : Y3.hds[n].a ∉ has := fun z => by
          obtain ⟨m, h, hm, e1, e2⟩ := hmem _ z
          have t1 := (hY m h e1).ta
          rw [e2, (hY n _ hen).ta] at t1
          injection t1 with t1
          injection t1 with t1
          rw [← t1] at hm
          obtain ⟨j', hj', e⟩ := List.getElem_of_mem hm
          rw [List.length_take] at hj'
          rw [List.getElem_take] at e
          have q := nodup_inj hrok.nd (List.getElem?_eq_getElem (show j' < row.handlers.length by omega)) (by rw [e]; exact hn)
          omega
        have hfewH : row.handlers.length ≤ 2 := hrok.fewH
        have hlt : has.length = min j row.handlers.length := by
          have z := congrArg List.length hhs
          rw [List.length_map, List.length_map, List.length_take] at z
          exact z
        obtain ⟨d6, a6⟩ := ok.aE
        have eDh := (fk _ _ gD).1
        refine ⟨_, rfl, r0.a, d6, _, rfl, a6, (lgF_lk ..).2.2.2.2.1, _, rfl, _, rfl, D, _, _, _, rfl, rfl, SqL.of eDh, atI_nat (by rw [List.getElem?_map, hen]; rfl), ?_⟩
        refine ⟨r0.a, d6, r0.hl, Y3.hds[n].a, _, has, rfl, a6, (lgF_lk ..).2.2.2.2.2.2.2, ok.hlE, hcmp n _ hen, fun z hz => ?_, hno, by omega, ?_⟩
        · obtain ⟨m, h, _, e1, e2⟩ := hmem z hz
          rw [← e2]
          exact hcmp m h e1
        · have ok7 := ok.addH Y3.hds[n].a
          obtain ⟨yp7, kt7⟩ := yp.lgStep e0 ok7 rfl rfl rfl rfl (Kp.at (.inr (.inr rfl)))
          have fk7 := fk.kp kt7
          refine ⟨_, has ++ [Y3.hds[n].a], rfl, (by exact yp7), (by exact ok7), (by exact fk7), ?_⟩
          rw [take_nth hn, List.map_append, List.map_append, hhs]
          show _ = _ ++ [(Y3.hds[n]?).map (·.a)]
          rw [hen]
          rfl
      rintro σ' H7 ⟨o9', has, rfl, yp7, ok7, fk7, hhs⟩
      rw [List.length_map, List.take_length] at hhs
      have fit : LgFit Y3.hds { r0 with level := row.level, prop := row.prop, dis := row.disabled, fs := fs, hs := has } row := ⟨rfl, rfl, rfl, hfs, hhs⟩
      obtain ⟨p1, p2, p3, p4, p5, p6⟩ := put_same (Y := Y2) (k := nm) (r := { r0 with level := row.level, prop := row.prop, dis := row.disabled, fs := fs, hs := has })
      have prt := put_rt (Y := Y2) (k := nm) (r := { r0 with level := row.level, prop := row.prop, dis := row.disabled, fs := fs, hs := has })
      have pmem := fun x => put_mem (Y := Y2) (k := nm) (r := { r0 with level := row.level, prop := row.prop, dis := row.disabled, fs := fs, hs := has }) (x := x)
      have pro := put_rows (Y := Y2) (k := nm) (r := { r0 with level := row.level, prop := row.prop, dis := row.disabled, fs := fs, hs := has }) yw2.nd e0 rfl
      have pra := put_rta (Y := Y2) (k := nm) (r := { r0 with level := row.level, prop := row.prop, dis := row.disabled, fs := fs, hs := has }) e0 rfl
      have pke := put_keys (Y := Y2) (k := nm) (r := { r0 with level := row.level, prop := row.prop, dis := row.disabled, fs := fs, hs := has })
      have r0nm : nm = "" → r0 = Y2.root := fun z => by
        subst z
        rw [at_root] at e0
        exact (Option.some.inj e0).symm
      have hall : ∀ x ∈ (Y2.putLg nm { r0 with level := row.level, prop := row.prop, dis := row.disabled, fs := fs, hs := has }).lgs, x.2.par = .ref (parentA Y2.rows Y2.root.a x.1) ∧ ∃ row, (x.1, row) ∈ pl.loggers ∧ LgFit Y3.hds x.2 row := fun x hx => by
        rcases pmem x hx with ⟨ne, rfl⟩ | ⟨hx2, hne⟩
        · rw [at_ne ne] at e0
          exact ⟨(ht2.lgs _ (lookup_mem e0)).1, row, hrow, fit⟩
        · obtain ⟨q1, q2⟩ := ht2.lgs x hx2
          rw [hh3] at q2
          refine ⟨q1, q2 ?_⟩
          by_cases en : nm = ""
          · rw [en]
            exact logMenu_em (yw2.lgs x hx2).2.2
          · exact hne en
      refine ⟨tg2, _, _, _, _, _, _, rfl, yp7, fk7, ⟨p1.trans ht2.y, p3.trans ht2.bar, p4.trans ht2.names, p5.trans ht2.numbers, p2.trans hh3, p6.trans ht2.mkx, ?_, pke.trans ht2.keys, fun x hx => ⟨by rw [pro, pra]; exact (hall x hx).1, fun _ => by rw [p2, hh3]; exact (hall x hx).2⟩, fun z => ?_, fun z => ?_⟩, fun x hx => by rw [p2, hh3]; exact (hall x hx).2⟩
      · rw [prt]
        by_cases en : nm = ""
        · rw [if_pos en]
          show r0.par = .non
          rw [r0nm en]
          exact ht2.rootP
        · rw [if_neg en]
          exact ht2.rootP
      · have en : nm ≠ "" := fun q => z (by rw [← q]; exact hin)
        rw [prt, if_neg en]
        exact ht2.rt0 z
      · rw [p2, hh3, prt]
        by_cases en : nm = ""
        · rw [if_pos en]
          exact ⟨row, by rw [← en]; exact hrow, fit⟩
        · rw [if_neg en]
          have q : ("" : Str) ∈ ys.take i := by
            rw [htk] at z
            rcases List.mem_append.mp z with z | z
            · exact z
            · exact absurd (List.mem_singleton.mp z).symm en
          have w := ht2.rt1 q
          rw [hh3] at w
          exact w
    rintro σ' H7 ⟨tg, Y, o5, o6, o7, o8, o9, rfl, yw, fk, ht, hall⟩
    rw [List.length_map] at ht
    have hyy : Y.y = Y3.y := ht.y
    obtain ⟨dy, ey⟩ := yw.yE
    have eP7 := (fk _ _ (sHG _ _ Wat)).1
    refine ⟨_, rfl, Y3.y, dy, _, rfl, by rw [← hyy]; exact ey, (yd_lk2 ..).2.2.1, _, rfl, p, _, rfl, dget eP7 (vk_bar hs ws lg pl.bar), ?_⟩
    refine ⟨Y3.y, dy, _, pl.bar, rfl, by rw [← hyy]; exact ey, (yd_lk ..).1, csz rfl, ?_⟩
    rw [ydF_bar]
    refine ⟨_, rfl, ?_⟩
    have yw8 := yw.barSet dy pl.bar
    rw [hyy] at yw8
    rw [← hyy]
    refine k tg { Y with bar := pl.bar } ys _ (by rw [hyy]; exact yw8) ⟨rfl, ht.names.trans n3, ht.numbers.trans u3, ht.mkx.trans mx3, ?_, ht.rootP, ?_, hperm, hsrt, ?_, fun x hx => ⟨(ht.lgs x hx).1, hall x hx⟩⟩ ?_
    · show Paired HdFit Y.hds pl.handlers
      rw [ht.hds]
      exact pf3
    · refine ht.rt1 ?_
      rw [List.take_length]
      exact hperm.mem_iff.mpr hok.root
    · have z := ht.keys
      rw [List.take_length] at z
      exact z
    · exact (fk.sub sHG).kp (KpT.at yw.ty rfl)
end
end Ry
namespace Ry
open PySem PySem.Spec PyProof.Rows L2 He RyH
open C8 (pss_cut tCut Cal Met Mak pe_c pe_mk pe_mt pe_mt0 pe_gc)
/-! ### what a judged yard is -/
def FilV (K : PySem.W.Frag) (H : Hp) (v : V) (x : Str) : Prop := ∃ a dx, v = .ref a ∧ H a = some (.ins (ga K "Filter") dx ([("name", .str x)] : List (Str × V)))
def PrtV (K : PySem.W.Frag) (H : Hp) (v : V) : Prop := (∃ x, v = .str x) ∨ ∃ c dx nm, v = .ref c ∧ H c = some (.ins (ga K "Field") dx (fdF nm)) ∧ nm ∈ markMenu
def FmV (K : PySem.W.Frag) (H : Hp) (v : V) : Prop := v = .non ∨ ∃ a dx fx b q dd js, v = .ref a ∧ H a = some (.ins (ga K "Formatter") dx (fmF fx b q dd)) ∧ H q = some (.tup js) ∧ js.length ≤ 2000 ∧ (∀ j ∈ js, PrtV K H j) ∧ H dd = some (.dK [])
theorem FilV.same {K : PySem.W.Frag} {H H' : Hp} {v : V} {x : Str} (h : FilV K H v x) (k : Same H H') : FilV K H' v x := by
  obtain ⟨a, dx, e, e1⟩ := h
  exact ⟨a, dx, e, k _ _ e1⟩
theorem PrtV.same {K : PySem.W.Frag} {H H' : Hp} {v : V} (h : PrtV K H v) (k : Same H H') : PrtV K H' v := by
  rcases h with h | ⟨c, dx, nm, e, e1, hm⟩
  · exact .inl h
  · exact .inr ⟨c, dx, nm, e, k _ _ e1, hm⟩
theorem FmV.same {K : PySem.W.Frag} {H H' : Hp} {v : V} (h : FmV K H v) (k : Same H H') : FmV K H' v := by
  rcases h with h | ⟨a, dx, fx, b, q, dd, js, e, e1, e2, l, hj, e3⟩
  · exact .inl h
  · exact .inr ⟨a, dx, fx, b, q, dd, js, e, k _ _ e1, k _ _ e2, l, fun j hj' => (hj j hj').same k, k _ _ e3⟩
/-- a handler: its level, the names of its Filters -/
structure HW where
  level : Int
  fs : List Str
def HdV (K : PySem.W.Frag) (H : Hp) (v : V) (x : HW) : Prop := ∃ a C dx fs fl ys fm, v = .ref a ∧ H a = some (.ins C dx fs) ∧ HC K C ∧ lk fs "level" = some (.int x.level) ∧ lk fs "filters" = some (.ref fl) ∧ lk fs "formatter" = some fm ∧ H fl = some (.lst ys) ∧ Paired (FilV K H) ys x.fs ∧ FmV K H fm
/-- a logger: its own name, its level, the names of its Filters, its handlers -/
structure LW where
  own : Str
  level : Int
  fs : List Str
  hs : List HW
def LgV (K : PySem.W.Frag) (H : Hp) (v : V) (x : LW) : Prop := ∃ a dx fs fl hl ys zs p nm, v = .ref a ∧ H a = some (.ins (ga K "Logger") dx fs) ∧ lk fs "level" = some (.int x.level) ∧ lk fs "filters" = some (.ref fl) ∧ lk fs "handlers" = some (.ref hl) ∧ lk fs "parent" = some p ∧ lk fs "name" = some (.str nm) ∧
  ((p = .non ∧ x.own = "") ∨ (∃ r, p = .ref r) ∧ x.own = nm) ∧ H fl = some (.lst ys) ∧ Paired (FilV K H) ys x.fs ∧ H hl = some (.lst zs) ∧ Paired (HdV K H) zs x.hs
theorem HdV.same {K : PySem.W.Frag} {H H' : Hp} {v : V} {x : HW} (h : HdV K H v x) (k : Same H H') : HdV K H' v x := by
  obtain ⟨a, C, dx, fs, fl, ys, fm, e, e1, c, l1, l2, l3, e2, q, f⟩ := h
  exact ⟨a, C, dx, fs, fl, ys, fm, e, k _ _ e1, c, l1, l2, l3, k _ _ e2, Paired.impl q fun _ _ z => z.same k, f.same k⟩
theorem LgV.same {K : PySem.W.Frag} {H H' : Hp} {v : V} {x : LW} (h : LgV K H v x) (k : Same H H') : LgV K H' v x := by
  obtain ⟨a, dx, fs, fl, hl, ys, zs, p, nm, e, e1, l1, l2, l3, l4, l5, o, e2, q2, e3, q3⟩ := h
  exact ⟨a, dx, fs, fl, hl, ys, zs, p, nm, e, k _ _ e1, l1, l2, l3, l4, l5, o, k _ _ e2, Paired.impl q2 fun _ _ z => z.same k, k _ _ e3, Paired.impl q3 fun _ _ z => z.same k⟩
/-- few of all -/
structure HWok (x : HW) : Prop where
  fs : x.fs.length ≤ 100
structure LWok (x : LW) : Prop where
  fs : x.fs.length ≤ 100
  hs : x.hs.length ≤ 100
  each : ∀ h ∈ x.hs, HWok h
def FldV (K : PySem.W.Frag) (H : Hp) (v : V) : Prop := ∃ c dx nm, v = .ref c ∧ H c = some (.ins (ga K "Field") dx (fdF nm)) ∧ nm ∈ markMenu
theorem FldV.same {K : PySem.W.Frag} {H H' : Hp} {v : V} (h : FldV K H v) (k : Same H H') : FldV K H' v := by
  obtain ⟨c, dx, nm, e, e1, hm⟩ := h
  exact ⟨c, dx, nm, e, k _ _ e1, hm⟩
theorem FldV.wr {K : PySem.W.Frag} {H : Hp} {v : V} {D : Addr} {xs ys : List V} (h : FldV K H v) (e : H D = some (.lst xs)) : FldV K (L2.upd H D (.lst ys)) v := by
  obtain ⟨c, dx, nm, e0, e1, hm⟩ := h
  exact ⟨c, dx, nm, e0, (by rw [upd_ne (ne_of e1 e fun z => nomatch z)]; exact e1), hm⟩
def spOwnName (K : PySem.W.Frag) : Sp := fun vs H Q _ => ∃ (v : V) (x : LW), vs = [v] ∧ LgV K H v x ∧ Q (.str x.own) H
def spIsPlain (K : PySem.W.Frag) : Sp := fun vs H Q _ => ∃ (c dx : Addr) (nm : Str), vs = [.ref c] ∧ H c = some (.ins (ga K "Field") dx (fdF nm)) ∧ Q (.bl true) H
def spIsPlainFormat (K : PySem.W.Frag) : Sp := fun vs H Q _ => ∃ (v : V), vs = [v] ∧ FmV K H v ∧ ∀ H', Same H H' → Q (.bl true) H'
def spFirstFunction (K : PySem.W.Frag) : Sp := fun vs H Q _ => ∃ (l : Addr) (ys : List V) (xs : List Str), vs = [.ref l] ∧ H l = some (.lst ys) ∧ Paired (FilV K H) ys xs ∧ ∀ H', Same H H' → Q .non H'
def spOffenceOf (K : PySem.W.Frag) : Sp := fun vs H Q _ => ∃ (v : V) (x : HW), vs = [v] ∧ HdV K H v x ∧ ∀ H', Same H H' → Q .non H'
theorem plain_in : ∀ nm ∈ markMenu, inV (V.str nm) ((["name", "levelno", "levelname", "message"] : List Str).map V.str) = true := by decide +kernel
theorem kit_self {K : PySem.W.Frag} {C : Addr} : PySem.W.kitOne K (.ref C) (.ref C) = some true := if_pos (by simp)
section
variable {P : Program} {w : World} {K : PySem.W.Frag} {mg : Str → Option Value} {base : Heap}
theorem sc_own_name : FnScope ["logger"] ["logger"] (defScope s_own_name) := ⟨rfl, rfl, rfl, by decide +kernel, rfl, by decide +kernel, by decide +kernel⟩
theorem cal_own_name (T : Txt w K mg) : Cal P w K mg base 1 "own_name" (spOwnName K) [] := by
  obtain ⟨fd, F⟩ := T.df_own_name
  refine ⟨_, fd, ["logger"], [], F.ok sc_own_name (fun vs H Q E h => ?_) (fun cdv A outer s H vs Q E hr h => ?_), T.m_own_name, F.kp, F.bindsN (fun _ _ _ _ _ _ us hl => match us, hl with | [_], _ => rfl), .nil⟩
  · obtain ⟨_, _, rfl, _⟩ := h
    rfl
  · obtain ⟨v, x, rfl, hv, k⟩ := h
    refine ⟨_, PSs.nox (pss_one (ps_ret (RyT.pe_cutE (pe_ifExp (pt_cmpR op_isN (pe_fld (pv 0) rfl) pe_non (nomark _)) pe_str (pe_fld (pv 0) rfl))))), ?_⟩
    obtain ⟨a, dx, fs, fl, hl, ys, zs, p, nm, rfl, e1, l1, l2, l3, l4, l5, o, e2, q2, e3, q3⟩ := hv
    refine ⟨fun u H2 => u = .str x.own ∧ H2 = H, ?_, ?_⟩
    · refine ⟨_, rfl, a, _, dx, fs, p, rfl, e1, T.cl_Logger, T.no_Logger_parent, l4, rfl, _, rfl, ?_⟩
      rcases o with ⟨rfl, ow⟩ | ⟨⟨r, rfl⟩, ow⟩
      · refine Eq.mpr (if_pos (decide_eq_true rfl)) ?_
        exact ⟨by rw [ow], rfl⟩
      · refine Eq.mpr (if_neg (by simp)) ?_
        exact ⟨_, rfl, a, _, dx, fs, _, rfl, e1, T.cl_Logger, T.no_Logger_name, l5, by rw [ow], rfl⟩
    · rintro _ _ ⟨rfl, rfl⟩
      exact k

theorem sc_is_plain : FnScope ["field"] ["field"] (defScope s_is_plain) := ⟨rfl, rfl, rfl, by decide +kernel, rfl, by decide +kernel, by decide +kernel⟩
theorem cal_is_plain (T : Txt w K mg) : Cal P w K mg base 1 "is_plain" (spIsPlain K) [] := by
  obtain ⟨fd, F⟩ := T.df_is_plain
  refine ⟨_, fd, ["field"], [], F.ok sc_is_plain (fun vs H Q E h => ?_) (fun cdv A outer s H vs Q E hr h => ?_), T.m_is_plain, F.kp, F.bindsN (fun _ _ _ _ _ _ us hl => match us, hl with | [_], _ => rfl), .nil⟩
  · obtain ⟨_, _, _, rfl, _⟩ := h
    rfl
  · obtain ⟨c, dx, nm, rfl, e, k⟩ := h
    refine ⟨_, PSs.nox (pss_one (ps_ret (pe_and (pe_cmpR op_eq (pe_fld (pv 0) rfl) pe_str (nomark _)) (pe_and (pe_cmpR op_eq (pe_fld (pv 0) rfl) pe_str (nomark _)) (pe_one (pe_cmpR op_eq (pe_fld (pv 0) rfl) pe_int (nomark _))))))), ?_⟩
    refine ⟨_, rfl, c, _, dx, _, _, rfl, e, T.cl_Field, T.no_Field_conversion, rfl, rfl, true, congrArg V.bl (decide_eq_true rfl), iteT ?_⟩
    refine ⟨_, rfl, c, _, dx, _, _, rfl, e, T.cl_Field, T.no_Field_align, rfl, rfl, true, congrArg V.bl (decide_eq_true rfl), iteT ?_⟩
    refine ⟨_, rfl, c, _, dx, _, _, rfl, e, T.cl_Field, T.no_Field_width, rfl, rfl, ?_⟩
    rw [decide_eq_true rfl]
    exact k

theorem sc_is_plain_format : FnScope ["formatter", "fields", "part", "one"] ["formatter"] (defScope s_is_plain_format) := ⟨rfl, rfl, rfl, by decide +kernel, rfl, by decide +kernel, by decide +kernel⟩
theorem cal_is_plain_format (T : Txt w K mg) : Cal P w K mg base 2 "is_plain_format" (spIsPlainFormat K) [] := by
  obtain ⟨fd, F⟩ := T.df_is_plain_format
  have c_is_plain := cal_is_plain (P := P) (base := base) T
  refine ⟨_, fd, ["formatter"], [], F.ok sc_is_plain_format (fun vs H Q E h => ?_) (fun cdv A outer s H vs Q E hr h => ?_), T.m_is_plain_format, F.kp, F.bindsN (fun _ _ _ _ _ _ us hl => match us, hl with | [_], _ => rfl), .nil⟩
  · obtain ⟨_, rfl, _⟩ := h
    rfl
  · obtain ⟨v, rfl, hf, k⟩ := h
    refine ⟨_, PSs.nox (pss_cons (ps_if (pt_cmpR op_isN (pv 0) pe_non (nomark _))
        (pss_one (ps_ret pe_bl))
        pss_nil)
      (pss_cons (ps_setLc (i := 1) (own := [("part", 2)]) rfl sc_is_plain_format.nd rfl rfl (sw_true rfl rfl rfl (by decide +kernel)) (pi_tup (pe_fld (pv 0) rfl)) (blkOk_by (N := ["formatter", "fields", "part", "one"]) (sc := defScope s_is_plain_format) (own := [("part", 2)]) (by decide +kernel)) (fun _ _ _ _ _ => pg_name (i := 2) sc_is_plain_format.nd rfl (Or.inl rfl)) (fun _ _ _ _ _ => pts_one (pt_not (pt_val (pe_callB (id := "isinstance") (r := rIsi K) call_isi (by rfl) T.f_isinstance (by decide +kernel) (pa_cons (pv 2) (pa_cons (pe_bltn (v := .ty "str") (by rfl) T.f_str (by decide +kernel) rfl) pa_nil)))))) (fun _ _ _ _ _ => (pv 2)))
      (pss_one (ps_ret (pe_and (pe_cmpR (op_eqV hr.units) (pe_fld (pv 0) rfl) pe_dnewK (nomark _)) (pe_one (pe_callB (id := "all") (cr_all rfl) (by rfl) T.f_all (by decide +kernel) (pa_cons (pe_lc (own := [("one", 3)]) rfl sc_is_plain_format.nd (pi_list (pv 1)) (blkOk_by (N := ["formatter", "fields", "part", "one"]) (sc := defScope s_is_plain_format) (own := [("one", 3)]) (by decide +kernel)) (fun _ _ _ _ _ => pg_name (i := 3) sc_is_plain_format.nd rfl (Or.inl rfl)) (fun _ _ _ _ _ => pts_nil) (fun _ _ _ _ _ => (pe_and (pe_c c_is_plain hr (by decide) (by rfl) (pa_cons (pv 3) pa_nil)) (pe_one (pe_cmpR (r := rIn K false) op_in_seq (RyS.pe_fldB (K := K) rfl (pv 3) rfl) (pe_gc (by rfl) (T.gv_PLAIN_FIELDS)) rfl))))) pa_nil)))))))), ?_⟩
    rcases hf with rfl | ⟨a, dx, fx, b, q, dd, js, rfl, e1, e2, hl, hj, e3⟩
    · refine ⟨_, rfl, rfl, _, rfl, ?_⟩
      refine Eq.mpr (if_pos (decide_eq_true rfl)) ?_
      exact k H Same.rfl'
    · refine ⟨_, rfl, rfl, _, rfl, ?_⟩
      refine Eq.mpr (if_neg (by simp)) ?_
      refine ⟨_, rfl, a, _, dx, _, _, rfl, e1, T.cl_Formatter, T.no_Formatter_parts, rfl, ?_⟩
      refine ⟨q, rfl, ⟨js, SqT.of e2⟩, ?_⟩
      intro D hD
      refine lc_it (walk_tup (xs := js)) (fun i H' => Same H H' ∧ ∃ xs, H' D = some (.lst xs) ∧ xs.length ≤ i ∧ ∀ x ∈ xs, FldV K H' x) ⟨Same.nw hD, [], upd_same, Nat.zero_le _, fun x h => nomatch h⟩ (fun i H' _ h => SqT.of (h.1 _ _ e2)) ?_ ?_
      · rintro i x H' H3 hi ⟨s1, xs, ex, lx, fx⟩ ⟨rfl, ej⟩
        refine ⟨rfl, ?_⟩
        have hx := (hj x (List.mem_of_getElem? ej)).same s1
        rcases hx with ⟨z, rfl⟩ | ⟨c, d, nm, rfl, ec, hm⟩
        · refine ⟨_, rfl, _, _, _, _, _, rfl, .ty _, .base (.str _), kit_ty (show kitB "str" "str" = some true by decide +kernel), _, rfl, ?_⟩
          refine iteF ?_
          exact ⟨s1, xs, ex, Nat.le_succ_of_le lx, fx⟩
        · have cc := T.cc_Field
          refine ⟨_, rfl, _, _, _, _, _, rfl, .ty _, .base (.ins ec T.cl_Field cc.ha cc.hn cc.htk cc.ob), T.ki_Field_str, _, rfl, ?_⟩
          refine iteT ?_
          refine ⟨_, rfl, xs, ex, by rw [sizeLine_eq]; omega, Same.wr s1 hD, _, upd_same, by rw [List.length_append, List.length_singleton]; omega, fun y hy => ?_⟩
          rcases List.mem_append.mp hy with hy | hy
          · exact (fx y hy).wr ex
          · rw [List.mem_singleton.mp hy]
            exact FldV.wr ⟨c, d, nm, rfl, ec, hm⟩ ex
      rintro H3 ⟨s3, xs, ex, lx, fx⟩
      have lx2 : xs.length ≤ 2000 := Nat.le_trans lx hl
      refine ⟨_, rfl, a, _, dx, _, _, rfl, s3 _ _ e1, T.cl_Formatter, T.no_Formatter_defaults, rfl, fun p hp => ?_⟩
      have s4 := Same.tr s3 (Same.nw (o := .dK []) hp)
      have ex4 : (L2.upd H3 p (.dK [])) D = some (.lst xs) := upd_at ex hp
      have fx4 : ∀ x ∈ xs, FldV K (L2.upd H3 p (.dK [])) x := fun x hx => (fx x hx).same (Same.nw hp)
      refine ⟨0, Nat.zero_le _, .inr ⟨dd, p, [], [], rfl, rfl, s4 _ _ e3, upd_same, rfl, fun _ h => nomatch h⟩, true, rfl, iteT ?_⟩
      generalize L2.upd H3 p (.dK []) = H4 at s4 ex4 fx4 ⊢
      refine ⟨_, rfl, ?_⟩
      refine ⟨D, rfl, ⟨xs, SqL.of ex4⟩, ?_⟩
      intro D2 hD2
      refine lc_list (xs := xs) (fun i H' => Same H4 H' ∧ H' D2 = some (.lst ((List.replicate i true).map V.bl))) ⟨Same.nw hD2, upd_same⟩ (fun i H' _ h => SqL.of (h.1 _ _ ex4)) ?_ ?_
      · rintro i x H' hx ⟨k1, h1⟩
        have hi : i < xs.length := (List.getElem?_eq_some_iff.mp hx).1
        obtain ⟨c, d, nm, rfl, ec, hm⟩ := (fx4 x (List.mem_of_getElem? hx)).same k1
        refine ⟨rfl, ?_⟩
        refine ⟨_, rfl, c, d, nm, rfl, ec, true, rfl, iteT ?_⟩
        refine ⟨_, rfl, c, _, d, _, _, rfl, ec, T.cl_Field, T.no_Field_name, rfl, _, _, rfl, .inr (T.tu_PLAIN_FIELDS _), rfl, rfl, ?_⟩
        refine ⟨_, h1, by rw [List.length_map, List.length_replicate, sizeLine_eq]; omega, Same.wr k1 hD2, ?_⟩
        rw [upd_same, plain_in nm hm, List.replicate_succ', List.map_append]
        rfl
      · rintro H5 ⟨s5, e5⟩
        refine ⟨D2, _, rfl, SqL.of e5, ?_⟩
        have e : (List.replicate xs.length true).all id = true := by simp
        rw [e]
        exact k H5 (Same.tr s4 s5)

theorem sc_first_function : FnScope ["some", "place", "one"] ["some"] (defScope s_first_function) := ⟨rfl, rfl, rfl, by decide +kernel, rfl, by decide +kernel, by decide +kernel⟩
theorem cal_first_function (T : Txt w K mg) : Cal P w K mg base 1 "first_function" (spFirstFunction K) [] := by
  obtain ⟨fd, F⟩ := T.df_first_function
  refine ⟨_, fd, ["some"], [], F.ok sc_first_function (fun vs H Q E h => ?_) (fun cdv A outer s H vs Q E hr h => ?_), T.m_first_function, F.kp, F.bindsN (fun _ _ _ _ _ _ us hl => match us, hl with | [_], _ => rfl), .nil⟩
  · obtain ⟨_, _, _, rfl, _⟩ := h
    rfl
  · obtain ⟨l, ys, xs, rfl, el, q, k⟩ := h
    refine ⟨_, PSs.nox (pss_cons (ps_for PassesOwn.never rfl (pi_enum (by rfl) T.f_enumerate (pa_cons (pv 0) pa_nil)) (pg_tup rfl (pgs_cons (pg_name (i := 1) sc_first_function.nd rfl (Or.inl rfl)) (pgs_cons (pg_name (i := 2) sc_first_function.nd rfl (Or.inl rfl)) pgs_nil)))
        (pss_one (ps_if (pt_not (pt_val (pe_callB (id := "isinstance") call_isi (by rfl) T.f_isinstance (by decide +kernel) (pa_cons (pv 2) (pa_cons (pe_gc (by rfl) (T.gv_Filter)) pa_nil)))))
          (pss_one (ps_ret (pv 1)))
          pss_nil)))
      (pss_one (ps_ret pe_non))), ?_⟩
    refine ⟨_, rfl, ?_⟩
    refine ⟨l, ys, rfl, SqL.of el, ?_⟩
    refine for_it walk_enum (fun i σ' H' => ∃ o1 o2, σ' = [some (.ref l), o1, o2] ∧ Same H H') ⟨_, _, rfl, Same.rfl'⟩ (fun i σ' H' _ ⟨_, _, _, k⟩ => SqL.of (k _ _ el)) ?_ ?_
    · rintro i x σ' H7 H8 hi ⟨o1, o2, rfl, s7⟩ ⟨T', xi, hd, rfl, hT, rfl, e1, e2⟩
      cases e1
      obtain ⟨z, ez, hz⟩ := Paired.nth q e2
      have s8 := Same.tr s7 (Same.nw (o := .tup [V.int (i : Nat), hd]) hT)
      refine ⟨T', _, rfl, SqT.of upd_same, rfl, ?_⟩
      refine ⟨_, _, rfl, _, _, rfl, rfl, ?_⟩
      obtain ⟨a, dx, rfl, ea⟩ := hz.same s8
      have cc := T.cc_Filter
      refine ⟨_, rfl, _, _, _, _, _, rfl, .own _, .base (.ins ea T.cl_Filter cc.ha cc.hn cc.htk cc.ob), kit_self, _, rfl, ?_⟩
      refine iteF ?_
      exact ⟨_, _, rfl, s8⟩
    · rintro σ' H7 ⟨o1, o2, rfl, s7⟩
      exact k H7 s7

theorem sc_offence_of : FnScope ["handler", "place"] ["handler"] (defScope s_offence_of) := ⟨rfl, rfl, rfl, by decide +kernel, rfl, by decide +kernel, by decide +kernel⟩
theorem cal_offence_of (T : Txt w K mg) : Cal P w K mg base 3 "offence_of" (spOffenceOf K) [] := by
  obtain ⟨fd, F⟩ := T.df_offence_of
  have c_first_function := cal_first_function (P := P) (base := base) T
  have c_is_plain_format := cal_is_plain_format (P := P) (base := base) T
  refine ⟨_, fd, ["handler"], [], F.ok sc_offence_of (fun vs H Q E h => ?_) (fun cdv A outer s H vs Q E hr h => ?_), T.m_offence_of, F.kp, F.bindsN (fun _ _ _ _ _ _ us hl => match us, hl with | [_], _ => rfl), .nil⟩
  · obtain ⟨_, _, rfl, _⟩ := h
    rfl
  · obtain ⟨v, x, rfl, hv, k⟩ := h
    refine ⟨_, PSs.nox (pss_cons (ps_if (pt_not (pt_val (pe_callB (id := "isinstance") call_isiT (by rfl) T.f_isinstance (by decide +kernel) (pa_cons (pv 0) (pa_cons (pe_tup (pa_cons (pe_gc (by rfl) (T.gv_StreamHandler)) (pa_cons (pe_gc (by rfl) (T.gv_NullHandler)) pa_nil))) pa_nil)))))
        (pss_one (ps_ret (pe_tup pa_nil)))
        pss_nil)
      (pss_cons (ps_set (i := 1) sc_offence_of.nd rfl (Or.inl rfl) (pe_c c_first_function hr (by decide) (by rfl) (pa_cons (pe_fld (pv 0) rfl) pa_nil)))
      (pss_cons (ps_if (pt_cmpR op_notN (pv 1) pe_non (nomark _))
        (pss_one (ps_ret (pe_tup (pa_cons pe_str (pa_cons (pv 1) pa_nil)))))
        pss_nil)
      (pss_one (ps_ret (RyT.pe_cutE (pe_ifExp (pt_val (pe_c c_is_plain_format hr (by decide) (by rfl) (pa_cons (pe_fld (pv 0) rfl) pa_nil))) pe_non (pe_tup (pa_cons pe_str pa_nil))))))))), ?_⟩
    obtain ⟨a, C, dx, fs, fl, ys, fm, rfl, e1, c, l1, l2, l3, e2, q, f⟩ := hv
    have hc := c.hcls T
    have cc := c.cmp T
    have nf : NoAttr K C "formatter" := by
      rcases c with rfl | rfl
      · exact T.no_StreamHandler_formatter
      · exact T.no_NullHandler_formatter
    have kk : PySem.W.kitAny K (.ref C) [.ref (ga K "StreamHandler"), .ref (ga K "NullHandler")] = some true := by
      rcases c with rfl | rfl
      · exact kitAny_cons kit_self (fun z => nomatch z) (fun _ => rfl)
      · exact kitAny_cons T.k2_NullHandler_StreamHandler (fun _ => kitAny_cons kit_self (fun z => nomatch z) (fun _ => rfl)) (fun _ => rfl)
    refine ⟨_, rfl, ssz rfl, fun t ht => ?_⟩
    have s1 := Same.nw (o := .tup [V.ref (ga K "StreamHandler"), V.ref (ga K "NullHandler")]) ht
    refine ⟨_, t, _, _, _, true, rfl, upd_same, .cons (.own _) (.cons (.own _) .nil), .base (.ins (s1 _ _ e1) hc.cl cc.ha cc.hn cc.htk cc.ob), kk, _, rfl, ?_⟩
    refine iteF ?_
    generalize L2.upd H t _ = H1 at s1 ⊢
    refine ⟨_, rfl, a, _, dx, fs, _, rfl, s1 _ _ e1, hc.cl, hc.filters, l2, ?_⟩
    refine ⟨fl, ys, x.fs, rfl, s1 _ _ e2, Paired.impl q fun _ _ z => z.same s1, fun H2 s2 => ?_⟩
    have s12 := Same.tr s1 s2
    refine ⟨_, rfl, rfl, _, rfl, ?_⟩
    refine Eq.mpr (if_neg (by simp)) ?_
    refine ⟨fun u H3 => u = .non ∧ Same H H3, ?_, ?_⟩
    · refine ⟨_, rfl, a, _, dx, fs, _, rfl, s12 _ _ e1, hc.cl, nf, l3, ?_⟩
      refine ⟨fm, rfl, f.same s12, fun H3 s3 => ⟨true, rfl, iteT ⟨rfl, Same.tr s12 s3⟩⟩⟩
    · rintro _ H3 ⟨rfl, s3⟩
      exact k H3 s3

end
end Ry
namespace Ry
open PySem PySem.Spec PyProof.Rows L2 He RyH
open C8 (pss_cut tCut Cal Met Mak pe_c pe_mk pe_mt pe_mt0 pe_gc)
/-! ### a judged yard -/
structure YW where
  bar : Int
  words : List Int
  root : LW
  rows : List (Str × LW)
structure YWok (x : YW) : Prop where
  words : x.words.length ≤ 100
  root : LWok x.root
  rows : x.rows.length ≤ 40
  each : ∀ z ∈ x.rows, LWok z.2
def YdW (K : PySem.W.Frag) (H : Hp) (y : Addr) (x : YW) : Prop := ∃ dy fy r lm no rws nkv, H y = some (.ins (ga K "Yard") dy fy) ∧ lk fy "bar_level" = some (.int x.bar) ∧ lk fy "root" = some (.ref r) ∧ lk fy "logger_map" = some (.ref lm) ∧ lk fy "names_of" = some (.ref no) ∧ lk fy "loggers" = none ∧
  H lm = some (.dK (rws.map rowE)) ∧ H no = some (.dK nkv) ∧ nkv.map (·.1) = x.words.map Sum.inl ∧ LgV K H (.ref r) x.root ∧ (rws.map (·.1)).Nodup ∧ Paired (fun (a : Str × Addr) (z : Str × LW) => a.1 = z.1 ∧ LgV K H (.ref a.2) z.2) rws x.rows
theorem YdW.same {K : PySem.W.Frag} {H H' : Hp} {y : Addr} {x : YW} (h : YdW K H y x) (k : Same H H') : YdW K H' y x := by
  obtain ⟨dy, fy, r, lm, no, rws, nkv, ey, l1, l2, l3, l4, l5, elm, eno, ek, hr, hnd, hP⟩ := h
  exact ⟨dy, fy, r, lm, no, rws, nkv, k _ _ ey, l1, l2, l3, l4, l5, k _ _ elm, k _ _ eno, ek, hr.same k, hnd, Paired.impl hP fun _ _ z => ⟨z.1, z.2.same k⟩⟩
def spAllLoggers (K : PySem.W.Frag) : Sp := fun vs H Q _ => ∃ (y : Addr) (x : YW) (H0 : Hp), vs = [.ref y] ∧ YdW K H0 y x ∧ Same H0 H ∧ YWok x ∧
  ∀ p ws (lws : List LW) H', Same H H' → H p = none → H' p = some (.lst ws) → Paired (LgV K H0) ws (x.root :: lws) → lws.Perm (x.rows.map (·.2)) → Q (.ref p) H'
def spOffence (K : PySem.W.Frag) : Sp := fun vs H Q _ => ∃ (y : Addr) (x : YW), vs = [.ref y] ∧ YdW K H y x ∧ YWok x ∧ ∀ H', Same H H' → Q .non H'
/-- a list or a tuple -/
def SqA (H : Hp) (p : Addr) (ws : List V) : Prop := H p = some (.lst ws) ∨ H p = some (.tup ws)
theorem SqA.same {H H' : Hp} {p : Addr} {ws : List V} (h : SqA H p ws) (k : Same H H') : SqA H' p ws := h.imp (k _ _) (k _ _)
def YdsW (K : PySem.W.Frag) (H : Hp) (p : Addr) (xs : List YW) : Prop := ∃ ys : List Addr, SqA H p (ys.map V.ref) ∧ Paired (YdW K H) ys xs ∧ ∀ x ∈ xs, YWok x
def spCheckJudged (K : PySem.W.Frag) : Sp := fun vs H Q _ => ∃ (p : Addr) (xs : List YW), vs = [.ref p] ∧ YdsW K H p xs ∧ ∀ H', Same H H' → Q .non H'
/-- the logger of a name -/
def rowL (rows : List (Str × LW)) (k : Str) : LW := (rows.lookup k).getD ⟨"", 0, [], []⟩
theorem keys_eq {K : PySem.W.Frag} {H : Hp} : ∀ {rws : List (Str × Addr)} {rows : List (Str × LW)}, Paired (fun (a : Str × Addr) (z : Str × LW) => a.1 = z.1 ∧ LgV K H (.ref a.2) z.2) rws rows → rws.map (·.1) = rows.map (·.1)
  | _, _, .nil => rfl
  | _, _, .cons r t => by rw [List.map_cons, List.map_cons, r.1, keys_eq t]
theorem rowL_at {rows : List (Str × LW)} {j : Nat} {z : Str × LW} {k : Str} (nd : (rows.map (·.1)).Nodup) (e : rows[j]? = some z) (h : k = z.1) : rowL rows k = z.2 := by
  unfold rowL
  rw [h, lookup_nd nd e]
  rfl
section
variable {P : Program} {w : World} {K : PySem.W.Frag} {mg : Str → Option Value} {base : Heap}
theorem sc_all_loggers : FnScope ["yard", "name"] ["yard"] (defScope s_all_loggers) := ⟨rfl, rfl, rfl, by decide +kernel, rfl, by decide +kernel, by decide +kernel⟩
theorem cal_all_loggers (T : Txt w K mg) : Cal P w K mg base 2 "all_loggers" (spAllLoggers K) [] := by
  obtain ⟨fd, F⟩ := T.df_all_loggers
  have c_Yard_loggers := met_Yard_loggers (P := P) (base := base) T
  refine ⟨_, fd, ["yard"], [], F.ok sc_all_loggers (fun vs H Q E h => ?_) (fun cdv A outer s H vs Q E hr h => ?_), T.m_all_loggers, F.kp, F.bindsN (fun _ _ _ _ _ _ us hl => match us, hl with | [_], _ => rfl), .nil⟩
  · obtain ⟨_, _, _, rfl, _⟩ := h
    rfl
  · obtain ⟨y, x, H0, rfl, hv, s0, hok, k⟩ := h
    refine ⟨_, PSs.nox (pss_one (ps_ret (pe_op op_cat (pe_lst (pa_cons (pe_fld (pv 0) rfl) pa_nil)) (pe_lc (own := [("name", 1)]) rfl sc_all_loggers.nd (pi_list (pe_mt0 c_Yard_loggers hr (by decide) (pv 0))) (blkOk_by (N := ["yard", "name"]) (sc := defScope s_all_loggers) (own := [("name", 1)]) (by decide +kernel)) (fun _ _ _ _ _ => pg_name (i := 1) sc_all_loggers.nd rfl (Or.inl rfl)) (fun _ _ _ _ _ => pts_nil) (fun _ _ _ _ _ => (pe_dget (hu_of hr) (RyS.pe_fldB (K := K) rfl (pv 0) rfl) (pv 1) (fun _ _ => rfl))))))), ?_⟩
    have hv0 := hv
    obtain ⟨dy, fy, r, lm, no, rws, nkv, ey, l1, l2, l3, l4, l5, elm, eno, ek, hr0, hnd, hP⟩ := hv
    replace ey := s0 _ _ ey
    replace elm := s0 _ _ elm
    have hrl : rws.length = x.rows.length := Paired.length hP
    have h40 := hok.rows
    refine ⟨_, rfl, y, _, dy, fy, _, rfl, ey, T.cl_Yard, T.no_Yard_root, l2, ?_⟩
    refine ⟨ssz rfl, fun q hq => ?_⟩
    have s1 := Same.nw (o := .lst [V.ref r]) hq
    have eq1 := upd_same (H := H) (a := q) (o := .lst [V.ref r])
    generalize L2.upd H q _ = H1 at s1 eq1 ⊢
    refine ⟨_, rfl, y, dy, fy, rfl, s1 _ _ ey, l5, ?_⟩
    refine ⟨y, lm, fy, rws, rfl, ⟨dy, s1 _ _ ey⟩, l3, s1 _ _ elm, by omega, fun p1 ys hp1 hperm hsort => ?_⟩
    have s2 := Same.tr s1 (Same.nw (o := .lst (ys.map V.str)) hp1)
    have eq2 := upd_at (p := p1) (o := .lst (ys.map V.str)) eq1 hp1
    have e2 := upd_same (H := H1) (a := p1) (o := .lst (ys.map V.str))
    generalize L2.upd H1 p1 _ = H2 at s2 eq2 e2 ⊢
    refine ⟨p1, rfl, ⟨_, SqL.of e2⟩, ?_⟩
    intro D hD
    have hyl : ys.length = rws.length := by rw [hperm.length_eq, List.length_map]
    have hDH : H D = none := Same.was s2 hD
    refine lc_list (xs := ys.map V.str) (fun i H' => Same H2 H' ∧ ∃ xs, H' D = some (.lst xs) ∧ Paired (LgV K H0) xs ((ys.take i).map (rowL x.rows))) ⟨Same.nw hD, [], upd_same, .nil⟩ (fun i H' _ h => SqL.of (h.1 _ _ e2)) ?_ ?_
    · rintro i z H' hz ⟨k1, xs, ex, qx⟩
      rw [List.getElem?_map] at hz
      obtain ⟨nm, en, rfl⟩ := Option.map_eq_some_iff.mp hz
      have hi : i < ys.length := (List.getElem?_eq_some_iff.mp en).1
      obtain ⟨ra, hra, rfl⟩ := List.mem_map.mp (hperm.mem_iff.mp (List.mem_of_getElem? en))
      obtain ⟨j, hj, ej⟩ := List.mem_iff_getElem.mp hra
      have er : rws[j]? = some ra := by rw [List.getElem?_eq_getElem hj, ej]
      obtain ⟨z, ez, hk, hat⟩ := Paired.nth hP er
      have hlk : valV (rws.map rowE) (kS ra.1) = some (.ref ra.2) := by
        rw [valV_row, lookup_nd hnd er]
        rfl
      have hf : rowL x.rows ra.1 = z.2 := rowL_at (by rw [← keys_eq hP]; exact hnd) ez hk
      refine ⟨rfl, ?_⟩
      dsimp only [tYes]
      rw [if_pos rfl]
      refine ⟨_, rfl, y, _, dy, fy, _, rfl, k1 _ _ (s2 _ _ ey), T.cl_Yard, T.no_Yard_logger_map, l3, _, rfl, lm, .ref ra.2, rfl, .inl ⟨_, kS ra.1, .inl (k1 _ _ (s2 _ _ elm)), rfl, hlk.symm⟩, ?_⟩
      have lx := Paired.length qx
      rw [List.length_map, List.length_take] at lx
      refine ⟨xs, ex, by rw [sizeLine_eq]; omega, Same.wr k1 hD, _, upd_same, ?_⟩
      rw [take_nth en, List.map_append]
      refine Paired.snoc ?_ qx
      rw [hf]
      exact hat
    rintro H3 ⟨k3, xs, ex, qx⟩
    rw [List.length_map, List.take_length] at qx
    have lx := Paired.length qx
    rw [List.length_map] at lx
    refine ⟨q, D, _, _, rfl, rfl, k3 _ _ eq2, ex, by rw [List.length_singleton, sizeLine_eq]; omega, fun p hp => ?_⟩
    have s4 := Same.tr s2 (Same.tr k3 (Same.nw (o := .lst ([V.ref r] ++ xs)) hp))
    refine k p _ (ys.map (rowL x.rows)) _ s4 (Same.was (Same.tr s2 k3) hp) upd_same (.cons hr0 qx) ?_
    have e : (x.rows.map (·.1)).map (rowL x.rows) = x.rows.map (·.2) := by
      rw [List.map_map]
      refine List.map_congr_left fun z hz => ?_
      obtain ⟨j, hj, ej⟩ := List.mem_iff_getElem.mp hz
      exact rowL_at (by rw [← keys_eq hP]; exact hnd) (by rw [List.getElem?_eq_getElem hj, ej]) rfl
    rw [← e, ← keys_eq hP]
    exact hperm.map _

theorem sc_offence : FnScope ["yard", "logger", "place", "handler", "found"] ["yard"] (defScope s_offence) := ⟨rfl, rfl, rfl, by decide +kernel, rfl, by decide +kernel, by decide +kernel⟩
theorem cal_offence (T : Txt w K mg) : Cal P w K mg base 4 "offence" (spOffence K) [] := by
  obtain ⟨fd, F⟩ := T.df_offence
  have c_all_loggers := cal_all_loggers (P := P) (base := base) T
  have c_first_function := cal_first_function (P := P) (base := base) T
  have c_own_name := cal_own_name (P := P) (base := base) T
  have c_offence_of := cal_offence_of (P := P) (base := base) T
  refine ⟨_, fd, ["yard"], [], F.ok sc_offence (fun vs H Q E h => ?_) (fun cdv A outer s H vs Q E hr h => ?_), T.m_offence, F.kp, F.bindsN (fun _ _ _ _ _ _ us hl => match us, hl with | [_], _ => rfl), .nil⟩
  · obtain ⟨_, _, rfl, _⟩ := h
    rfl
  · obtain ⟨y, x, rfl, hv, hok, k⟩ := h
    refine ⟨_, PSs.nox (pss_cons (ps_for PassesOwn.never rfl (pi_list (pe_c c_all_loggers hr (by decide) (by rfl) (pa_cons (pv 0) pa_nil))) (pg_name (i := 1) sc_offence.nd rfl (Or.inl rfl))
        (pss_cons (ps_set (i := 2) sc_offence.nd rfl (Or.inl rfl) (pe_c c_first_function hr (by decide) (by rfl) (pa_cons (pe_fld (pv 1) rfl) pa_nil)))
        (pss_cons (ps_if (pt_cmpR op_notN (pv 2) pe_non (nomark _))
          (pss_one (ps_ret (pe_tup (pa_cons (pe_c c_own_name hr (by decide) (by rfl) (pa_cons (pv 1) pa_nil)) (pa_cons pe_str (pa_cons (pv 2) pa_nil))))))
          pss_nil)
        (pss_one (ps_for PassesOwn.never rfl (pi_enum (by rfl) T.f_enumerate (pa_cons (pe_fld (pv 1) rfl) pa_nil)) (pg_tup rfl (pgs_cons (pg_name (i := 2) sc_offence.nd rfl (Or.inl rfl)) (pgs_cons (pg_name (i := 3) sc_offence.nd rfl (Or.inl rfl)) pgs_nil)))
          (pss_cons (ps_set (i := 4) sc_offence.nd rfl (Or.inl rfl) (pe_c c_offence_of hr (by decide) (by rfl) (pa_cons (pv 3) pa_nil)))
          (pss_one (ps_if (pt_cmpR op_notN (pv 4) pe_non (nomark _))
            (pss_one (ps_ret (pe_op op_catT (pe_tup (pa_cons (pe_c c_own_name hr (by decide) (by rfl) (pa_cons (pv 1) pa_nil)) (pa_cons pe_str (pa_cons (pv 2) pa_nil)))) (pv 4))))
            pss_nil))))))))
      (pss_one (ps_ret pe_non))), ?_⟩
    refine ⟨_, rfl, y, x, H, rfl, hv, Same.rfl', hok, fun p ws lws H1 s1 _ ep q _ => ?_⟩
    refine ⟨p, rfl, ⟨ws, SqL.of ep⟩, ?_⟩
    refine for_list (xs := ws) (fun i σ' H' => ∃ o1 o2 o3 o4, σ' = [some (.ref y), o1, o2, o3, o4] ∧ Same H1 H') ⟨_, _, _, _, rfl, Same.rfl'⟩ (fun i σ' H' _ ⟨_, _, _, _, _, k⟩ => SqL.of (k _ _ ep)) ?_ ?_
    · rintro i z σ' H2 hz ⟨o1, o2, o3, o4, rfl, s2⟩
      obtain ⟨lw, _, hl⟩ := Paired.nth q hz
      obtain ⟨a, dx, fs, fl, hl', ys, zs, p', nm, rfl, e1, l1, l2, l3, l4, l5, o, e2, q2, e3, q3⟩ := hl.same (Same.tr s1 s2)
      refine ⟨_, rfl, a, _, dx, fs, _, rfl, e1, T.cl_Logger, T.no_Logger_filters, l2, ?_⟩
      refine ⟨fl, ys, lw.fs, rfl, e2, q2, fun H3 s3 => ?_⟩
      refine ⟨_, rfl, rfl, _, rfl, Eq.mpr (if_neg (by simp)) ?_⟩
      refine ⟨_, rfl, a, _, dx, fs, _, rfl, s3 _ _ e1, T.cl_Logger, T.no_Logger_handlers, l3, ?_⟩
      refine ⟨hl', zs, rfl, SqL.of (s3 _ _ e3), ?_⟩
      refine for_it walk_enum (fun i σ' H' => ∃ o2 o3 o4, σ' = [some (.ref y), some (.ref a), o2, o3, o4] ∧ Same H3 H') ⟨_, _, _, rfl, Same.rfl'⟩ (fun i σ' H' _ ⟨_, _, _, _, k⟩ => SqL.of (k _ _ (s3 _ _ e3))) ?_ ?_
      · rintro i x' σ' H7 H8 hi ⟨o2, o3, o4, rfl, s7⟩ ⟨T', xi, hd, rfl, hT, rfl, e1', e2'⟩
        cases e1'
        obtain ⟨hw, _, hh⟩ := Paired.nth q3 e2'
        have s8 := Same.tr s7 (Same.nw (o := .tup [V.int (i : Nat), hd]) hT)
        refine ⟨T', _, rfl, SqT.of upd_same, rfl, ?_⟩
        refine ⟨_, _, rfl, _, _, rfl, rfl, ?_⟩
        generalize L2.upd H7 T' _ = H8 at s8 ⊢
        refine ⟨_, rfl, hd, hw, rfl, hh.same (Same.tr s3 s8), fun H9 s9 => ?_⟩
        refine ⟨_, rfl, rfl, _, rfl, Eq.mpr (if_neg (by simp)) ?_⟩
        exact ⟨_, _, _, rfl, Same.tr s8 s9⟩
      · rintro σ' H7 ⟨o2, o3, o4, rfl, s7⟩
        exact ⟨_, _, _, _, rfl, Same.tr s2 (Same.tr s3 s7)⟩
    · rintro σ' H2 ⟨o1, o2, o3, o4, rfl, s2⟩
      exact k H2 (Same.tr s1 s2)

theorem sc_check_judged : FnScope ["yards", "yard", "path"] ["yards"] (defScope s_check_judged) := ⟨rfl, rfl, rfl, by decide +kernel, rfl, by decide +kernel, by decide +kernel⟩
theorem cal_check_judged (T : Txt w K mg) : Cal P w K mg base 5 "check_judged" (spCheckJudged K) [] := by
  obtain ⟨fd, F⟩ := T.df_check_judged
  have c_offence := cal_offence (P := P) (base := base) T
  refine ⟨_, fd, ["yards"], [], F.ok sc_check_judged (fun vs H Q E h => ?_) (fun cdv A outer s H vs Q E hr h => ?_), T.m_check_judged, F.kp, F.bindsN (fun _ _ _ _ _ _ us hl => match us, hl with | [_], _ => rfl), .nil⟩
  · obtain ⟨_, _, rfl, _⟩ := h
    rfl
  · obtain ⟨p, xs, rfl, hv, k⟩ := h
    refine ⟨_, PSs.nox (pss_one (ps_for PassesOwn.never rfl (RyS.pi_seqV (pv 0)) (pg_name (i := 1) sc_check_judged.nd rfl (Or.inl rfl))
        (pss_cons (ps_set (i := 2) sc_check_judged.nd rfl (Or.inl rfl) (pe_c c_offence hr (by decide) (by rfl) (pa_cons (pv 1) pa_nil)))
        (pss_one (ps_if (pt_cmpR op_notN (pv 2) pe_non (nomark _))
          (pss_one ps_never)
          pss_nil))))), ?_⟩
    obtain ⟨ys, hs, q, hok⟩ := hv
    refine ⟨p, ys.map V.ref, rfl, hs.imp SqL.of SqT.of, fun J G w hG => ?_⟩
    refine for_it w (fun i σ' H' => ∃ o1 o2, σ' = [some (.ref p), o1, o2] ∧ Same H H') ⟨_, _, rfl, Same.rfl'⟩ (fun i σ' H' _ ⟨_, _, _, k⟩ => hG _ (k p)) ?_ ?_
    · rintro i z σ' H2 H3 hi ⟨o1, o2, rfl, s2⟩ ⟨rfl, hz⟩
      rw [List.getElem?_map] at hz
      obtain ⟨y, ey, rfl⟩ := Option.map_eq_some_iff.mp hz
      obtain ⟨x, ex, hy⟩ := Paired.nth q ey
      refine ⟨_, rfl, y, x, rfl, hy.same s2, hok x (List.mem_of_getElem? ex), fun H3 s3 => ?_⟩
      refine ⟨_, rfl, rfl, _, rfl, Eq.mpr (if_neg (by simp)) ?_⟩
      exact ⟨_, _, rfl, Same.tr s2 s3⟩
    · rintro σ' H2 ⟨o1, o2, rfl, s2⟩
      exact k H2 s2

end
end Ry
namespace Ry
open PySem PySem.Spec PyProof.Rows L2 He RyH
open C8 (pss_cut tCut Cal Met Mak pe_c pe_mk pe_mt pe_mt0 pe_gc)
/-- a plan, wherever its parts stand -/
def PlT (H : Hp) (p : Addr) (pl : Pl) : Prop := PlanAt (fun _ => True) H p pl
/-! ### the beginnings of a name -/
def nmMenu : List Str := ("" : Str) :: (logMenu ++ nameMenu)
def prefs (x : Str) : List Str := (List.range (Txt.split x ".").length).map fun k => Txt.join "." ((Txt.split x ".").take (k + 1))
def pMenu : List Str := nmMenu.flatMap prefs
theorem Paired.app' {α β : Type} {F : α → β → Prop} : ∀ {xs : List α} {ys : List β} {xs' : List α} {ys' : List β}, Paired F xs ys → Paired F xs' ys' → Paired F (xs ++ xs') (ys ++ ys')
  | _, _, _, _, .nil, h => h
  | _, _, _, _, .cons r t, h => .cons r (Paired.app' t h)
end Ry
namespace Ry
open PySem PySem.Spec PyProof.Rows L2 He RyH
open C8 (pss_cut tCut Cal Met Mak pe_c pe_mk pe_mt pe_mt0 pe_gc)
/-! ### the view of a yard that was made of a plan -/
def rowOf (pl : Pl) (k : Str) : RP := (pl.loggers.lookup k).getD ⟨0, true, [], [], false⟩
theorem rowOf_eq {pl : Pl} {k : Str} {r : RP} (nd : (pl.loggers.map (·.1)).Nodup) (h : (k, r) ∈ pl.loggers) : rowOf pl k = r := by
  unfold rowOf
  rw [mem_lookup nd h]
  rfl
theorem paired_maps {α β γ δ : Type} {F : γ → δ → Prop} {f : α → γ} {g : β → δ} : ∀ {xs : List α} {ys : List β} {G : α → β → Prop}, Paired G xs ys → (∀ x y, G x y → F (f x) (g y)) → Paired F (xs.map f) (ys.map g)
  | _, _, _, .nil, _ => .nil
  | _, _, _, .cons r t, h => .cons (h _ _ r) (paired_maps t h)
theorem paired_same {α γ δ : Type} {F : γ → δ → Prop} {f : α → γ} {g : α → δ} : ∀ {xs : List α}, (∀ x ∈ xs, F (f x) (g x)) → Paired F (xs.map f) (xs.map g)
  | [], _ => .nil
  | x :: xs, h => .cons (h x (List.mem_cons_self ..)) (paired_same fun y hy => h y (List.mem_cons_of_mem _ hy))
theorem paired_some {α β : Type} {g : β → Option α} : ∀ {xs : List α} {ys : List β}, xs.map some = ys.map g → Paired (fun x y => g y = some x) xs ys
  | [], [], _ => .nil
  | x :: xs, y :: ys, h => by
    rw [List.map_cons, List.map_cons] at h
    injection h with h1 h2
    exact .cons h1.symm (paired_some h2)
  | [], y :: ys, h => by cases h
  | x :: xs, [], h => by cases h
theorem fil_of {K : PySem.W.Frag} {H : Hp} {tg : Addr → Option Tg} : ∀ {fs : List FlR} {xs : List Str}, fs.map FlR.nm = xs.map some → (∀ f ∈ fs, FlOk K H tg f) → Paired (FilV K H) ((fs.map FlR.addr).map V.ref) xs
  | [], [], _, _ => .nil
  | f :: fs, x :: xs, h, ok => by
    rw [List.map_cons, List.map_cons] at h
    injection h with h1 h2
    refine .cons ?_ (fil_of h2 fun g hg => ok g (List.mem_cons_of_mem _ hg))
    have o := ok f (List.mem_cons_self ..)
    cases f with
    | fil a y =>
      obtain ⟨_, dx, e⟩ := o
      cases Option.some.inj h1
      exact ⟨a, dx, rfl, e⟩
    | fn a => cases h1
  | [], x :: xs, h, _ => by cases h
  | f :: fs, [], h, _ => by cases h
/-! ### the parts of a format -/
theorem tx_cps (x : Str) : tx x.cps.toList = x := by
  obtain ⟨c⟩ := x
  show (⟨c.toList.toArray⟩ : Str) = ⟨c⟩
  rw [Array.toArray_toList]
theorem joinStep_le1 (acc : List JP) (t : Tk) : (joinStep acc t).length ≤ acc.length + 1 := by
  unfold joinStep
  split
  · rw [List.length_append, List.length_dropLast, List.length_singleton]
    omega
  · rw [List.length_append, List.length_singleton]
    omega
  · rw [List.length_append, List.length_singleton]
    omega
theorem joinF_len : ∀ (ts : List Tk) (acc : List JP), (ts.foldl joinStep acc).length ≤ acc.length + ts.length
  | [], acc => Nat.le_refl _
  | t :: ts, acc => by
    have z := joinF_len ts (joinStep acc t)
    have y := joinStep_le1 acc t
    rw [List.foldl_cons, List.length_cons]
    omega
theorem joinT_len (ts : List Tk) : (joinT ts).length ≤ ts.length := by
  have z := joinF_len ts []
  rw [List.length_nil] at z
  unfold joinT
  omega
theorem joinStep_fld {acc : List JP} {t : Tk} {nm : List Nat} (h : JP.fld nm ∈ joinStep acc t) : JP.fld nm ∈ acc ∨ t = .fld nm := by
  unfold joinStep at h
  split at h
  · rcases List.mem_append.mp h with h | h
    · exact .inl (List.dropLast_subset _ h)
    · cases List.mem_singleton.mp h
  · rcases List.mem_append.mp h with h | h
    · exact .inl h
    · cases List.mem_singleton.mp h
  · rcases List.mem_append.mp h with h | h
    · exact .inl h
    · cases List.mem_singleton.mp h
      exact .inr rfl
theorem joinF_fld {nm : List Nat} : ∀ {ts : List Tk} {acc : List JP}, JP.fld nm ∈ ts.foldl joinStep acc → JP.fld nm ∈ acc ∨ Tk.fld nm ∈ ts
  | [], acc, h => .inl h
  | t :: ts, acc, h => by
    rw [List.foldl_cons] at h
    rcases joinF_fld h with h | h
    · rcases joinStep_fld h with h | rfl
      · exact .inl h
      · exact .inr (List.mem_cons_self ..)
    · exact .inr (List.mem_cons_of_mem _ h)
theorem fld_menu {ps : List FP} (h : ∀ p ∈ ps, p.ok) {nm : List Nat} (hm : JP.fld nm ∈ joinT (toks ps)) : tx nm ∈ markMenu := by
  rcases joinF_fld (acc := []) hm with z | z
  · cases z
  · obtain ⟨p, hp, hq⟩ := List.mem_flatMap.mp z
    cases p with
    | txt x =>
      obtain ⟨c, _, e⟩ := List.mem_map.mp hq
      cases e
    | mark x =>
      cases List.mem_singleton.mp hq
      rw [tx_cps]
      exact h _ hp
theorem paired_mem {α β : Type} {F : α → β → Prop} : ∀ {xs : List α} {ys : List β} {x : α}, Paired F xs ys → x ∈ xs → ∃ y ∈ ys, F x y
  | _, _, _, .nil, h => by cases h
  | _, _, _, .cons r t, h => by
    rcases List.mem_cons.mp h with rfl | h
    · exact ⟨_, List.mem_cons_self .., r⟩
    · obtain ⟨y, hy, f⟩ := paired_mem t h
      exact ⟨y, List.mem_cons_of_mem _ hy, f⟩
theorem FmT.v {K : PySem.W.Frag} {H : Hp} {tg : Addr → Option Tg} {a dd : Addr} {b : Bool} {ps : List FP} (h : FmT K H tg a b ps dd) (hp : ∀ p ∈ ps, p.ok) (hl : ps.length ≤ 100) : FmV K H (.ref a) := by
  obtain ⟨dx, q, js, _, _, _, e1, e2, pj, e3⟩ := h
  refine .inr ⟨a, dx, _, b, q, dd, js, rfl, e1, e2, ?_, fun j hj => ?_, e3⟩
  · rw [Paired.length pj]
    exact Nat.le_trans (joinT_len _) (toks_len (b := true) hp hl).2
  · obtain ⟨y, hy, f⟩ := paired_mem pj hj
    cases y with
    | txt l => exact .inl ⟨_, f⟩
    | fld nm =>
      obtain ⟨c, d, e, _, e4⟩ := f
      exact .inr ⟨c, d, tx nm, e, e4, fld_menu hp hy⟩
section
variable {K : PySem.W.Frag}
theorem lgF_lk3 (y fl : Addr) (nm : Str) (lv : Int) (pr di : Bool) (hl : Addr) (pa : V) : lk (lgF y fl nm lv pr di hl pa) "level" = some (.int lv) ∧ lk (lgF y fl nm lv pr di hl pa) "filters" = some (.ref fl) ∧ lk (lgF y fl nm lv pr di hl pa) "handlers" = some (.ref hl) ∧ lk (lgF y fl nm lv pr di hl pa) "parent" = some pa ∧ lk (lgF y fl nm lv pr di hl pa) "name" = some (.str nm) := ⟨by kernel_rfl, by kernel_rfl, by kernel_rfl, by kernel_rfl, by kernel_rfl⟩
theorem hdFs_lk3 (y : Addr) (h : HdR) : lk (hdFs y h) "level" = some (.int h.level) ∧ lk (hdFs y h) "filters" = some (.ref h.fl) ∧ lk (hdFs y h) "formatter" = some (fmtVal h.fmt) := by
  obtain ⟨a, fl, st, lv, tm, fm, nm, cl, fs⟩ := h
  cases st <;> exact ⟨by kernel_rfl, by kernel_rfl, by kernel_rfl⟩
end
end Ry
namespace Ry
open PySem PySem.Spec PyProof.Rows L2 He RyH
open C8 (pss_cut tCut Cal Met Mak pe_c pe_mk pe_mt pe_mt0 pe_gc)
/-! ### what of a yard tells the outcomes of records -/
structure HX where
  level : Int
  fs : List Str
  null : Bool
  stream : Str
  term : Str
  fmt : Option (List FP)
structure LX where
  level : Int
  fs : List Str
  prop : Bool
  dis : Bool
  hs : List HX
structure Mdl where
  bar : Int
  nm : List (Int × Str)
  keys : List Str
  lg : Str → LX
def FmX (K : PySem.W.Frag) (H : Hp) (v : V) : Option (List FP) → Prop
  | none => v = .non
  | some ps => ∃ a dx fx b q dd js, v = .ref a ∧ H a = some (.ins (ga K "Formatter") dx (fmF fx b q dd)) ∧ H q = some (.tup js) ∧ Paired (JAt K H) js (joinT (toks ps)) ∧ H dd = some (.dK [])
def HdX (K : PySem.W.Frag) (H : Hp) (v : V) (x : HX) : Prop := ∃ a dx fs fl ys fm, v = .ref a ∧ H a = some (.ins (ga K (if x.null = true then "NullHandler" else "StreamHandler")) dx fs) ∧ lk fs "level" = some (.int x.level) ∧ lk fs "filters" = some (.ref fl) ∧ lk fs "formatter" = some fm ∧
  lk fs "terminator" = some (.str x.term) ∧ (x.null = false → lk fs "stream" = some (.str x.stream)) ∧ H fl = some (.lst ys) ∧ Paired (FilV K H) ys x.fs ∧ FmX K H fm x.fmt
def LgX (K : PySem.W.Frag) (H : Hp) (a : Addr) (nm : Str) (par : V) (x : LX) : Prop := ∃ dx fs fl hl ys zs, H a = some (.ins (ga K "Logger") dx fs) ∧ lk fs "name" = some (.str nm) ∧ lk fs "level" = some (.int x.level) ∧ lk fs "propagate" = some (.bl x.prop) ∧ lk fs "disabled" = some (.bl x.dis) ∧
  lk fs "filters" = some (.ref fl) ∧ lk fs "handlers" = some (.ref hl) ∧ lk fs "parent" = some par ∧ H fl = some (.lst ys) ∧ Paired (FilV K H) ys x.fs ∧ H hl = some (.lst zs) ∧ Paired (HdX K H) zs x.hs ∧ lk fs "getEffectiveLevel" = none ∧ lk fs "reached" = none
theorem FmX.same {K : PySem.W.Frag} {H H' : Hp} {v : V} {o : Option (List FP)} (h : FmX K H v o) (k : Same H H') : FmX K H' v o := by
  cases o with
  | none => exact h
  | some ps =>
    obtain ⟨a, dx, fx, b, q, dd, js, e, e1, e2, p, e3⟩ := h
    exact ⟨a, dx, fx, b, q, dd, js, e, k _ _ e1, k _ _ e2, Paired.impl p fun _ _ z => z.same k, k _ _ e3⟩
theorem HdX.same {K : PySem.W.Frag} {H H' : Hp} {v : V} {x : HX} (h : HdX K H v x) (k : Same H H') : HdX K H' v x := by
  obtain ⟨a, dx, fs, fl, ys, fm, e, e1, l1, l2, l3, l4, l5, e2, q, f⟩ := h
  exact ⟨a, dx, fs, fl, ys, fm, e, k _ _ e1, l1, l2, l3, l4, l5, k _ _ e2, Paired.impl q fun _ _ z => z.same k, f.same k⟩
theorem LgX.same {K : PySem.W.Frag} {H H' : Hp} {a : Addr} {nm : Str} {par : V} {x : LX} (h : LgX K H a nm par x) (k : Same H H') : LgX K H' a nm par x := by
  obtain ⟨dx, fs, fl, hl, ys, zs, e1, l1, l2, l3, l4, l5, l6, l7, e2, q2, e3, q3, l8⟩ := h
  exact ⟨dx, fs, fl, hl, ys, zs, k _ _ e1, l1, l2, l3, l4, l5, l6, l7, k _ _ e2, Paired.impl q2 fun _ _ z => z.same k, k _ _ e3, Paired.impl q3 fun _ _ z => z.same k, l8⟩
/-! ### the way up -/
def ups (n : Str) : List Str := if n = "" then [] else (prefs n).reverse
def way (keys : List Str) (n : Str) : List Str := (ups n).filter (fun k => decide (k ∈ keys)) ++ [("" : Str)]
def up1 (keys : List Str) (n : Str) : Str := (((ups n).drop 1).filter (fun k => decide (k ∈ keys)) ++ [("" : Str)]).headD ""
def nmOkB (n : Str) : Bool := decide ((ups n).length ≤ 20) && (List.range (ups n).length).all fun i => match (ups n)[i]? with
  | some p => decide (ups p = (ups n).drop i) && (decide (p ≠ "") && (decide ((RyV.rpart p ".").1 = ((ups n).drop (i + 1)).headD "") && (decide (p.length ≤ 1000) && decide (((Txt.split p ".").map (·.length)).sum ≤ 500))))
  | none => true
structure NmOk (n : Str) : Prop where
  few : (ups n).length ≤ 20
  at_ : ∀ i p, (ups n)[i]? = some p → ups p = (ups n).drop i ∧ p ≠ "" ∧ (RyV.rpart p ".").1 = ((ups n).drop (i + 1)).headD "" ∧ p.length ≤ 1000 ∧ ((Txt.split p ".").map (·.length)).sum ≤ 500
  self : n ≠ "" → (ups n)[0]? = some n
theorem nm_ok_of {n : Str} (h : nmOkB n = true) (hs : n ≠ "" → (ups n)[0]? = some n) : NmOk n := by
  unfold nmOkB at h
  obtain ⟨h1, h2⟩ := Bool.and_eq_true_iff.mp h
  refine ⟨of_decide_eq_true h1, fun i p e => ?_, hs⟩
  have hi : i < (ups n).length := (List.getElem?_eq_some_iff.mp e).1
  have z := List.all_eq_true.mp h2 i (List.mem_range.mpr hi)
  rw [e] at z
  obtain ⟨a, z⟩ := Bool.and_eq_true_iff.mp z
  obtain ⟨b, z⟩ := Bool.and_eq_true_iff.mp z
  obtain ⟨c, z⟩ := Bool.and_eq_true_iff.mp z
  obtain ⟨d, e⟩ := Bool.and_eq_true_iff.mp z
  exact ⟨of_decide_eq_true a, of_decide_eq_true b, of_decide_eq_true c, of_decide_eq_true d, of_decide_eq_true e⟩
def recMenu : List Str := ["", "a", "b", "a.b", "a.b.c", "a.b.c.d", "b.c", "c", "a.d", "ab", "z", "a.z", "b.c.c", "abcd", "q", "a.q"]
theorem recMenu_ok : ∀ n ∈ recMenu, nmOkB n = true ∧ (n ≠ "" → (ups n)[0]? = some n) := by decide +kernel
theorem logMenu_ok : ∀ n ∈ logMenu, nmOkB n = true ∧ (n ≠ "" → (ups n)[0]? = some n) := by decide +kernel
theorem nm_rec {n : Str} (h : n ∈ recMenu) : NmOk n := nm_ok_of (recMenu_ok n h).1 (recMenu_ok n h).2
theorem nm_log {n : Str} (h : n ∈ logMenu) : NmOk n := nm_ok_of (logMenu_ok n h).1 (logMenu_ok n h).2
theorem ups_root : ups "" = [] := if_pos rfl
theorem way_root (keys : List Str) : way keys "" = [("" : Str)] := by
  unfold way
  rw [ups_root]
  rfl
/-- the way from one of the names that are passed -/
theorem NmOk.sub {n : Str} (h : NmOk n) {i : Nat} {p : Str} (e : (ups n)[i]? = some p) : NmOk p := by
  have hp := (h.at_ i p e).1
  refine ⟨by rw [hp, List.length_drop]; have := h.few; omega, fun j q f => ?_, fun _ => by rw [hp, List.getElem?_drop, Nat.add_zero]; exact e⟩
  rw [hp, List.getElem?_drop] at f
  have z := h.at_ (i + j) q f
  refine ⟨?_, z.2.1, ?_, z.2.2.2⟩
  · rw [z.1, hp, List.drop_drop]
  · rw [z.2.2.1, hp, List.drop_drop]
    rfl
/-- each step of a way leads to the next one above -/
structure Chain (keys : List Str) (w : List Str) : Prop where
  at_ : ∀ i k, w[i]? = some k → (k ∈ keys ∧ NmOk k ∧ k ≠ "" ∧ ∃ k', w[i + 1]? = some k' ∧ up1 keys k = k') ∨ (k = "" ∧ i + 1 = w.length)
  len : 1 ≤ w.length
theorem filter_head {α : Type} (f : α → Bool) : ∀ (xs : List α), (xs.filter f = [] ∧ ∀ x ∈ xs, f x = false) ∨ ∃ i x, xs[i]? = some x ∧ f x = true ∧ xs.filter f = x :: (xs.drop (i + 1)).filter f
  | [] => .inl ⟨rfl, fun _ h => nomatch h⟩
  | x :: xs => by
    cases e : f x with
    | true => exact .inr ⟨0, x, rfl, e, by rw [List.filter_cons_of_pos (by rw [e])]; rfl⟩
    | false =>
      rw [List.filter_cons_of_neg (by rw [e]; exact Bool.false_ne_true)]
      rcases filter_head f xs with ⟨a, b⟩ | ⟨i, y, a, b, c⟩
      · exact .inl ⟨a, fun z hz => (List.mem_cons.mp hz).elim (fun q => by rw [q]; exact e) (b z)⟩
      · exact .inr ⟨i + 1, y, by rw [List.getElem?_cons_succ]; exact a, b, c⟩
theorem chain_drop {keys : List Str} {n : Str} (h : NmOk n) : ∀ (k i : Nat), (ups n).length - i = k → Chain keys (((ups n).drop i).filter (fun k => decide (k ∈ keys)) ++ [("" : Str)]) := by
  intro k
  induction k using Nat.strongRecOn with
  | ind k ih =>
    intro i hi
    rcases filter_head (fun k => decide (k ∈ keys)) ((ups n).drop i) with ⟨a, _⟩ | ⟨j, x, a, b, c⟩
    · rw [a]
      refine ⟨fun l q e => ?_, Nat.le_refl _⟩
      cases l with
      | zero => exact .inr ⟨(Option.some.inj e).symm, rfl⟩
      | succ l => cases e
    · rw [List.getElem?_drop] at a
      have hj : i + j < (ups n).length := (List.getElem?_eq_some_iff.mp a).1
      have z := ih ((ups n).length - (i + j + 1)) (by omega) (i + j + 1) rfl
      rw [List.drop_drop, show i + (j + 1) = i + j + 1 by omega] at c
      rw [c, List.cons_append]
      have hx := h.at_ _ _ a
      refine ⟨fun l q e => ?_, by rw [List.length_cons]; omega⟩
      cases l with
      | zero =>
        cases e
        have hlen := z.len
        obtain ⟨k', e'⟩ : ∃ k', (((ups n).drop (i + j + 1)).filter (fun k => decide (k ∈ keys)) ++ [("" : Str)])[0]? = some k' := ⟨_, List.getElem?_eq_getElem hlen⟩
        refine .inl ⟨of_decide_eq_true b, h.sub a, hx.2.1, k', by rw [List.getElem?_cons_succ]; exact e', ?_⟩
        unfold up1
        rw [hx.1, List.drop_drop]
        rw [List.headD_eq_head?_getD, List.head?_eq_getElem?, e']
        rfl
      | succ l =>
        rw [List.getElem?_cons_succ] at e
        rcases z.at_ l q e with ⟨h1, h2, h3, k', h4, h5⟩ | ⟨h1, h2⟩
        · exact .inl ⟨h1, h2, h3, k', by rw [List.getElem?_cons_succ]; exact h4, h5⟩
        · exact .inr ⟨h1, by rw [List.length_cons]; omega⟩
theorem chain_way {keys : List Str} {n : Str} (h : NmOk n) : Chain keys (way keys n) := chain_drop h _ 0 rfl
theorem way_len {keys : List Str} {n : Str} (h : NmOk n) : (way keys n).length ≤ 21 := by
  unfold way
  rw [List.length_append, List.length_singleton]
  have := List.length_filter_le (fun k => decide (k ∈ keys)) (ups n)
  have := h.few
  omega
theorem way_mem {keys : List Str} {n k : Str} (h : k ∈ way keys n) : k = "" ∨ k ∈ keys := by
  unfold way at h
  rcases List.mem_append.mp h with h | h
  · exact .inr (of_decide_eq_true (List.mem_filter.mp h).2)
  · exact .inl (List.mem_singleton.mp h)
theorem way_cons {keys : List Str} {n : Str} : ∃ k w, way keys n = k :: w := by
  unfold way
  cases (ups n).filter (fun k => decide (k ∈ keys)) with
  | nil => exact ⟨_, _, rfl⟩
  | cons a b => exact ⟨_, _, rfl⟩
theorem way_head {keys : List Str} {n : Str} (h : NmOk n) : (way keys n).headD "" = n ↔ (n = "" ∨ n ∈ keys) := by
  constructor
  · intro e
    obtain ⟨k, w, ew⟩ := way_cons (keys := keys) (n := n)
    rw [ew] at e
    have e' : k = n := e
    rw [← e']
    exact way_mem (keys := keys) (n := n) (by rw [ew]; exact List.mem_cons_self ..)
  · intro hk
    by_cases e : n = ""
    · subst e
      rw [way_root]
      rfl
    · have z := h.self e
      unfold way
      cases hu : ups n with
      | nil => rw [hu] at z; cases z
      | cons a b =>
        rw [hu] at z
        cases z
        rw [List.filter_cons_of_pos (by exact decide_eq_true (hk.resolve_left e))]
        rfl
/-! ### a yard's view -/
def resortX : HX := ⟨0, [], false, "stderr", "\n", none⟩
structure YdX (K : PySem.W.Frag) (H : Hp) (y : Addr) (A : Str → Addr) (m : Mdl) : Prop where
  ins : ∃ dy fy lm no lr, H y = some (.ins (ga K "Yard") dy fy) ∧ lk fy "bar_level" = some (.int m.bar) ∧ lk fy "root" = some (.ref (A "")) ∧ lk fy "logger_map" = some (.ref lm) ∧ lk fy "names_of" = some (.ref no) ∧ lk fy "last_resort" = some (.ref lr) ∧ lk fy "loggers" = none ∧ lk fy "level_name" = none ∧
    H lm = some (.dK (m.keys.map fun k => rowE (k, A k))) ∧ H no = some (.dK (m.nm.map fun p => ((Sum.inl p.1 : Key), V.str p.2))) ∧ HdX K H (.ref lr) resortX
  nd : m.keys.Nodup
  root : LgX K H (A "") "root" .non (m.lg "")
  lgs : ∀ k ∈ m.keys, LgX K H (A k) k (.ref (A (up1 m.keys k))) (m.lg k) ∧ k ≠ ""
theorem YdX.same {K : PySem.W.Frag} {H H' : Hp} {y : Addr} {A : Str → Addr} {m : Mdl} (h : YdX K H y A m) (k : Same H H') : YdX K H' y A m := by
  obtain ⟨⟨dy, fy, lm, no, lr, e1, l1, l2, l3, l4, l5, l6, l7, e2, e3, hr⟩, nd, root, lgs⟩ := h
  exact ⟨⟨dy, fy, lm, no, lr, k _ _ e1, l1, l2, l3, l4, l5, l6, l7, k _ _ e2, k _ _ e3, hr.same k⟩, nd, root.same k, fun x hx => ⟨(lgs x hx).1.same k, (lgs x hx).2⟩⟩
/-- the logger of a name -/
theorem YdX.at_ {K : PySem.W.Frag} {H : Hp} {y : Addr} {A : Str → Addr} {m : Mdl} (h : YdX K H y A m) {k : Str} (hk : k = "" ∨ k ∈ m.keys) : ∃ nm par, LgX K H (A k) nm par (m.lg k) ∧ (k = "" → nm = "root" ∧ par = .non) ∧ (k ≠ "" → nm = k ∧ par = .ref (A (up1 m.keys k))) := by
  by_cases e : k = ""
  · subst e
    exact ⟨_, _, h.root, fun _ => ⟨rfl, rfl⟩, fun z => absurd rfl z⟩
  · have hm := hk.resolve_left e
    exact ⟨_, _, (h.lgs k hm).1, fun z => absurd z e, fun _ => ⟨rfl, rfl⟩⟩
/-! ### what the view tells: levels, what is reached -/
def effL (m : Mdl) : List Str → Int
  | [] => 0
  | k :: w => if (m.lg k).level ≠ 0 then (m.lg k).level else effL m w
def reach (m : Mdl) : List Str → List Str
  | [] => []
  | k :: w => k :: (if (m.lg k).prop = true then reach m w else [])
def belowB (n one : Str) : Bool := decide (V.str n = V.str one) || Txt.startswith n (one ++ ".")
def letsB (fs : List Str) (n : Str) : Bool := fs.all fun one => decide (V.str one = V.str "") || belowB n one
def shownN (n : Str) : Str := if n = "" then "root" else n
def hasB (m : Mdl) (n : Str) : Bool := decide (n = "" ∨ n ∈ m.keys)
def madeB (m : Mdl) (n : Str) (lv : Int) : Bool := if lv ≤ m.bar ∨ lv < effL m (way m.keys n) then false else if hasB m n = true then !(m.lg n).dis && letsB (m.lg n).fs (shownN n) else true
def hangs (m : Mdl) (n : Str) : List HX := (reach m (way m.keys n)).flatMap fun k => (m.lg k).hs
def wrX (m : Mdl) (n : Str) (lv : Int) : List HX := if madeB m n lv = true then (if hangs m n = [] then (if lv ≥ 30 then [resortX] else []) else ((hangs m n).filter fun h => decide (h.level ≤ lv) && !h.null).filter fun h => letsB h.fs (shownN n)) else []
structure HXok (x : HX) : Prop where
  fs : x.fs.length ≤ 10
  fl : ∀ f ∈ x.fs, f.length ≤ 1000
  fmt : ∀ ps, x.fmt = some ps → ps.length ≤ 10 ∧ ∀ p ∈ ps, p.ok
  stream : x.stream ∈ streamMenu
  term : x.term ∈ endMenu
structure LXok (x : LX) : Prop where
  fs : x.fs.length ≤ 10
  fl : ∀ f ∈ x.fs, f.length ≤ 1000
  hs : x.hs.length ≤ 4
  each : ∀ h ∈ x.hs, HXok h
structure Mok (m : Mdl) : Prop where
  keys : m.keys.length ≤ 30
  nm : m.nm.length ≤ 20
  words : ∀ p ∈ m.nm, p.2.length ≤ 20
  root : LXok (m.lg "")
  lgs : ∀ k ∈ m.keys, LXok (m.lg k)
  names : ∀ k ∈ m.keys, NmOk k
theorem Mok.at_ {m : Mdl} (h : Mok m) {k : Str} (hk : k = "" ∨ k ∈ m.keys) : LXok (m.lg k) := hk.elim (fun z => by rw [z]; exact h.root) (h.lgs k)
end Ry
namespace Ry
open PySem PySem.Spec PyProof.Rows L2 He RyH
open C8 (pss_cut tCut Cal Met Mak pe_c pe_mk pe_mt pe_mt0 pe_gc)
/-! ### the view of k83 -/
def hwX (x : HX) : HW := ⟨x.level, x.fs⟩
def lwX (own : Str) (x : LX) : LW := ⟨own, x.level, x.fs, x.hs.map hwX⟩
theorem FmX.fmv {K : PySem.W.Frag} {H : Hp} {v : V} {o : Option (List FP)} (h : FmX K H v o) (ok : ∀ ps, o = some ps → ps.length ≤ 10 ∧ ∀ p ∈ ps, p.ok) : FmV K H v := by
  cases o with
  | none => exact .inl h
  | some ps =>
    obtain ⟨hl, hp⟩ := ok ps rfl
    obtain ⟨a, dx, fx, b, q, dd, js, e, e1, e2, pj, e3⟩ := h
    refine .inr ⟨a, dx, fx, b, q, dd, js, e, e1, e2, ?_, fun j hj => ?_, e3⟩
    · rw [Paired.length pj]
      exact Nat.le_trans (joinT_len _) (toks_len (b := true) hp (Nat.le_trans hl (by decide))).2
    · obtain ⟨y, hy, f⟩ := paired_mem pj hj
      cases y with
      | txt l => exact .inl ⟨_, f⟩
      | fld nm =>
        obtain ⟨c, d, e, e4⟩ := f
        exact .inr ⟨c, d, tx nm, e, e4, fld_menu hp hy⟩
theorem HdX.hdv {K : PySem.W.Frag} {H : Hp} {v : V} {x : HX} (h : HdX K H v x) (ok : HXok x) : HdV K H v (hwX x) := by
  obtain ⟨a, dx, fs, fl, ys, fm, e, e1, l1, l2, l3, l4, l5, e2, q, f⟩ := h
  refine ⟨a, _, dx, fs, fl, ys, fm, e, e1, ?_, l1, l2, l3, e2, q, f.fmv ok.fmt⟩
  cases x.null with
  | true => exact .inr rfl
  | false => exact .inl rfl
theorem LgX.lgv {K : PySem.W.Frag} {H : Hp} {a : Addr} {nm own : Str} {par : V} {x : LX} (h : LgX K H a nm par x) (ho : (par = .non ∧ own = "") ∨ (∃ r, par = .ref r) ∧ own = nm) (ok : LXok x) : LgV K H (.ref a) (lwX own x) := by
  obtain ⟨dx, fs, fl, hl, ys, zs, e1, l1, l2, l3, l4, l5, l6, l7, e2, q2, e3, q3, l8⟩ := h
  refine ⟨a, dx, fs, fl, hl, ys, zs, par, nm, rfl, e1, l2, l5, l6, l7, l1, ho, e2, q2, e3, ?_⟩
  clear e3 ho
  have ok' := ok.each
  show Paired (HdV K H) zs (x.hs.map hwX)
  generalize x.hs = hs at q3 ok'
  induction q3 with
  | nil => exact .nil
  | cons r t ih => exact .cons (r.hdv (ok' _ (List.mem_cons_self ..))) (ih fun h hh => ok' h (List.mem_cons_of_mem _ hh))
theorem YdX.lgv {K : PySem.W.Frag} {H : Hp} {y : Addr} {A : Str → Addr} {m : Mdl} (h : YdX K H y A m) (ok : Mok m) {k : Str} (hk : k = "" ∨ k ∈ m.keys) : LgV K H (.ref (A k)) (lwX k (m.lg k)) := by
  obtain ⟨nm, par, x, h1, h2⟩ := h.at_ hk
  refine x.lgv ?_ (ok.at_ hk)
  by_cases e : k = ""
  · exact .inl ⟨(h1 e).2, e⟩
  · exact .inr ⟨⟨_, (h2 e).2⟩, (h2 e).1.symm⟩
def ywX (m : Mdl) : YW := ⟨m.bar, m.nm.map (·.1), lwX "" (m.lg ""), m.keys.map fun k => (k, lwX k (m.lg k))⟩
theorem LXok.lw {own : Str} {x : LX} (h : LXok x) : LWok (lwX own x) := by
  refine ⟨Nat.le_trans h.fs (by decide), ?_, fun z hz => ?_⟩
  · show (x.hs.map hwX).length ≤ 100
    rw [List.length_map]
    exact Nat.le_trans h.hs (by decide)
  · obtain ⟨y, hy, rfl⟩ := List.mem_map.mp (show z ∈ x.hs.map hwX from hz)
    exact ⟨Nat.le_trans (h.each y hy).fs (by decide)⟩
theorem Mok.yw {m : Mdl} (h : Mok m) : YWok (ywX m) := by
  refine ⟨?_, h.root.lw, ?_, fun z hz => ?_⟩
  · show (m.nm.map (·.1)).length ≤ 100
    rw [List.length_map]
    exact Nat.le_trans h.nm (by decide)
  · show (m.keys.map fun k => (k, lwX k (m.lg k))).length ≤ 40
    rw [List.length_map]
    exact Nat.le_trans h.keys (by decide)
  · obtain ⟨k, hk, rfl⟩ := List.mem_map.mp (show z ∈ m.keys.map fun k => (k, lwX k (m.lg k)) from hz)
    exact (h.lgs k hk).lw
theorem YdX.ydw {K : PySem.W.Frag} {H : Hp} {y : Addr} {A : Str → Addr} {m : Mdl} (h : YdX K H y A m) (ok : Mok m) : YdW K H y (ywX m) := by
  have hr := h.lgv ok (.inl rfl)
  have hl : ∀ k ∈ m.keys, LgV K H (.ref (A k)) (lwX k (m.lg k)) := fun k hk => h.lgv ok (.inr hk)
  obtain ⟨dy, fy, lm, no, lr, e1, l1, l2, l3, l4, l5, l6, l7, e2, e3, _⟩ := h.ins
  refine ⟨dy, fy, A "", lm, no, m.keys.map fun k => (k, A k), _, e1, l1, l2, l3, l4, l6, by rw [List.map_map]; exact e2, e3, ?_, hr, ?_, paired_same fun k hk => ⟨rfl, hl k hk⟩⟩
  · rw [List.map_map]
    show _ = (m.nm.map (·.1)).map Sum.inl
    rw [List.map_map]
    rfl
  · rw [List.map_map]
    have : (fun k : Str => k) = id := rfl
    show (m.keys.map fun k => k).Nodup
    rw [List.map_id']
    exact h.nd
/-! ### the map of loggers, the names of levels -/
theorem valV_keys (A : Str → Addr) (n : Str) : ∀ keys : List Str, valV (keys.map fun k => rowE (k, A k)) (kS n) = if n ∈ keys then some (.ref (A n)) else none
  | [] => rfl
  | k :: keys => by
    rw [List.map_cons]
    by_cases e : k = n
    · rw [valV_pos (p := rowE (k, A k)) (by show Sum.inr k = Sum.inr n; rw [e]), if_pos (by rw [e]; exact List.mem_cons_self ..), e]
      rfl
    · rw [valV_neg (p := rowE (k, A k)) (fun z => e (Sum.inr.inj z)), valV_keys A n keys]
      have e2 : n ∈ k :: keys ↔ n ∈ keys := ⟨fun z => (List.mem_cons.mp z).elim (fun q => absurd q.symm e) id, List.mem_cons_of_mem _⟩
      by_cases q : n ∈ keys
      · rw [if_pos q, if_pos (e2.mpr q)]
      · rw [if_neg q, if_neg (fun z => q (e2.mp z))]
def nmE (p : Int × Str) : Key × V := (Sum.inl p.1, V.str p.2)
theorem valV_nm (n : Int) : ∀ nm : List (Int × Str), valV (nm.map nmE) (Sum.inl n) = (nm.lookup n).map V.str
  | [] => rfl
  | (a, b) :: nm => by
    rw [List.map_cons, List.lookup_cons]
    by_cases e : a = n
    · rw [valV_pos (p := nmE (a, b)) (by show Sum.inl a = Sum.inl n; rw [e]), e, beq_self_eq_true]
      rfl
    · rw [valV_neg (p := nmE (a, b)) (fun z => e (Sum.inl.inj z)), valV_nm n nm, show (n == a) = false from beq_eq_false_iff_ne.mpr fun z => e z.symm]
def lvName (m : Mdl) (lv : Int) : Str := (m.nm.lookup lv).getD ("Level " ++ toString lv)
theorem lookup_mem' {α : Type} {k : Int} {v : α} : ∀ {l : List (Int × α)}, l.lookup k = some v → (k, v) ∈ l
  | (a, b) :: l, h => by
    rw [List.lookup_cons] at h
    cases e : (k == a) with
    | true =>
      rw [e] at h
      cases h
      rw [eq_of_beq e]
      exact List.mem_cons_self ..
    | false =>
      rw [e] at h
      exact List.mem_cons_of_mem _ (lookup_mem' h)
/-! ### the promises -/
def lvOk (lv : Int) : Prop := lv.natAbs.log2 < 1000 ∧ (toString lv : Str).length ≤ 1000
def spLevelName (K : PySem.W.Frag) : Sp := fun vs H Q _ => ∃ (y : Addr) (A : Str → Addr) (m : Mdl) (lv : Int), vs = [.ref y, .int lv] ∧ YdX K H y A m ∧ lvOk lv ∧ Q (.str (lvName m lv)) H
def spIsBelow : Sp := fun vs H Q _ => ∃ (n one : Str), vs = [.str n, .str one] ∧ one.length ≤ 1000 ∧ Q (.bl (belowB n one)) H
def spLetsBy (K : PySem.W.Frag) : Sp := fun vs H Q _ => ∃ (l : Addr) (ys : List V) (fs : List Str) (n : Str), vs = [.ref l, .str n] ∧ H l = some (.lst ys) ∧ Paired (FilV K H) ys fs ∧ fs.length ≤ 10 ∧ (∀ f ∈ fs, f.length ≤ 1000) ∧ ∀ H', Same H H' → Q (.bl (letsB fs n)) H'
def spNearest (K : PySem.W.Frag) : Sp := fun vs H Q _ => ∃ (y : Addr) (A : Str → Addr) (m : Mdl) (n : Str), vs = [.ref y, .str n] ∧ YdX K H y A m ∧ NmOk n ∧ ∀ H', Same H H' → Q (.ref (A ((way m.keys n).headD ""))) H'
def spEff (K : PySem.W.Frag) : Sp := fun vs H Q _ => ∃ (y : Addr) (A : Str → Addr) (m : Mdl) (k : Str) (w : List Str), vs = [.ref (A k)] ∧ YdX K H y A m ∧ Chain m.keys (k :: w) ∧ Q (.int (effL m (k :: w))) H
def spReached (K : PySem.W.Frag) : Sp := fun vs H Q _ => ∃ (y : Addr) (A : Str → Addr) (m : Mdl) (k : Str) (w : List Str), vs = [.ref (A k)] ∧ YdX K H y A m ∧ Chain m.keys (k :: w) ∧ (k :: w).length ≤ 21 ∧
  ∀ p H', Same H H' → H p = none → H' p = some (.lst ((reach m (k :: w)).map fun k => V.ref (A k))) → Q (.ref p) H'
def spIsMade (K : PySem.W.Frag) : Sp := fun vs H Q _ => ∃ (y : Addr) (A : Str → Addr) (m : Mdl) (n : Str) (lv : Int), vs = [.ref y, .str n, .int lv] ∧ YdX K H y A m ∧ NmOk n ∧ Mok m ∧ ∀ H', Same H H' → Q (.bl (madeB m n lv)) H'
theorem Chain.tail {keys : List Str} {k k' : Str} {w : List Str} (h : Chain keys (k :: k' :: w)) : Chain keys (k' :: w) := by
  refine ⟨fun i q e => ?_, by rw [List.length_cons]; omega⟩
  rcases h.at_ (i + 1) q (by rw [List.getElem?_cons_succ]; exact e) with ⟨a, b, c, k2, d, f⟩ | ⟨a, b⟩
  · exact .inl ⟨a, b, c, k2, by rw [List.getElem?_cons_succ] at d; exact d, f⟩
  · refine .inr ⟨a, ?_⟩
    rw [List.length_cons] at b
    omega
theorem Chain.head {keys : List Str} {k : Str} {w : List Str} (h : Chain keys (k :: w)) : (k ∈ keys ∧ k ≠ "" ∧ ∃ k' w', w = k' :: w' ∧ up1 keys k = k') ∨ (k = "" ∧ w = []) := by
  rcases h.at_ 0 k rfl with ⟨a, b, c, k', d, f⟩ | ⟨a, b⟩
  · rw [List.getElem?_cons_succ] at d
    cases w with
    | nil => cases d
    | cons k2 w2 =>
      cases d
      exact .inl ⟨a, c, _, _, rfl, f⟩
  · rw [List.length_cons] at b
    exact .inr ⟨a, List.eq_nil_of_length_eq_zero (by omega)⟩
theorem Chain.mem {keys : List Str} {k : Str} {w : List Str} (h : Chain keys (k :: w)) : k = "" ∨ k ∈ keys := by
  rcases h.head with ⟨a, _⟩ | ⟨a, _⟩
  · exact .inr a
  · exact .inl a
section
variable {P : Program} {w : World} {K : PySem.W.Frag} {mg : Str → Option Value} {base : Heap}
theorem sc_Yard_level_name : FnScope ["self", "level"] ["self", "level"] (defScope s_Yard_level_name) := ⟨rfl, rfl, rfl, by decide +kernel, rfl, by decide +kernel, by decide +kernel⟩
theorem fn_Yard_level_name (T : Txt w K mg) : ∃ fd, FnOk P w K mg base CX0 1 (ma K (ga K "Yard") "level_name") fd ["self", "level"] (spLevelName K) ∧ FunD K "level_name" "Yard.level_name" (defArgs s_Yard_level_name) (defBody s_Yard_level_name) (defScope s_Yard_level_name) (He.DefD.dvs K d_Yard_level_name) [] (ma K (ga K "Yard") "level_name") fd := by
  obtain ⟨fd, F⟩ := T.df_Yard_level_name
  refine ⟨fd, F.ok sc_Yard_level_name (fun vs H Q E h => ?_) (fun cdv A outer s H vs Q E hr h => ?_), F⟩
  · obtain ⟨_, _, _, _, rfl, _⟩ := h
    rfl
  · obtain ⟨y, A, m, lv, rfl, hy, hlv, k⟩ := h
    refine ⟨_, PSs.nox (pss_one (ps_ret (RyT.pe_cutE (pe_ifExp (pt_cmp (pc_din (hu_of hr) (pv 1) (pe_fld (pv 0) rfl)) rfl) (pe_dget (hu_of hr) (pe_fld (pv 0) rfl) (pv 1) (fun _ _ => rfl)) (pe_op op_add_str pe_str (pe_callTy call_str_int (by rfl) T.f_str (by decide +kernel) (pa_cons (pv 1) pa_nil))))))), ?_⟩
    obtain ⟨dy, fy, lm, no, lr, e1, l1, l2, l3, l4, l5, l6, l7, e2, e3, _⟩ := hy.ins
    have e3' : H no = some (.dK (m.nm.map nmE)) := e3
    refine ⟨fun u H2 => u = .str (lvName m lv) ∧ H2 = H, ?_, ?_⟩
    · refine ⟨_, rfl, _, rfl, y, _, dy, fy, _, rfl, e1, T.cl_Yard, T.no_Yard_names_of, l4, ?_⟩
      refine ⟨no, _, rfl, DGet.k (k := Sum.inl lv) e3', _, rfl, ?_⟩
      rw [valV_nm]
      unfold lvName
      cases q : m.nm.lookup lv with
      | some x =>
        refine iteT ?_
        refine ⟨_, rfl, y, _, dy, fy, _, rfl, e1, T.cl_Yard, T.no_Yard_names_of, l4, ?_⟩
        refine ⟨_, rfl, no, _, rfl, (by have z := DGet.k (k := Sum.inl lv) e3'; rw [valV_nm, q] at z; exact z), rfl, rfl⟩
      | none =>
        refine iteF ?_
        exact ⟨_, rfl, lv, rfl, by have := hlv.1; omega, _, _, rfl, rfl, by have := hlv.2; rw [sizeLine_eq]; show 6 + _ ≤ _; omega, rfl, rfl⟩
    · rintro _ _ ⟨rfl, rfl⟩
      exact k

theorem met_Yard_level_name (T : Txt w K mg) : Met P w K mg base 1 (ga K "Yard") "level_name" (spLevelName K) [] := by
  obtain ⟨fd, f, F⟩ := fn_Yard_level_name (P := P) (base := base) T
  have hB : Binds K fd ["self", "level"] [] := F.bindsN (fun _ _ _ _ _ _ us hl => match us, hl with | [_, _], _ => rfl)
  have hV : Vals [] ([] : List Value) := .nil
  refine ⟨_, fd, _, _, T.cl_Yard, T.me_Yard_level_name, ?_, hB, hV⟩
  exact f
theorem sc_is_below : FnScope ["name", "above"] ["name", "above"] (defScope s_is_below) := ⟨rfl, rfl, rfl, by decide +kernel, rfl, by decide +kernel, by decide +kernel⟩
theorem cal_is_below (T : Txt w K mg) : Cal P w K mg base 1 "is_below" (spIsBelow) [] := by
  obtain ⟨fd, F⟩ := T.df_is_below
  refine ⟨_, fd, ["name", "above"], [], F.ok sc_is_below (fun vs H Q E h => ?_) (fun cdv A outer s H vs Q E hr h => ?_), T.m_is_below, F.kp, F.bindsN (fun _ _ _ _ _ _ us hl => match us, hl with | [_, _], _ => rfl), .nil⟩
  · obtain ⟨_, _, rfl, _⟩ := h
    rfl
  · obtain ⟨n, one, rfl, hl, k⟩ := h
    refine ⟨_, PSs.nox (pss_one (ps_ret (pe_or (pe_cmpR op_eq (pv 0) (pv 1) (nomark _)) (pe_one (pe_bm PySem.F.plainAttrs_str PySem.F.slot_str_startswith PySem.F.type_str_startswith mt_startswith (pv 0) (pa_cons (pe_op op_add_str (pv 1) pe_str) pa_nil)))))), ?_⟩
    refine ⟨_, rfl, _, rfl, rfl, decide (V.str n = V.str one), rfl, ?_⟩
    unfold belowB at k
    cases e : decide (V.str n = V.str one) with
    | true =>
      refine iteT ?_
      rw [e] at k
      exact k
    | false =>
      refine iteF ?_
      rw [e] at k
      refine ⟨_, rfl, rfl, ?_⟩
      refine ⟨_, rfl, one, ".", rfl, rfl, by rw [sizeLine_eq]; show _ + 1 ≤ _; omega, ?_⟩
      exact ⟨n, one ++ ".", rfl, rfl, k⟩

theorem sc_lets_by : FnScope ["some", "name", "one"] ["some", "name"] (defScope s_lets_by) := ⟨rfl, rfl, rfl, by decide +kernel, rfl, by decide +kernel, by decide +kernel⟩
theorem cal_lets_by (T : Txt w K mg) : Cal P w K mg base 2 "lets_by" (spLetsBy K) [] := by
  obtain ⟨fd, F⟩ := T.df_lets_by
  have c_is_below := cal_is_below (P := P) (base := base) T
  refine ⟨_, fd, ["some", "name"], [], F.ok sc_lets_by (fun vs H Q E h => ?_) (fun cdv A outer s H vs Q E hr h => ?_), T.m_lets_by, F.kp, F.bindsN (fun _ _ _ _ _ _ us hl => match us, hl with | [_, _], _ => rfl), .nil⟩
  · obtain ⟨_, _, _, _, rfl, _⟩ := h
    rfl
  · obtain ⟨l, ys, fs, n, rfl, el, q, hl, hlf, k⟩ := h
    refine ⟨_, PSs.nox (pss_one (ps_ret (pe_callB (id := "all") (cr_all rfl) (by rfl) T.f_all (by decide +kernel) (pa_cons (pe_lc (own := [("one", 2)]) rfl sc_lets_by.nd (pi_list (pv 0)) (blkOk_by (N := ["some", "name", "one"]) (sc := defScope s_lets_by) (own := [("one", 2)]) (by decide +kernel)) (fun _ _ _ _ _ => pg_name (i := 2) sc_lets_by.nd rfl (Or.inl rfl)) (fun _ _ _ _ _ => pts_nil) (fun _ _ _ _ _ => (pe_or (pe_cmpR op_eq (RyS.pe_fldB (K := K) rfl (pv 2) rfl) pe_str (nomark _)) (pe_one (pe_c c_is_below hr (by decide) (by rfl) (pa_cons (pv 1) (pa_cons (RyS.pe_fldB (K := K) rfl (pv 2) rfl) pa_nil))))))) pa_nil)))), ?_⟩
    refine ⟨_, rfl, l, rfl, ⟨ys, SqL.of el⟩, fun D hD => ?_⟩
    have hys : ys.length = fs.length := Paired.length q
    refine lc_list (xs := ys) (fun i H' => Same H H' ∧ H' D = some (.lst (((fs.take i).map fun one => decide (V.str one = V.str "") || belowB n one).map V.bl))) ⟨Same.nw hD, upd_same⟩ (fun i H' _ h => SqL.of (h.1 _ _ el)) ?_ ?_
    · rintro i x H' hx ⟨k1, h1⟩
      obtain ⟨f, ef, hf⟩ := Paired.nth q hx
      have hff := hlf f (List.mem_of_getElem? ef)
      have hi : i < fs.length := (List.getElem?_eq_some_iff.mp ef).1
      obtain ⟨a, dx, rfl, ea⟩ := hf
      have ea' := k1 _ _ ea
      refine ⟨rfl, ?_⟩
      refine ⟨_, rfl, a, _, dx, _, _, rfl, ea', T.cl_Filter, T.no_Filter_name, rfl, rfl, decide (V.str f = V.str ""), rfl, ?_⟩
      have fin : ∀ b : Bool, b = (decide (V.str f = V.str "") || belowB n f) → ∃ xs, H' D = some (.lst xs) ∧ xs.length < sizeLine ∧ (Same H (L2.upd H' D (.lst (xs ++ [V.bl b]))) ∧ (L2.upd H' D (.lst (xs ++ [V.bl b]))) D = some (.lst (((fs.take (i + 1)).map fun one => decide (V.str one = V.str "") || belowB n one).map V.bl))) := fun b hb => by
        refine ⟨_, h1, by rw [List.length_map, List.length_map, List.length_take, sizeLine_eq]; omega, Same.wr k1 hD, ?_⟩
        rw [upd_same, take_nth ef, List.map_append, List.map_append, hb]
        rfl
      cases e : decide (V.str f = V.str "") with
      | true =>
        refine iteT ?_
        exact fin true (by rw [e]; rfl)
      | false =>
        refine iteF ?_
        refine ⟨_, rfl, _, rfl, a, _, dx, _, _, rfl, ea', T.cl_Filter, T.no_Filter_name, rfl, ?_⟩
        exact ⟨n, f, rfl, hff, fin _ (by rw [e]; rfl)⟩
    · rintro H' ⟨k1, h1⟩
      refine ⟨D, _, rfl, SqL.of h1, ?_⟩
      rw [hys, List.take_length, List.all_map]
      exact k H' k1

theorem sc_nearest : FnScope ["yard", "name"] ["yard", "name"] (defScope s_nearest) := ⟨rfl, rfl, rfl, by decide +kernel, rfl, by decide +kernel, by decide +kernel⟩
theorem cal_nearest (T : Txt w K mg) : Cal P w K mg base 1 "nearest" (spNearest K) [] := by
  obtain ⟨fd, F⟩ := T.df_nearest
  refine ⟨_, fd, ["yard", "name"], [], F.ok sc_nearest (fun vs H Q E h => ?_) (fun cdv A outer s H vs Q E hr h => ?_), T.m_nearest, F.kp, F.bindsN (fun _ _ _ _ _ _ us hl => match us, hl with | [_, _], _ => rfl), .nil⟩
  · obtain ⟨_, _, _, _, rfl, _⟩ := h
    rfl
  · obtain ⟨y, A, m, n, rfl, hy, hn, k⟩ := h
    refine ⟨_, PSs.nox (pss_cons (ps_while PassesOwn.never (pt_cmpR op_ne (pv 1) pe_str (nomark _))
        (pss_cons (ps_if (pt_cmp (pc_din (hu_of hr) (pv 1) (pe_fld (pv 0) rfl)) rfl)
          (pss_one (ps_ret (pe_dget (hu_of hr) (pe_fld (pv 0) rfl) (pv 1) (fun _ _ => rfl))))
          pss_nil)
        (pss_one (ps_set (i := 1) sc_nearest.nd rfl (Or.inl rfl) (pe_ix ix_tup (pe_bm PySem.F.plainAttrs_str PySem.F.slot_str_rpartition PySem.F.type_str_rpartition RyV.mt_rpartition (pv 1) (pa_cons pe_str pa_nil)) pe_int (fun _ _ => rfl))))))
      (pss_one (ps_ret (pe_fld (pv 0) rfl)))), ?_⟩
    obtain ⟨dy, fy, lm, no, lr, e1, l1, l2, l3, l4, l5, l6, l7, e2, e3, _⟩ := hy.ins
    have hd0 : n = ((ups n).drop 0).headD "" := by
      by_cases e : n = ""
      · rw [e, ups_root]
        rfl
      · have z := hn.self e
        rw [List.drop_zero, List.headD_eq_head?_getD, List.head?_eq_getElem?, z]
        rfl
    refine ⟨fun j σ' H' => ∃ i, j = (ups n).length - i ∧ σ' = [some (.ref y), some (.str (((ups n).drop i).headD ""))] ∧ Same H H' ∧ (way m.keys n).headD "" = ((((ups n).drop i).filter fun k => decide (k ∈ m.keys)) ++ [("" : Str)]).headD "", ⟨_, 0, rfl, (by show [some (V.ref y), some (V.str n)] = _; rw [← hd0]), Same.rfl', rfl⟩, ?_⟩
    rintro j σ' H' ⟨i, rfl, rfl, s1, hw⟩
    refine ⟨_, rfl, rfl, _, rfl, ?_⟩
    cases hdr : (ups n).drop i with
    | nil =>
      rw [hdr] at hw
      refine Eq.mpr (if_neg (by simp)) ?_
      refine ⟨_, rfl, y, _, dy, fy, _, rfl, s1 _ _ e1, T.cl_Yard, T.no_Yard_root, l2, ?_⟩
      have z := k H' s1
      rw [hw] at z
      exact z
    | cons p B =>
      have hi : i < (ups n).length := by
        have z := congrArg List.length hdr
        rw [List.length_drop, List.length_cons] at z
        omega
      have ep : (ups n)[i]? = some p := by
        have z : ((ups n).drop i)[0]? = some p := by rw [hdr]; rfl
        rw [List.getElem?_drop, Nat.add_zero] at z
        exact z
      have eB : (ups n).drop (i + 1) = B := by
        rw [← List.drop_drop, hdr]
        rfl
      obtain ⟨_, pne, prp, plen, _⟩ := hn.at_ i p ep
      rw [hdr] at hw
      have hne : decide (V.str p = V.str "") = false := decide_eq_false fun z => pne (V.str.inj z)
      refine Eq.mpr (if_pos (by show (!decide (V.str p = V.str "")) = true; rw [hne]; rfl)) ?_
      refine ⟨fun σ' H' => σ' = [some (.ref y), some (.str (((ups n).drop (i + 1)).headD ""))] ∧ Same H H' ∧ (way m.keys n).headD "" = ((((ups n).drop (i + 1)).filter fun k => decide (k ∈ m.keys)) ++ [("" : Str)]).headD "", ?_, ?_⟩
      · rintro σ2 H2 ⟨rfl, s2, h2⟩
        exact ⟨_, by omega, i + 1, rfl, rfl, s2, h2⟩
      · refine ⟨_, rfl, _, rfl, y, _, dy, fy, _, rfl, s1 _ _ e1, T.cl_Yard, T.no_Yard_logger_map, l3, ?_⟩
        refine ⟨lm, _, rfl, DGet.k (k := kS p) (s1 _ _ e2), _, rfl, ?_⟩
        rw [valV_keys]
        by_cases hp : p ∈ m.keys
        · rw [if_pos hp]
          refine iteT ?_
          refine ⟨_, rfl, y, _, dy, fy, _, rfl, s1 _ _ e1, T.cl_Yard, T.no_Yard_logger_map, l3, ?_⟩
          refine ⟨_, rfl, lm, _, rfl, dget (s1 _ _ e2) (k := p) (by rw [valV_keys, if_pos hp]), ?_⟩
          have z := k H' s1
          rw [hw, List.filter_cons_of_pos (by exact decide_eq_true hp)] at z
          exact z
        · rw [if_neg hp]
          refine iteF ?_
          refine ⟨_, rfl, rfl, ?_⟩
          refine ⟨p, ".", rfl, rfl, rfl, by rw [sizeLine_eq]; omega, fun t ht => ?_⟩
          refine ⟨t, _, _, _, rfl, rfl, SqT.of upd_same, atI_nat (j := 0) rfl, ?_⟩
          refine ⟨?_, Same.tr s1 (Same.nw ht), ?_⟩
          · rw [prp]
            rfl
          · rw [hw, eB, List.filter_cons_of_neg (by rw [decide_eq_false hp]; exact Bool.false_ne_true)]

theorem sc_Logger_getEffectiveLevel : FnScope ["self", "here"] ["self"] (defScope s_Logger_getEffectiveLevel) := ⟨rfl, rfl, rfl, by decide +kernel, rfl, by decide +kernel, by decide +kernel⟩
theorem fn_Logger_getEffectiveLevel (T : Txt w K mg) : ∃ fd, FnOk P w K mg base CX0 1 (ma K (ga K "Logger") "getEffectiveLevel") fd ["self"] (spEff K) ∧ FunD K "getEffectiveLevel" "Logger.getEffectiveLevel" (defArgs s_Logger_getEffectiveLevel) (defBody s_Logger_getEffectiveLevel) (defScope s_Logger_getEffectiveLevel) (He.DefD.dvs K d_Logger_getEffectiveLevel) [] (ma K (ga K "Logger") "getEffectiveLevel") fd := by
  obtain ⟨fd, F⟩ := T.df_Logger_getEffectiveLevel
  refine ⟨fd, F.ok sc_Logger_getEffectiveLevel (fun vs H Q E h => ?_) (fun cdv A outer s H vs Q E hr h => ?_), F⟩
  · obtain ⟨_, _, _, _, _, rfl, _⟩ := h
    rfl
  · obtain ⟨y, A, m, k, w2, rfl, hy, hc, kk⟩ := h
    refine ⟨_, PSs.nox (pss_cons (ps_set (i := 1) sc_Logger_getEffectiveLevel.nd rfl (Or.inl rfl) (pv 0))
      (pss_cons (ps_while PassesOwn.never (pt_cmpR op_notN (pv 1) pe_non (nomark _))
        (pss_cons (ps_if (pt_cmpR op_ne (pe_fld (pv 1) rfl) (pe_gc (by rfl) (T.c_NOTSET)) (nomark _))
          (pss_one (ps_ret (pe_fld (pv 1) rfl)))
          pss_nil)
        (pss_one (ps_set (i := 1) sc_Logger_getEffectiveLevel.nd rfl (Or.inl rfl) (pe_fld (pv 1) rfl)))))
      (pss_one (ps_ret (pe_gc (by rfl) (T.c_NOTSET)))))), ?_⟩
    refine ⟨_, rfl, ?_⟩
    refine ⟨fun j σ' H' => H' = H ∧ ((∃ k' w', j = w'.length + 1 ∧ Chain m.keys (k' :: w') ∧ effL m (k :: w2) = effL m (k' :: w') ∧ σ' = [some (.ref (A k)), some (.ref (A k'))]) ∨ (j = 0 ∧ effL m (k :: w2) = 0 ∧ σ' = [some (.ref (A k)), some .non])), ⟨_, rfl, .inl ⟨k, w2, rfl, hc, rfl, rfl⟩⟩, ?_⟩
    rintro j σ' H' ⟨rfl, ⟨k', w', rfl, hc', he, rfl⟩ | ⟨rfl, he, rfl⟩⟩
    · obtain ⟨nm, par, x, hr1, hr2⟩ := hy.at_ hc'.mem
      obtain ⟨dx, fs, fl, hl, ys, zs, e1, l1, l2, l3, l4, l5, l6, l7, e2, q2, e3, q3, l8⟩ := x
      refine ⟨_, rfl, rfl, ?_⟩
      refine ⟨_, rfl, ?_⟩
      refine Eq.mpr (if_pos (by rfl)) ?_
      refine ⟨fun σ' H2 => H2 = H' ∧ ((∃ k2 w2', w'.length = w2'.length + 1 ∧ Chain m.keys (k2 :: w2') ∧ effL m (k :: w2) = effL m (k2 :: w2') ∧ σ' = [some (.ref (A k)), some (.ref (A k2))]) ∨ (w'.length = 0 ∧ effL m (k :: w2) = 0 ∧ σ' = [some (.ref (A k)), some .non])), ?_, ?_⟩
      · rintro σ2 H2 ⟨rfl, h⟩
        exact ⟨w'.length, Nat.lt_succ_self _, rfl, h⟩
      · refine ⟨_, rfl, A k', _, dx, fs, _, rfl, e1, T.cl_Logger, T.no_Logger_level, l2, rfl, _, rfl, ?_⟩
        by_cases e : (m.lg k').level = 0
        · refine Eq.mpr (if_neg (by rw [e]; simp)) ?_
          refine ⟨_, rfl, A k', _, dx, fs, _, rfl, e1, T.cl_Logger, T.no_Logger_parent, l7, ?_⟩
          have he2 : effL m (k :: w2) = effL m w' := by
            rw [he]
            show (if (m.lg k').level ≠ 0 then _ else effL m w') = _
            rw [if_neg (fun z => z e)]
          rcases hc'.head with ⟨h1, h2, k2, w3, rfl, h3⟩ | ⟨h1, rfl⟩
          · have hp := (hr2 h2).2
            rw [h3] at hp
            refine ⟨rfl, .inl ⟨k2, w3, rfl, hc'.tail, he2, ?_⟩⟩
            rw [hp]
            rfl
          · have hp := (hr1 h1).2
            refine ⟨rfl, .inr ⟨rfl, he2, ?_⟩⟩
            rw [hp]
            rfl
        · refine Eq.mpr (if_pos (by simpa using e)) ?_
          refine ⟨_, rfl, A k', _, dx, fs, _, rfl, e1, T.cl_Logger, T.no_Logger_level, l2, ?_⟩
          have he2 : effL m (k :: w2) = (m.lg k').level := by
            rw [he]
            show (if (m.lg k').level ≠ 0 then (m.lg k').level else effL m w') = _
            rw [if_pos e]
          rw [he2] at kk
          exact kk
    · refine ⟨_, rfl, rfl, ?_⟩
      refine ⟨_, rfl, ?_⟩
      refine Eq.mpr (if_neg (by simp)) ?_
      rw [he] at kk
      exact kk

theorem met_Logger_getEffectiveLevel (T : Txt w K mg) : Met P w K mg base 1 (ga K "Logger") "getEffectiveLevel" (spEff K) [] := by
  obtain ⟨fd, f, F⟩ := fn_Logger_getEffectiveLevel (P := P) (base := base) T
  have hB : Binds K fd ["self"] [] := F.bindsN (fun _ _ _ _ _ _ us hl => match us, hl with | [_], _ => rfl)
  have hV : Vals [] ([] : List Value) := .nil
  refine ⟨_, fd, _, _, T.cl_Logger, T.me_Logger_getEffectiveLevel, ?_, hB, hV⟩
  exact f
theorem sc_Logger_reached : FnScope ["self", "found"] ["self"] (defScope s_Logger_reached) := ⟨rfl, rfl, rfl, by decide +kernel, rfl, by decide +kernel, by decide +kernel⟩
theorem fn_Logger_reached (T : Txt w K mg) : ∃ fd, FnOk P w K mg base CX0 1 (ma K (ga K "Logger") "reached") fd ["self"] (spReached K) ∧ FunD K "reached" "Logger.reached" (defArgs s_Logger_reached) (defBody s_Logger_reached) (defScope s_Logger_reached) (He.DefD.dvs K d_Logger_reached) [] (ma K (ga K "Logger") "reached") fd := by
  obtain ⟨fd, F⟩ := T.df_Logger_reached
  refine ⟨fd, F.ok sc_Logger_reached (fun vs H Q E h => ?_) (fun cdv A outer s H vs Q E hr h => ?_), F⟩
  · obtain ⟨_, _, _, _, _, rfl, _⟩ := h
    rfl
  · obtain ⟨y, A, m, k, w2, rfl, hy, hc, hlw, kk⟩ := h
    refine ⟨_, PSs.nox (pss_cons (ps_set (i := 1) sc_Logger_reached.nd rfl (Or.inl rfl) (pe_lst (pa_cons (pv 0) pa_nil)))
      (pss_cons (ps_while PassesOwn.never (PW.pt (pw_and (pt_val (pe_fld (pe_ix ix_list (pv 1) (pe_un un_neg pe_int) (fun _ _ => rfl)) rfl)) (pw_and1 (pt_cmpR op_notN (pe_fld (pe_ix ix_list (pv 1) (pe_un un_neg pe_int) (fun _ _ => rfl)) rfl) pe_non (nomark _)))))
        (pss_one (ps_expr (pe_bm PySem.F.plainAttrs_list PySem.F.slot_list_append PySem.F.type_list_append mt_append (pv 1) (pa_cons (pe_fld (pe_ix ix_list (pv 1) (pe_un un_neg pe_int) (fun _ _ => rfl)) rfl) pa_nil)))))
      (pss_one (ps_ret (pv 1))))), ?_⟩
    refine ⟨_, rfl, ssz rfl, fun D hD => ?_⟩
    have sD := Same.nw (o := .lst [V.ref (A k)]) hD
    refine ⟨fun j σ' H' => ∃ i w', j = w'.length ∧ Same H H' ∧ σ' = [some (.ref (A k)), some (.ref D)] ∧ ∃ xs k', H' D = some (.lst ((xs ++ [k']).map fun k => V.ref (A k))) ∧ xs.length = i ∧ i + w'.length ≤ 21 ∧ Chain m.keys (k' :: w') ∧ reach m (k :: w2) = xs ++ reach m (k' :: w'), ⟨_, 0, w2, rfl, sD, rfl, [], k, upd_same, rfl, by rw [List.length_cons] at hlw; omega, hc, rfl⟩, ?_⟩
    rintro j σ' H' ⟨i, w', rfl, s1, rfl, xs, k', eD, lx, hlx, hc', hre⟩
    have hla : atI ((xs ++ [k']).map fun k => V.ref (A k)) (-1) = some (V.ref (A k')) := by rw [List.map_append]; exact atI_last _ _
    obtain ⟨nm, par, x, hr1, hr2⟩ := (hy.same s1).at_ hc'.mem
    obtain ⟨dx, fs, fl, hl, ys, zs, e1, l1, l2, l3, l4, l5, l6, l7, e2, q2, e3, q3, l8⟩ := x
    refine ⟨_, rfl, _, rfl, D, _, _, _, rfl, rfl, SqL.of eD, hla, A k', _, dx, fs, _, rfl, e1, T.cl_Logger, T.no_Logger_propagate, l3, (m.lg k').prop, rfl, ?_⟩
    have hfin : reach m (k :: w2) = xs ++ [k'] → Q (.ref D) H' := fun z => kk D H' s1 hD (by rw [z]; exact eD)
    cases hpr : (m.lg k').prop with
    | false =>
      refine iteF ?_
      refine Eq.mpr (if_neg (fun z => Bool.noConfusion z)) ?_
      refine ⟨_, rfl, hfin ?_⟩
      rw [hre]
      show xs ++ (k' :: (if (m.lg k').prop = true then _ else [])) = _
      rw [hpr, if_neg (fun z => Bool.noConfusion z)]
    | true =>
      refine iteT ?_
      refine ⟨_, rfl, _, rfl, D, _, _, _, rfl, rfl, SqL.of eD, hla, A k', _, dx, fs, _, rfl, e1, T.cl_Logger, T.no_Logger_parent, l7, rfl, _, rfl, ?_⟩
      have hre2 : reach m (k :: w2) = (xs ++ [k']) ++ reach m w' := by
        rw [hre]
        show xs ++ (k' :: (if (m.lg k').prop = true then reach m w' else [])) = _
        rw [hpr, if_pos rfl, List.append_assoc]
        rfl
      rcases hc'.head with ⟨h1, h2, k2, w3, rfl, h3⟩ | ⟨h1, rfl⟩
      · have hp := (hr2 h2).2
        rw [h3] at hp
        refine Eq.mpr (if_pos (by rw [hp]; simp)) ?_
        rw [List.length_cons] at hlx
        refine ⟨fun σ' H2 => Same H H2 ∧ σ' = [some (.ref (A k)), some (.ref D)] ∧ H2 D = some (.lst (((xs ++ [k']) ++ [k2]).map fun k => V.ref (A k))), ?_, ?_⟩
        · rintro σ2 H2 ⟨s2, rfl, e4⟩
          exact ⟨w3.length, by rw [List.length_cons]; omega, _, w3, rfl, s2, rfl, xs ++ [k'], k2, e4, rfl, by rw [List.length_append, List.length_singleton]; omega, hc'.tail, hre2⟩
        · refine ⟨_, rfl, .inl ⟨rfl, _, SqL.of eD⟩, ?_⟩
          refine ⟨_, rfl, _, rfl, D, _, _, _, rfl, rfl, SqL.of eD, hla, A k', _, dx, fs, _, rfl, e1, T.cl_Logger, T.no_Logger_parent, l7, ?_⟩
          refine ⟨D, _, _, rfl, rfl, eD, by rw [List.length_map, List.length_append, List.length_singleton, sizeLine_eq]; omega, Same.wr s1 hD, rfl, ?_⟩
          rw [upd_same, hp, List.map_append (l₁ := xs ++ [k'])]
          rfl
      · have hp := (hr1 h1).2
        refine Eq.mpr (if_neg (by rw [hp]; simp)) ?_
        refine ⟨_, rfl, hfin ?_⟩
        rw [hre2]
        show (xs ++ [k']) ++ [] = _
        rw [List.append_nil]

theorem met_Logger_reached (T : Txt w K mg) : Met P w K mg base 1 (ga K "Logger") "reached" (spReached K) [] := by
  obtain ⟨fd, f, F⟩ := fn_Logger_reached (P := P) (base := base) T
  have hB : Binds K fd ["self"] [] := F.bindsN (fun _ _ _ _ _ _ us hl => match us, hl with | [_], _ => rfl)
  have hV : Vals [] ([] : List Value) := .nil
  refine ⟨_, fd, _, _, T.cl_Logger, T.me_Logger_reached, ?_, hB, hV⟩
  exact f
theorem sc_is_made : FnScope ["yard", "name", "level", "logger"] ["yard", "name", "level"] (defScope s_is_made) := ⟨rfl, rfl, rfl, by decide +kernel, rfl, by decide +kernel, by decide +kernel⟩
theorem cal_is_made (T : Txt w K mg) : Cal P w K mg base 3 "is_made" (spIsMade K) [] := by
  obtain ⟨fd, F⟩ := T.df_is_made
  have c_nearest := cal_nearest (P := P) (base := base) T
  have c_Logger_getEffectiveLevel := met_Logger_getEffectiveLevel (P := P) (base := base) T
  have c_own_name := cal_own_name (P := P) (base := base) T
  have c_lets_by := cal_lets_by (P := P) (base := base) T
  refine ⟨_, fd, ["yard", "name", "level"], [], F.ok sc_is_made (fun vs H Q E h => ?_) (fun cdv A outer s H vs Q E hr h => ?_), T.m_is_made, F.kp, F.bindsN (fun _ _ _ _ _ _ us hl => match us, hl with | [_, _, _], _ => rfl), .nil⟩
  · obtain ⟨_, _, _, _, _, rfl, _⟩ := h
    rfl
  · obtain ⟨y, A, m, n, lv, rfl, hy, hn, ok, k⟩ := h
    refine ⟨_, PSs.nox (pss_cons (ps_set (i := 3) sc_is_made.nd rfl (Or.inl rfl) (pe_c c_nearest hr (by decide) (by rfl) (pa_cons (pv 0) (pa_cons (pv 1) pa_nil))))
      (pss_cut (ps_if (PW.pt (pw_or (pt_cmpR op_le (pv 2) (pe_fld (pv 0) rfl) (nomark _)) (pw_or1 (pt_cmpR op_lt (pv 2) (pe_mt0 c_Logger_getEffectiveLevel hr (by decide) (pv 3)) (nomark _)))))
        (pss_one (ps_ret pe_bl))
        pss_nil)
      (pss_cons (ps_if (pt_cmpR op_ne (pe_c c_own_name hr (by decide) (by rfl) (pa_cons (pv 3) pa_nil)) (pv 1) (nomark _))
        (pss_one (ps_ret pe_bl))
        pss_nil)
      (pss_one (ps_ret (pe_and (pe_not (pe_fld (pv 3) rfl)) (pe_one (pe_c c_lets_by hr (by decide) (by rfl) (pa_cons (pe_fld (pv 3) rfl) (pa_cons (pe_fld (pv 3) rfl) pa_nil)))))))))), ?_⟩
    refine ⟨_, rfl, _, rfl, y, A, m, n, rfl, hy, hn, fun H1 s1 => ?_⟩
    have hy1 := hy.same s1
    obtain ⟨k0, w0, hw⟩ := way_cons (keys := m.keys) (n := n)
    have hch := chain_way (keys := m.keys) hn
    have hhd := way_head (keys := m.keys) hn
    unfold madeB at k
    rw [hw] at hch hhd k
    rw [hw]
    have hhd' : k0 = n ↔ (n = "" ∨ n ∈ m.keys) := hhd
    obtain ⟨dy, fy, lm, no, lr, e1, l1, l2, l3, l4, l5, l6, l7, e2, e3, _⟩ := hy1.ins
    have hlv := hy1.lgv ok hch.mem
    have lok := ok.at_ hch.mem
    obtain ⟨nm, par, x, hr1, hr2⟩ := hy1.at_ hch.mem
    obtain ⟨dx, fs, fl, hl, ys, zs, g1, f1, f2, f3, f4, f5, f6, f7, g2, q2, g3, q3, f8, f9⟩ := x
    refine ⟨fun σ' H' => σ' = [some (.ref y), some (.str n), some (.int lv), some (.ref (A k0))] ∧ H' = H1 ∧ ¬ (lv ≤ m.bar ∨ lv < effL m (k0 :: w0)), ?_, ?_⟩
    · refine ⟨_, rfl, _, rfl, y, _, dy, fy, _, rfl, e1, T.cl_Yard, T.no_Yard_bar_level, l1, lv, m.bar, rfl, rfl, _, rfl, ?_⟩
      by_cases hb : lv ≤ m.bar
      · refine Eq.mpr (if_pos (decide_eq_true hb)) ?_
        refine iteT ?_
        have z := k H1 s1
        rw [if_pos (.inl hb)] at z
        exact z
      · refine Eq.mpr (if_neg (by rw [decide_eq_false hb]; exact Bool.false_ne_true)) ?_
        refine ⟨_, rfl, _, rfl, A k0, dx, fs, rfl, g1, f8, y, A, m, k0, w0, rfl, hy1, hch, lv, _, rfl, rfl, _, rfl, ?_⟩
        by_cases he : lv < effL m (k0 :: w0)
        · refine Eq.mpr (if_pos (decide_eq_true he)) ?_
          have z := k H1 s1
          rw [if_pos (.inr he)] at z
          exact z
        · refine Eq.mpr (if_neg (by rw [decide_eq_false he]; exact Bool.false_ne_true)) ?_
          exact ⟨rfl, rfl, fun z => z.elim hb he⟩
    · rintro σ' H' ⟨rfl, rfl, hno⟩
      rw [if_neg hno] at k
      refine ⟨_, rfl, _, lwX k0 (m.lg k0), rfl, hlv, _, rfl, rfl, _, rfl, ?_⟩
      by_cases e : k0 = n
      · subst e
        have hh : hasB m k0 = true := decide_eq_true (hhd'.mp rfl)
        rw [if_pos hh] at k
        refine Eq.mpr (if_neg (by show ¬ (!decide (V.str k0 = V.str k0)) = true; simp)) ?_
        refine ⟨_, rfl, A k0, _, dx, fs, _, rfl, g1, T.cl_Logger, T.no_Logger_disabled, f4, (m.lg k0).dis, rfl, _, rfl, ?_⟩
        have hnm : nm = shownN k0 := by
          unfold shownN
          by_cases z : k0 = ""
          · rw [if_pos z, (hr1 z).1]
          · rw [if_neg z, (hr2 z).1]
        cases hd : (m.lg k0).dis with
        | true =>
          refine iteF ?_
          have z := k H' s1
          rw [hd] at z
          exact z
        | false =>
          refine iteT ?_
          refine ⟨_, rfl, A k0, _, dx, fs, _, rfl, g1, T.cl_Logger, T.no_Logger_filters, f5, ?_⟩
          refine ⟨_, rfl, A k0, _, dx, fs, _, rfl, g1, T.cl_Logger, T.no_Logger_name, f1, ?_⟩
          refine ⟨fl, ys, (m.lg k0).fs, nm, rfl, g2, q2, lok.fs, lok.fl, fun H2 s2 => ?_⟩
          have z := k H2 (Same.tr s1 s2)
          rw [hd] at z
          rw [hnm]
          exact z
      · refine Eq.mpr (if_pos (by show (!decide (V.str k0 = V.str n)) = true; rw [decide_eq_false fun z => e (V.str.inj z)]; rfl)) ?_
        have hh : hasB m n = false := decide_eq_false fun z => e (hhd'.mpr z)
        have z := k H' s1
        rw [hh, if_neg (fun z => Bool.noConfusion z)] at z
        exact z

end
end Ry
namespace Ry
open PySem PySem.Spec PyProof.Rows L2 He RyH
open C8 (pss_cut tCut Cal Met Mak pe_c pe_mk pe_mt pe_mt0 pe_gc)
/-! ### the parts of lines: texts, marks -/
inductive Cl where
  | t (s : Str) | m (s : Str)
def CAt (K : PySem.W.Frag) (H : Hp) (v : V) : Cl → Prop
  | .t s => v = .str s
  | .m s => ∃ a, v = .ref a ∧ SqT K H a [.str s]
theorem CAt.same {K : PySem.W.Frag} {H H' : Hp} {v : V} {c : Cl} (h : CAt K H v c) (k : Same H H') : CAt K H' v c := by
  cases c with
  | t s => exact h
  | m s =>
    obtain ⟨a, e, q⟩ := h
    exact ⟨a, e, RyS.sqt_keep q fun o w => k _ _ w⟩
theorem sqt_upd {K : PySem.W.Frag} {H : Hp} {a D : Addr} {ys xs : List V} {o : HO} (h : SqT K H a ys) (e : H D = some (.lst xs)) : SqT K (L2.upd H D o) a ys := by
  rcases h with h | h
  · have ne : a ≠ D := fun z => by
      subst z
      rcases h with h | ⟨ob, h⟩
      · rw [e] at h; cases h
      · rw [e] at h; cases h
    rcases h with h | ⟨ob, h⟩
    · exact .inl (.inl (by rw [upd_ne ne]; exact h))
    · exact .inl (.inr ⟨ob, by rw [upd_ne ne]; exact h⟩)
  · exact .inr h
theorem CAt.upd {K : PySem.W.Frag} {H : Hp} {v : V} {c : Cl} {D : Addr} {xs : List V} {o : HO} (h : CAt K H v c) (e : H D = some (.lst xs)) : CAt K (L2.upd H D o) v c := by
  cases c with
  | t s => exact h
  | m s =>
    obtain ⟨a, e', q⟩ := h
    exact ⟨a, e', sqt_upd q e⟩
def clen : Cl → Nat
  | .t s => s.length
  | .m _ => 0
theorem sqt_ty {K : PySem.W.Frag} {H : Hp} {a : Addr} {ys : List V} (h : SqT K H a ys) : TyX K H (.ref a) (.type "tuple") := by
  rcases h with h | ⟨ob, its, n, hk, hc, hs, hz, r⟩
  · rcases h with h | ⟨ob, h⟩
    · exact .base (.tup h)
    · exact .fTuple h
  · exact .kTuple hk hc
/-- is a part a text -/
def Cl.isT : Cl → Bool
  | .t _ => true
  | .m _ => false
theorem CAt.isStr {K : PySem.W.Frag} {H : Hp} {v : V} {c : Cl} (h : CAt K H v c) : ∃ t, TyX K H v t ∧ PySem.W.kitOne K t (.type "str") = some c.isT := by
  cases c with
  | t s =>
    cases (show v = .str s from h)
    exact ⟨_, .base (.str _), kit_ty (show kitB "str" "str" = some true by decide +kernel)⟩
  | m s =>
    obtain ⟨a, rfl, q⟩ := h
    exact ⟨_, sqt_ty q, kit_ty (show kitB "tuple" "str" = some false by decide +kernel)⟩
def joinsC (acc : List Cl) (c : Cl) : Bool := match c, acc.getLast? with
  | .t _, some (.t _) => true
  | _, _ => false
def dropsC : Cl → Bool
  | .t s => decide (s = "")
  | .m _ => false
def mstep (acc : List Cl) (c : Cl) : List Cl := match c, acc.getLast? with
  | .t s, some (.t r) => acc.dropLast ++ [.t (r ++ s)]
  | c, _ => if dropsC c = true then acc else acc ++ [c]
def mergeC (cs : List Cl) : List Cl := cs.foldl mstep []
theorem mstep_join {acc : List Cl} {c : Cl} (h : joinsC acc c = true) : ∃ acc' r s, c = .t s ∧ acc = acc' ++ [.t r] ∧ mstep acc c = acc' ++ [.t (r ++ s)] := by
  rcases List.eq_nil_or_concat acc with e | ⟨acc', j, e⟩
  · subst e
    cases c <;> cases h
  · rw [List.concat_eq_append] at e
    subst e
    cases c with
    | m s => cases h
    | t s =>
      cases j with
      | m r =>
        unfold joinsC at h
        rw [List.getLast?_concat] at h
        cases h
      | t r =>
        refine ⟨acc', r, s, rfl, rfl, ?_⟩
        unfold mstep
        rw [List.getLast?_concat]
        show (acc' ++ [Cl.t r]).dropLast ++ _ = _
        rw [List.dropLast_concat]
theorem mstep_app {acc : List Cl} {c : Cl} (h : joinsC acc c = false) : mstep acc c = if dropsC c = true then acc else acc ++ [c] := by
  cases c with
  | m s => unfold mstep; rfl
  | t s =>
    unfold mstep
    unfold joinsC at h
    cases e : acc.getLast? with
    | none => rfl
    | some j =>
      cases j with
      | m r => rfl
      | t r => rw [e] at h; cases h
theorem joinsC_nil (c : Cl) : joinsC [] c = false := by cases c <;> rfl
theorem joinsC_snoc (acc : List Cl) (j c : Cl) : joinsC (acc ++ [j]) c = (c.isT && j.isT) := by
  unfold joinsC
  rw [List.getLast?_concat]
  cases c <;> cases j <;> rfl
def csum (cs : List Cl) : Nat := (cs.map clen).sum
theorem csum_app (a b : List Cl) : csum (a ++ b) = csum a + csum b := by
  unfold csum
  rw [List.map_append, List.sum_append]
theorem str_len_app (a b : Str) : (a ++ b).length = a.length + b.length := by
  show (a.cps ++ b.cps).size = _
  rw [Array.size_append]
  rfl
theorem mstep_sum (acc : List Cl) (c : Cl) : csum (mstep acc c) ≤ csum acc + clen c ∧ (mstep acc c).length ≤ acc.length + 1 := by
  cases h : joinsC acc c with
  | true =>
    obtain ⟨acc', r, s, rfl, rfl, e⟩ := mstep_join h
    rw [e, csum_app, csum_app, List.length_append, List.length_append]
    refine ⟨?_, by simp only [List.length_singleton]; omega⟩
    have e1 : csum [Cl.t (r ++ s)] = r.length + s.length := by
      show (r ++ s).length + 0 = _
      rw [str_len_app]
      rfl
    have e2 : csum [Cl.t r] = r.length := Nat.add_zero _
    have e3 : clen (Cl.t s) = s.length := rfl
    omega
  | false =>
    rw [mstep_app h]
    split
    · exact ⟨by omega, by omega⟩
    · rw [csum_app, List.length_append, List.length_singleton]
      have e1 : csum [c] = clen c := Nat.add_zero _
      exact ⟨by omega, by omega⟩
theorem mergeF_sum : ∀ (cs acc : List Cl), csum (cs.foldl mstep acc) ≤ csum acc + csum cs ∧ (cs.foldl mstep acc).length ≤ acc.length + cs.length
  | [], acc => ⟨Nat.le_refl _, Nat.le_refl _⟩
  | c :: cs, acc => by
    have z := mergeF_sum cs (mstep acc c)
    have y := mstep_sum acc c
    have e : csum (c :: cs) = clen c + csum cs := by unfold csum; rw [List.map_cons, List.sum_cons]
    rw [List.foldl_cons, List.length_cons]
    omega
theorem mergeC_sum (cs : List Cl) : csum (mergeC cs) ≤ csum cs ∧ (mergeC cs).length ≤ cs.length := by
  have z := mergeF_sum cs []
  have e : csum [] = 0 := rfl
  rw [List.length_nil] at z
  unfold mergeC
  omega
theorem csum_mem {c : Cl} : ∀ {cs : List Cl}, c ∈ cs → clen c ≤ csum cs
  | d :: cs, h => by
    have e : csum (d :: cs) = clen d + csum cs := by unfold csum; rw [List.map_cons, List.sum_cons]
    rcases List.mem_cons.mp h with rfl | h
    · omega
    · have := csum_mem h
      omega
theorem csum_take (cs : List Cl) (i : Nat) : csum (cs.take i) ≤ csum cs := by
  have e : csum (cs.take i) + csum (cs.drop i) = csum cs := by rw [← csum_app, List.take_append_drop]
  omega
/-! ### lines -/
def jpC (f : Str → List Cl) : JP → List Cl
  | .txt l => [.t (tx l)]
  | .fld nm => f (tx nm)
def lineP (o : Option (List FP)) (f : Str → List Cl) : List Cl := match o with
  | none => f "message"
  | some ps => (joinT (toks ps)).flatMap (jpC f)
def lineC (x : HX) (f : Str → List Cl) : List Cl := lineP x.fmt f ++ [.t x.term]
/-- the dict of values -/
structure VAt (K : PySem.W.Frag) (H : Hp) (d : Addr) (f : Str → List Cl) : Prop where
  at_ : ∃ kvs, H d = some (.dK kvs) ∧ ∀ nm ∈ markMenu, ∃ l us, valV kvs (kS nm) = some (.ref l) ∧ H l = some (.lst us) ∧ Paired (CAt K H) us (f nm)
theorem VAt.same {K : PySem.W.Frag} {H H' : Hp} {d : Addr} {f : Str → List Cl} (h : VAt K H d f) (k : Same H H') : VAt K H' d f := by
  obtain ⟨kvs, e, q⟩ := h.at_
  exact ⟨kvs, k _ _ e, fun nm hm => let ⟨l, us, a, b, c⟩ := q nm hm; ⟨l, us, a, k _ _ b, Paired.impl c fun _ _ z => z.same k⟩⟩
structure Vok (f : Str → List Cl) : Prop where
  len : ∀ nm ∈ markMenu, (f nm).length ≤ 2
  sum : ∀ nm ∈ markMenu, csum (f nm) ≤ 200
theorem tok1_len : ∀ x ∈ txtMenu, x.cps.size ≤ 8 := by decide +kernel
theorem toks_le : ∀ {ps : List FP}, (∀ p ∈ ps, p.ok) → (toks ps).length ≤ 8 * ps.length
  | [], _ => Nat.le_refl _
  | p :: ps, h => by
    have z := toks_le (ps := ps) fun q hq => h q (List.mem_cons_of_mem _ hq)
    have e : (toks (p :: ps)).length = (tok1 p).length + (toks ps).length := by
      unfold toks
      rw [List.flatMap_cons, List.length_append]
    have y : (tok1 p).length ≤ 8 := by
      have hp := h p (List.mem_cons_self ..)
      cases p with
      | txt x =>
        have := tok1_len x hp
        show (x.cps.toList.map _).length ≤ 8
        rw [List.length_map, Array.length_toList]
        exact this
      | mark x => exact Nat.le_of_ble_eq_true rfl
    rw [e, List.length_cons]
    omega
def jlen : JP → Nat
  | .txt l => l.length
  | .fld _ => 1
theorem joinStep_sum (acc : List JP) (t : Tk) : ((joinStep acc t).map jlen).sum ≤ (acc.map jlen).sum + 1 := by
  cases q : joins acc t with
  | true =>
    obtain ⟨acc', l, c, rfl, e0, e1⟩ := step_join q
    rw [e1, e0, List.map_append, List.map_append, List.sum_append, List.sum_append]
    simp only [List.map_cons, List.map_nil, List.sum_cons, List.sum_nil, jlen, List.length_append, List.length_singleton]
    omega
  | false =>
    obtain ⟨j, e, hj⟩ : ∃ j, joinStep acc t = acc ++ [j] ∧ jlen j ≤ 1 := by
      have e2 := step_app q
      cases t with
      | ch c => exact ⟨_, e2, Nat.le_refl _⟩
      | fld nm => exact ⟨_, e2, Nat.le_refl _⟩
    rw [e, List.map_append, List.sum_append, List.map_singleton, List.sum_singleton]
    omega
theorem joinF_sum : ∀ (ts : List Tk) (acc : List JP), ((ts.foldl joinStep acc).map jlen).sum ≤ (acc.map jlen).sum + ts.length
  | [], acc => Nat.le_refl _
  | t :: ts, acc => by
    have z := joinF_sum ts (joinStep acc t)
    have y := joinStep_sum acc t
    rw [List.foldl_cons, List.length_cons]
    omega
theorem tx_length (l : List Nat) : (tx l).length = l.length := tx_len l
theorem flatC_sum {f : Str → List Cl} (hf : Vok f) : ∀ {js : List JP}, (∀ nm, JP.fld nm ∈ js → tx nm ∈ markMenu) → csum (js.flatMap (jpC f)) ≤ 200 * (js.map jlen).sum ∧ (js.flatMap (jpC f)).length ≤ 2 * js.length
  | [], _ => ⟨Nat.le_refl _, Nat.le_refl _⟩
  | j :: js, h => by
    have z := flatC_sum hf (js := js) fun nm hm => h nm (List.mem_cons_of_mem _ hm)
    rw [List.flatMap_cons, csum_app, List.length_append, List.map_cons, List.sum_cons, List.length_cons]
    have y : csum (jpC f j) ≤ 200 * jlen j ∧ (jpC f j).length ≤ 2 := by
      cases j with
      | txt l =>
        have e : csum (jpC f (.txt l)) = l.length := by
          show (tx l).length + 0 = _
          rw [tx_length]
          rfl
        refine ⟨?_, Nat.le_of_ble_eq_true rfl⟩
        rw [e]
        show l.length ≤ 200 * l.length
        omega
      | fld nm =>
        have hm := h nm (List.mem_cons_self ..)
        exact ⟨by show csum (f (tx nm)) ≤ 200 * 1; have := hf.sum _ hm; omega, hf.len _ hm⟩
    omega
theorem term_len : ∀ x ∈ endMenu, x.length ≤ 4 := by decide +kernel
theorem msg_mark : ("message" : Str) ∈ markMenu := by decide
theorem lineP_len {o : Option (List FP)} {f : Str → List Cl} (hf : Vok f) (ok : ∀ ps, o = some ps → ps.length ≤ 10 ∧ ∀ p ∈ ps, p.ok) : csum (lineP o f) ≤ 16000 ∧ (lineP o f).length ≤ 160 := by
  cases o with
  | none => exact ⟨Nat.le_trans (hf.sum _ msg_mark) (by decide), Nat.le_trans (hf.len _ msg_mark) (by decide)⟩
  | some ps =>
    obtain ⟨hl, hp⟩ := ok ps rfl
    have z := flatC_sum hf (js := joinT (toks ps)) fun nm hm => fld_menu hp hm
    have y := joinF_sum (toks ps) []
    have x := joinT_len (toks ps)
    have w := toks_le hp
    have e : (([] : List JP).map jlen).sum = 0 := rfl
    have e2 : ((joinT (toks ps)).map jlen).sum = (((toks ps).foldl joinStep []).map jlen).sum := rfl
    have e3 : lineP (some ps) f = (joinT (toks ps)).flatMap (jpC f) := rfl
    rw [e3]
    omega
theorem lineC_len {x : HX} {f : Str → List Cl} (hf : Vok f) (ok : HXok x) : csum (lineC x f) ≤ 16004 ∧ (lineC x f).length ≤ 161 := by
  have z := lineP_len hf ok.fmt
  have y := term_len _ ok.term
  unfold lineC
  rw [csum_app, List.length_append, List.length_singleton]
  have e : csum [Cl.t x.term] = x.term.length := Nat.add_zero _
  omega
/-! ### the promises -/
def spWriters (K : PySem.W.Frag) : Sp := fun vs H Q _ => ∃ (y : Addr) (A : Str → Addr) (m : Mdl) (n : Str) (lv : Int) (H0 : Hp), vs = [.ref y, .str n, .int lv] ∧ YdX K H0 y A m ∧ Same H0 H ∧ NmOk n ∧ Mok m ∧
  ∀ p ws H', Same H H' → H p = none → H' p = some (.lst ws) → Paired (HdX K H0) ws (wrX m n lv) → Q (.ref p) H'
def spLineParts (K : PySem.W.Frag) : Sp := fun vs H Q _ => ∃ (v : V) (d : Addr) (x : HX) (f : Str → List Cl) (H0 : Hp), vs = [v, .ref d] ∧ HdX K H0 v x ∧ HXok x ∧ VAt K H0 d f ∧ Same H0 H ∧ Vok f ∧
  ∀ p us H', Same H H' → H p = none → H' p = some (.lst us) → Paired (CAt K H0) us (lineC x f) → Q (.ref p) H'
def spMerged (K : PySem.W.Frag) : Sp := fun vs H Q _ => ∃ (p : Addr) (us : List V) (cs : List Cl), vs = [.ref p] ∧ H p = some (.lst us) ∧ Paired (CAt K H) us cs ∧ cs.length ≤ 100000 ∧ csum cs ≤ 4000000 ∧
  ∀ q ws H', Same H H' → H q = none → H' q = some (.tup ws) → Paired (CAt K H') ws (mergeC cs) → Q (.ref q) H'
theorem reach_len (m : Mdl) : ∀ w : List Str, (reach m w).length ≤ w.length
  | [] => Nat.le_refl _
  | k :: w => by
    have z := reach_len m w
    show (k :: (if (m.lg k).prop = true then reach m w else [])).length ≤ _
    rw [List.length_cons, List.length_cons]
    split
    · omega
    · exact Nat.succ_le_succ (Nat.zero_le _)
theorem reach_mem {m : Mdl} {k : Str} : ∀ {w : List Str}, k ∈ reach m w → k ∈ w
  | [], h => by cases h
  | a :: w, h => by
    rcases List.mem_cons.mp (show k ∈ a :: (if (m.lg a).prop = true then reach m w else []) from h) with rfl | h
    · exact List.mem_cons_self ..
    · split at h
      · exact List.mem_cons_of_mem _ (reach_mem h)
      · cases h
theorem flat4_le {m : Mdl} (ok : Mok m) : ∀ {w : List Str}, (∀ k ∈ w, k = "" ∨ k ∈ m.keys) → (w.flatMap fun k => (m.lg k).hs).length ≤ 4 * w.length
  | [], _ => Nat.le_refl _
  | k :: w, h => by
    have z := flat4_le ok (w := w) fun q hq => h q (List.mem_cons_of_mem _ hq)
    have y := (ok.at_ (h k (List.mem_cons_self ..))).hs
    rw [List.flatMap_cons, List.length_append, List.length_cons]
    omega
theorem reach_way {m : Mdl} {n k : Str} (h : k ∈ reach m (way m.keys n)) : k = "" ∨ k ∈ m.keys := way_mem (reach_mem h)
theorem hangs_ok {m : Mdl} {n : Str} (ok : Mok m) (hn : NmOk n) : (hangs m n).length ≤ 84 ∧ ∀ h ∈ hangs m n, HXok h := by
  refine ⟨?_, fun h hh => ?_⟩
  · have z := flat4_le ok (w := reach m (way m.keys n)) fun k hk => reach_way hk
    have y := reach_len m (way m.keys n)
    have x := way_len (keys := m.keys) hn
    unfold hangs
    omega
  · obtain ⟨k, hk, q⟩ := List.mem_flatMap.mp hh
    exact (ok.at_ (reach_way hk)).each h q
theorem resort_ok : HXok resortX := ⟨by decide, (fun _ h => nomatch h), (fun _ h => nomatch h), by decide, by decide⟩
theorem wr_ok {m : Mdl} {n : Str} {lv : Int} (ok : Mok m) (hn : NmOk n) : (wrX m n lv).length ≤ 84 ∧ ∀ h ∈ wrX m n lv, HXok h := by
  have hh := hangs_ok ok hn
  unfold wrX
  split
  · split
    · split
      · exact ⟨by decide, fun h z => by rw [List.mem_singleton.mp z]; exact resort_ok⟩
      · exact ⟨by decide, fun h z => nomatch z⟩
    · exact ⟨Nat.le_trans (List.length_filter_le ..) (Nat.le_trans (List.length_filter_le ..) hh.1), fun h z => hh.2 h (List.mem_filter.mp (List.mem_filter.mp z).1).1⟩
  · exact ⟨by decide, fun h z => nomatch z⟩
theorem take_filter_snoc {α : Type} {f : α → Bool} {xs : List α} {i : Nat} {x : α} (h : xs[i]? = some x) : (xs.take (i + 1)).filter f = (xs.take i).filter f ++ (if f x = true then [x] else []) := by
  rw [take_nth h, List.filter_append]
  congr 1
  cases e : f x with
  | true => rw [if_pos rfl, List.filter_cons_of_pos e]; rfl
  | false => rw [if_neg (fun z => Bool.noConfusion z), List.filter_cons_of_neg (by rw [e]; exact Bool.false_ne_true)]; rfl
theorem HdX.wr {K : PySem.W.Frag} {H H0 : Hp} {v : V} {x : HX} {D : Addr} {o : HO} (h : HdX K H v x) (s : Same H H0) (hD : H D = none) : HdX K (L2.upd H0 D o) v x := h.same (Same.wr s hD)
section
variable {P : Program} {w : World} {K : PySem.W.Frag} {mg : Str → Option Value} {base : Heap}
theorem sc_writers : FnScope ["yard", "name", "level", "handlers", "logger", "shown", "some", "one"] ["yard", "name", "level"] (defScope s_writers) := ⟨rfl, rfl, rfl, by decide +kernel, rfl, by decide +kernel, by decide +kernel⟩
theorem cal_writers (T : Txt w K mg) : Cal P w K mg base 4 "writers" (spWriters K) [] := by
  obtain ⟨fd, F⟩ := T.df_writers
  have c_is_made := cal_is_made (P := P) (base := base) T
  have c_Logger_reached := met_Logger_reached (P := P) (base := base) T
  have c_nearest := cal_nearest (P := P) (base := base) T
  have c_lets_by := cal_lets_by (P := P) (base := base) T
  refine ⟨_, fd, ["yard", "name", "level"], [], F.ok sc_writers (fun vs H Q E h => ?_) (fun cdv A outer s H vs Q E hr h => ?_), T.m_writers, F.kp, F.bindsN (fun _ _ _ _ _ _ us hl => match us, hl with | [_, _, _], _ => rfl), .nil⟩
  · obtain ⟨_, _, _, _, _, _, rfl, _⟩ := h
    rfl
  · obtain ⟨y, A, m, n, lv, H0, rfl, hy0, s00, hn, ok, k⟩ := h
    refine ⟨_, PSs.nox (pss_cons (ps_if (pt_not (pt_val (pe_c c_is_made hr (by decide) (by rfl) (pa_cons (pv 0) (pa_cons (pv 1) (pa_cons (pv 2) pa_nil))))))
        (pss_one (ps_ret (pe_lst pa_nil)))
        pss_nil)
      (pss_cons (ps_set (i := 3) sc_writers.nd rfl (Or.inl rfl) (pe_lst pa_nil))
      (pss_cons (ps_for PassesOwn.never rfl (pi_list (pe_mt0 c_Logger_reached hr (by decide) (pe_c c_nearest hr (by decide) (by rfl) (pa_cons (pv 0) (pa_cons (pv 1) pa_nil))))) (pg_name (i := 4) sc_writers.nd rfl (Or.inl rfl))
        (pss_one (ps_expr (pe_bm PySem.F.plainAttrs_list PySem.F.slot_list_extend PySem.F.type_list_extend mt_extend (pv 3) (pa_cons (pe_fld (pv 4) rfl) pa_nil)))))
      (pss_cons (ps_if (pt_cmpR (RyN.op_eqNil hr.units) (pv 3) (pe_lst pa_nil) (nomark _))
        (pss_one (ps_ret (RyT.pe_cutE (pe_ifExp (pt_cmpR op_ge (pv 2) (pe_gc (by rfl) (T.c_WARNING)) (nomark _)) (pe_lst (pa_cons (pe_fld (pv 0) rfl) pa_nil)) (pe_lst pa_nil)))))
        pss_nil)
      (pss_cons (ps_set (i := 5) sc_writers.nd rfl (Or.inr rfl) (RyT.pe_cutE (pe_ifExp (pt_cmpR op_eq (pv 1) pe_str (nomark _)) pe_str (pv 1))))
      (pss_cons (ps_setLc (i := 6) (own := [("one", 7)]) rfl sc_writers.nd rfl rfl (sw_true rfl rfl rfl (by decide +kernel)) (pi_list (pv 3)) (blkOk_by (N := ["yard", "name", "level", "handlers", "logger", "shown", "some", "one"]) (sc := defScope s_writers) (own := [("one", 7)]) (by decide +kernel)) (fun _ _ _ _ _ => pg_name (i := 7) sc_writers.nd rfl (Or.inl rfl)) (fun _ _ _ _ _ => pts_one (PW.pt (pw_and (pt_cmpR op_le (RyS.pe_fldB (K := K) rfl (pv 7) rfl) (pv 2) (nomark _)) (pw_and1 (pt_val (pe_callB (id := "isinstance") (r := rIsi K) call_isi (by rfl) T.f_isinstance (by decide +kernel) (pa_cons (pv 7) (pa_cons (pe_gc (by rfl) (T.gv_StreamHandler)) pa_nil)))))))) (fun _ _ _ _ _ => (pv 7)))
      (pss_one (ps_ret (pe_lc (own := [("one", 7)]) rfl sc_writers.nd (pi_list (pv 6)) (blkOk_by (N := ["yard", "name", "level", "handlers", "logger", "shown", "some", "one"]) (sc := defScope s_writers) (own := [("one", 7)]) (by decide +kernel)) (fun _ _ _ _ _ => pg_name (i := 7) sc_writers.nd rfl (Or.inl rfl)) (fun _ _ _ _ _ => pts_one (pt_val (pe_c c_lets_by hr (by decide) (by rfl) (pa_cons (RyS.pe_fldB (K := K) rfl (pv 7) rfl) (pa_cons (pv 5) pa_nil))))) (fun _ _ _ _ _ => (pv 7))))))))))), ?_⟩
    have hy := hy0.same s00
    refine ⟨_, rfl, _, rfl, _, rfl, y, A, m, n, lv, rfl, hy, hn, ok, fun H1 s1 => ⟨_, rfl, ?_⟩⟩
    have s01 := Same.tr s00 s1
    unfold wrX at k
    cases hmade : madeB m n lv with
    | false =>
      refine iteT ?_
      rw [hmade, if_neg (fun z => Bool.noConfusion z)] at k
      refine ⟨ssz rfl, fun p hp => ?_⟩
      exact k p [] _ (Same.tr s1 (Same.nw hp)) (Same.was s1 hp) upd_same .nil
    | true =>
      refine iteF ?_
      rw [hmade, if_pos rfl] at k
      have hy1 := hy.same s1
      refine ⟨ssz rfl, fun D hD => ?_⟩
      have sD := Same.nw (o := .lst []) hD
      have e0 := upd_same (H := H1) (a := D) (o := .lst [])
      generalize L2.upd H1 D _ = H2 at sD e0 ⊢
      have hy2 := hy1.same sD
      refine ⟨_, rfl, _, rfl, y, A, m, n, rfl, hy2, hn, fun H3 s3 => ?_⟩
      have hy3 := hy2.same s3
      obtain ⟨k0, w0, hw⟩ := way_cons (keys := m.keys) (n := n)
      have hch := chain_way (keys := m.keys) hn
      have hwl := way_len (keys := m.keys) hn
      rw [hw] at hch hwl
      rw [hw]
      obtain ⟨nm0, par0, x0, _, _⟩ := hy3.at_ hch.mem
      obtain ⟨dx, fs, fl, hl, ys, zs, g1, f1, f2, f3, f4, f5, f6, f7, g2, q2, g3, q3, f8, f9⟩ := x0
      refine ⟨A k0, dx, fs, rfl, g1, f9, y, A, m, k0, w0, rfl, hy3, hch, hwl, fun p H4 s4 pn e4 => ?_⟩
      have hrw : reach m (k0 :: w0) = reach m (way m.keys n) := by rw [hw]
      have hrm : ∀ q ∈ reach m (k0 :: w0), q = "" ∨ q ∈ m.keys := fun q hq => reach_way (n := n) (by rw [hrw] at hq; exact hq)
      have hrl : (reach m (k0 :: w0)).length ≤ 21 := Nat.le_trans (reach_len ..) hwl
      have hD3 := s3 _ _ e0
      have hD4 := s4 _ _ hD3
      have h1D := Same.tr s1 (Same.tr sD (Same.tr s3 s4))
      have h1D' := Same.tr sD (Same.tr s3 s4)
      refine ⟨p, rfl, ⟨_, SqL.of e4⟩, ?_⟩
      refine for_list (xs := (reach m (k0 :: w0)).map fun k => V.ref (A k)) (fun j σ' H' => ∃ (o4 : Option V) (ws : List V), σ' = [some (.ref y), some (.str n), some (.int lv), some (.ref D), o4, none, none, none] ∧ Same H1 H' ∧ H' p = some (.lst ((reach m (k0 :: w0)).map fun k => V.ref (A k))) ∧ H' D = some (.lst ws) ∧ Paired (HdX K H0) ws (((reach m (k0 :: w0)).take j).flatMap fun k => (m.lg k).hs)) ⟨_, [], rfl, h1D', e4, hD4, .nil⟩ (fun j σ' H' _ ⟨_, _, _, _, e, _⟩ => SqL.of e) ?_ ?_
      · rintro j z σ' H5 hz ⟨o4, ws, rfl, s5, e5, eD5, hP⟩
        rw [List.getElem?_map] at hz
        obtain ⟨q, eq, rfl⟩ := Option.map_eq_some_iff.mp hz
        have hq := hrm q (List.mem_of_getElem? eq)
        have hj : j < (reach m (k0 :: w0)).length := (List.getElem?_eq_some_iff.mp eq).1
        have s05 := Same.tr s01 s5
        obtain ⟨nm, par, x, _, _⟩ := hy0.at_ hq
        obtain ⟨dx1, fs1, fl1, hl1, ys1, zs1, i1, j1, j2, j3, j4, j5, j6, j7, i2, r2, i3, r3, j8, j9⟩ := x
        refine ⟨_, rfl, .inl ⟨rfl, _, SqL.of eD5⟩, ?_⟩
        refine ⟨_, rfl, A q, _, dx1, fs1, _, rfl, s05 _ _ i1, T.cl_Logger, T.no_Logger_handlers, j6, ?_⟩
        have l1 := Paired.length hP
        have l2 := Paired.length r3
        have l3 := (ok.at_ hq).hs
        have l4 := flat4_le ok (w := (reach m (k0 :: w0)).take j) fun z hz => hrm z (List.mem_of_mem_take hz)
        rw [List.length_take] at l4
        have hpD : p ≠ D := fun z => by rw [z, hD3] at pn; cases pn
        refine ⟨D, hl1, ws, zs1, rfl, rfl, eD5, s05 _ _ i3, by rw [sizeLine_eq]; omega, _, _, rfl, Same.wr s5 hD, by rw [upd_ne hpD]; exact e5, upd_same, ?_⟩
        rw [take_nth eq, List.flatMap_append]
        refine Paired.app' hP ?_
        rw [List.flatMap_cons, List.flatMap_nil, List.append_nil]
        exact r3
      · rintro σ' H5 ⟨o4, ws, rfl, s5, e5, eD5, hP⟩
        rw [List.length_map, List.take_length, hrw] at hP
        have hP' : Paired (HdX K H0) ws (hangs m n) := hP
        clear hP
        obtain ⟨hh1, hh2⟩ := hangs_ok ok hn
        have lws := Paired.length hP'
        refine ⟨_, rfl, ssz rfl, fun p2 hp2 => ?_⟩
        have s6 := Same.tr s5 (Same.nw (o := .lst []) hp2)
        have e6 : (L2.upd H5 p2 (.lst [])) D = some (.lst ws) := upd_at eD5 hp2
        refine ⟨D, p2, ws, rfl, rfl, SqL.of e6, SqL.of upd_same, _, rfl, ?_⟩
        generalize L2.upd H5 p2 _ = H6 at s6 e6 ⊢
        have sH6 := Same.tr s1 s6
        have s06 := Same.tr s01 s6
        cases ews : ws.isEmpty with
        | true =>
          refine iteT ?_
          have hnil : hangs m n = [] := by
            cases ws with
            | nil => exact List.eq_nil_of_length_eq_zero lws.symm
            | cons a b => cases ews
          rw [if_pos hnil] at k
          refine ⟨fun u H' => ∃ p ws, u = .ref p ∧ Same H1 H' ∧ H p = none ∧ H' p = some (.lst ws) ∧ Paired (HdX K H0) ws (if lv ≥ 30 then [resortX] else []), ?_, ?_⟩
          · refine ⟨_, rfl, lv, 30, rfl, rfl, _, rfl, ?_⟩
            obtain ⟨dy, fy, lm, no, lr, e1, l1, l2, l3, l4, l5, l6, l7, e2, e3, hr0⟩ := hy0.ins
            by_cases h30 : lv ≥ 30
            · rw [if_pos h30]
              refine Eq.mpr (if_pos (decide_eq_true h30)) ?_
              refine ⟨_, rfl, y, _, dy, fy, _, rfl, s06 _ _ e1, T.cl_Yard, T.no_Yard_last_resort, l5, ssz rfl, fun p3 hp3 => ?_⟩
              exact ⟨p3, _, rfl, Same.tr s6 (Same.nw hp3), Same.was sH6 hp3, upd_same, .cons hr0 .nil⟩
            · rw [if_neg h30]
              refine Eq.mpr (if_neg (by rw [decide_eq_false h30]; exact Bool.false_ne_true)) ?_
              refine ⟨ssz rfl, fun p3 hp3 => ?_⟩
              exact ⟨p3, _, rfl, Same.tr s6 (Same.nw hp3), Same.was sH6 hp3, upd_same, .nil⟩
          · rintro _ H7 ⟨p3, ws3, rfl, s7, hp3, e7, hP7⟩
            exact k p3 ws3 H7 (Same.tr s1 s7) hp3 e7 hP7
        | false =>
          refine iteF ?_
          have hnil : hangs m n ≠ [] := fun z => by
            rw [z] at lws
            rw [List.eq_nil_of_length_eq_zero lws] at ews
            cases ews
          rw [if_neg hnil] at k
          refine ⟨fun u H' => u = .str (shownN n) ∧ H6 = H', ?_, ?_⟩
          · refine ⟨_, rfl, rfl, _, rfl, ?_⟩
            unfold shownN
            by_cases e : n = ""
            · rw [if_pos e]
              refine Eq.mpr (if_pos (decide_eq_true (by rw [e]))) ?_
              exact ⟨rfl, rfl⟩
            · rw [if_neg e]
              refine Eq.mpr (if_neg (by rw [decide_eq_false fun z => e (V.str.inj z)]; exact Bool.false_ne_true)) ?_
              exact ⟨_, rfl, rfl, rfl⟩
          rintro _ _ ⟨rfl, rfl⟩
          refine ⟨_, rfl, D, rfl, ⟨_, SqL.of e6⟩, fun D2 hD2 => ?_⟩
          refine lc_list (xs := ws) (fun i H' => Same H6 H' ∧ ∃ ws2, H' D2 = some (.lst ws2) ∧ Paired (HdX K H0) ws2 (((hangs m n).take i).filter fun h => decide (h.level ≤ lv) && !h.null)) ⟨Same.nw hD2, [], upd_same, .nil⟩ (fun i H' _ h => SqL.of (h.1 _ _ e6)) ?_ ?_
          · rintro i v H' hv ⟨s7, ws2, e7, hP2⟩
            obtain ⟨h, eh, hx⟩ := Paired.nth hP' hv
            have l2 := Paired.length hP2
            have l3 := List.length_filter_le (fun h : HX => decide (h.level ≤ lv) && !h.null) ((hangs m n).take i)
            rw [List.length_take] at l3
            have hx0 := hx
            obtain ⟨a, dx1, fs1, fl1, ys1, fm1, rfl, i1, j1, j2, j3, j4, j5, i2, r2, fx⟩ := hx
            have i1' := s7 _ _ (s06 _ _ i1)
            have c : HC K (ga K (if h.null = true then "NullHandler" else "StreamHandler")) := by
              cases h.null with
              | true => exact .inr rfl
              | false => exact .inl rfl
            have hc := c.hcls T
            have cc := c.cmp T
            refine ⟨rfl, ?_⟩
            refine ⟨_, rfl, a, _, dx1, fs1, _, rfl, i1', hc.cl, hc.level, j1, ?_⟩
            refine ⟨_, rfl, _, _, rfl, rfl, _, rfl, ?_⟩
            have no : (decide (h.level ≤ lv) && !h.null) = false → Same H6 H' ∧ ∃ ws2, H' D2 = some (.lst ws2) ∧ Paired (HdX K H0) ws2 (((hangs m n).take (i + 1)).filter fun h => decide (h.level ≤ lv) && !h.null) := fun e => ⟨s7, ws2, e7, by rw [take_filter_snoc eh, e, if_neg (fun z => Bool.noConfusion z), List.append_nil]; exact hP2⟩
            by_cases hlv : h.level ≤ lv
            · refine Eq.mpr (if_pos (decide_eq_true hlv)) ?_
              have kk : PySem.W.kitOne K (.ref (ga K (if h.null = true then "NullHandler" else "StreamHandler"))) (.ref (ga K "StreamHandler")) = some (!h.null) := by
                cases h.null with
                | true => exact T.k2_NullHandler_StreamHandler
                | false => exact kit_self
              refine ⟨_, rfl, _, _, _, _, _, rfl, .own _, .base (.ins i1' hc.cl cc.ha cc.hn cc.htk cc.ob), kk, _, rfl, ?_⟩
              cases hnl : h.null with
              | true => exact iteF (no (by rw [hnl]; exact Bool.and_false _))
              | false =>
                refine iteT ?_
                refine ⟨_, rfl, ws2, e7, by rw [sizeLine_eq]; omega, Same.wr s7 hD2, ws2 ++ [.ref a], upd_same, ?_⟩
                rw [take_filter_snoc eh, if_pos (by rw [hnl, decide_eq_true hlv]; rfl)]
                exact Paired.app' hP2 (.cons hx0 .nil)
            · refine Eq.mpr (if_neg (by rw [decide_eq_false hlv]; exact Bool.false_ne_true)) ?_
              exact iteF (no (by rw [decide_eq_false hlv]; rfl))
          · rintro H7 ⟨s7, ws2, e7, hP2⟩
            rw [lws, List.take_length] at hP2
            have s67 := Same.tr s6 s7
            have s067 := Same.tr s06 s7
            have l2 := Paired.length hP2
            have l3 := List.length_filter_le (fun h : HX => decide (h.level ≤ lv) && !h.null) (hangs m n)
            have hok2 : ∀ h ∈ (hangs m n).filter (fun h : HX => decide (h.level ≤ lv) && !h.null), HXok h := fun h hh => hh2 h (List.mem_filter.mp hh).1
            generalize (hangs m n).filter (fun h : HX => decide (h.level ≤ lv) && !h.null) = hs2 at hP2 l2 l3 hok2 k
            refine ⟨_, rfl, D2, rfl, ⟨_, SqL.of e7⟩, fun D3 hD3 => ?_⟩
            have s8 := Same.tr s67 (Same.nw (o := .lst []) hD3)
            refine lc_list (xs := ws2) (fun i H' => Same H7 H' ∧ ∃ ws3, H' D3 = some (.lst ws3) ∧ Paired (HdX K H0) ws3 ((hs2.take i).filter fun h => letsB h.fs (shownN n))) ⟨Same.nw hD3, [], upd_same, .nil⟩ (fun i H' _ h => SqL.of (h.1 _ _ e7)) ?_ ?_
            · rintro i v H' hv ⟨s9, ws3, e9, hP3⟩
              obtain ⟨h, eh, hx⟩ := Paired.nth hP2 hv
              have hok3 := hok2 h (List.mem_of_getElem? eh)
              have l4 := Paired.length hP3
              have l5 := List.length_filter_le (fun h : HX => letsB h.fs (shownN n)) (hs2.take i)
              rw [List.length_take] at l5
              have hx0 := hx
              obtain ⟨a, dx1, fs1, fl1, ys1, fm1, rfl, i1, j1, j2, j3, j4, j5, i2, r2, fx⟩ := hx
              have s19 := Same.tr s067 s9
              have c : HC K (ga K (if h.null = true then "NullHandler" else "StreamHandler")) := by
                cases h.null with
                | true => exact .inr rfl
                | false => exact .inl rfl
              have hc := c.hcls T
              refine ⟨rfl, ?_⟩
              refine ⟨_, rfl, a, _, dx1, fs1, _, rfl, s19 _ _ i1, hc.cl, hc.filters, j2, _, rfl, fl1, ys1, h.fs, shownN n, rfl, s19 _ _ i2, Paired.impl r2 fun _ _ z => z.same s19, hok3.fs, hok3.fl, fun H8 s10 => ⟨_, rfl, ?_⟩⟩
              have e10 := s10 _ _ e9
              have s910 := Same.tr s9 s10
              cases hb : letsB h.fs (shownN n) with
              | true =>
                refine iteT ?_
                refine ⟨_, rfl, ws3, e10, by rw [sizeLine_eq]; omega, Same.wr s910 hD3, ws3 ++ [.ref a], upd_same, ?_⟩
                rw [take_filter_snoc eh, if_pos hb]
                exact Paired.app' hP3 (.cons hx0 .nil)
              | false =>
                refine iteF ⟨s910, ws3, e10, ?_⟩
                rw [take_filter_snoc eh, hb, if_neg (fun z => Bool.noConfusion z), List.append_nil]
                exact hP3
            · rintro H8 ⟨s9, ws3, e9, hP3⟩
              rw [l2, List.take_length] at hP3
              have s19 := Same.tr s67 s9
              exact k D3 ws3 H8 (Same.tr s1 s19) (Same.was (Same.tr s1 s67) hD3) e9 hP3

end
end Ry
namespace Ry
open PySem PySem.Spec PyProof.Rows L2 He RyH
open C8 (pss_cut tCut Cal Met Mak pe_c pe_mk pe_mt pe_mt0 pe_gc)
/-! ### lines and what is merged -/
theorem hx_cls {K : PySem.W.Frag} (x : HX) : HC K (ga K (if x.null = true then "NullHandler" else "StreamHandler")) := by
  cases x.null with
  | true => exact .inr rfl
  | false => exact .inl rfl
section
variable {P : Program} {w : World} {K : PySem.W.Frag} {mg : Str → Option Value} {base : Heap}
theorem sc_line_parts : FnScope ["handler", "values", "found", "part"] ["handler", "values"] (defScope s_line_parts) := ⟨rfl, rfl, rfl, by decide +kernel, rfl, by decide +kernel, by decide +kernel⟩
theorem cal_line_parts (T : Txt w K mg) : Cal P w K mg base 1 "line_parts" (spLineParts K) [] := by
  obtain ⟨fd, F⟩ := T.df_line_parts
  refine ⟨_, fd, ["handler", "values"], [], F.ok sc_line_parts (fun vs H Q E h => ?_) (fun cdv A outer s H vs Q E hr h => ?_), T.m_line_parts, F.kp, F.bindsN (fun _ _ _ _ _ _ us hl => match us, hl with | [_, _], _ => rfl), .nil⟩
  · obtain ⟨_, _, _, _, _, rfl, _⟩ := h
    rfl
  · obtain ⟨v, d, x, f, H0, rfl, hx0, ok, hv, s00, hf, k⟩ := h
    refine ⟨_, PSs.nox (pss_cons (ps_if (pt_cmpR op_isN (pe_fld (pv 0) rfl) pe_non (nomark _))
        (pss_one (ps_ret (pe_op op_cat (pe_dget (hu_of hr) (pv 1) pe_str (fun _ _ => rfl)) (pe_lst (pa_cons (pe_fld (pv 0) rfl) pa_nil)))))
        pss_nil)
      (pss_cons (ps_set (i := 2) sc_line_parts.nd rfl (Or.inl rfl) (pe_lst pa_nil))
      (pss_cons (ps_for PassesOwn.never rfl (pi_tup (pe_fld (pe_fld (pv 0) rfl) rfl)) (pg_name (i := 3) sc_line_parts.nd rfl (Or.inl rfl))
        (pss_one (ps_expr (pe_bm PySem.F.plainAttrs_list PySem.F.slot_list_extend PySem.F.type_list_extend mt_extend (pv 2) (pa_cons (RyT.pe_cutE (pe_ifExp (pt_val (pe_callB (id := "isinstance") call_isi (by rfl) T.f_isinstance (by decide +kernel) (pa_cons (pv 3) (pa_cons (pe_bltn (v := .ty "str") (by rfl) T.f_str (by decide +kernel) rfl) pa_nil)))) (pe_lst (pa_cons (pv 3) pa_nil)) (pe_dget (hu_of hr) (pv 1) (pe_fld (pv 3) rfl) (fun _ _ => rfl)))) pa_nil)))))
      (pss_one (ps_ret (pe_op op_cat (pv 2) (pe_lst (pa_cons (pe_fld (pv 0) rfl) pa_nil)))))))), ?_⟩
    obtain ⟨a, dx, fs, fl, ys, fm, rfl, e1, l1, l2, l3, l4, l5, e2, q2, fx⟩ := hx0.same s00
    obtain ⟨kvs, eV0, hV0⟩ := hv.at_
    have eV := s00 _ _ eV0
    have hV : ∀ nm ∈ markMenu, ∃ l us, valV kvs (kS nm) = some (.ref l) ∧ H l = some (.lst us) ∧ Paired (CAt K H0) us (f nm) := fun nm hm => let ⟨l, us, a, b, c⟩ := hV0 nm hm; ⟨l, us, a, s00 _ _ b, c⟩
    have hc := (hx_cls (K := K) x).hcls T
    have hlen := lineC_len hf ok
    unfold lineC at k hlen
    refine ⟨_, rfl, a, _, dx, fs, _, rfl, e1, hc.cl, hc.formatter, l3, rfl, _, rfl, ?_⟩
    cases efm : x.fmt with
    | none =>
      rw [efm] at fx k hlen
      have hfm : fm = .non := fx
      subst hfm
      refine Eq.mpr (if_pos (by simp)) ?_
      obtain ⟨l, us, hl, el, pu⟩ := hV "message" msg_mark
      refine ⟨_, rfl, d, _, rfl, dget eV hl, ?_⟩
      refine ⟨_, rfl, a, _, dx, fs, _, rfl, e1, hc.cl, hc.terminator, l4, ssz rfl, fun q hq => ?_⟩
      have lus := Paired.length pu
      have z := hf.len "message" msg_mark
      refine ⟨l, q, us, _, rfl, rfl, upd_at el hq, upd_same, by rw [sizeLine_eq, List.length_singleton]; omega, fun p hp => ?_⟩
      have s1 := Same.tr (Same.nw (o := .lst [V.str x.term]) hq) (Same.nw (o := .lst (us ++ [V.str x.term])) hp)
      refine k p _ _ s1 (was_none hp) upd_same ?_
      exact Paired.app' pu (.cons (show CAt K H0 (V.str x.term) (.t x.term) from rfl) .nil)
    | some ps =>
      rw [efm] at fx k hlen
      obtain ⟨hl10, hpok⟩ := ok.fmt ps efm
      obtain ⟨af, dxf, fxf, b, q, dd, js, rfl, f1, f2, pj, f3⟩ := fx
      refine Eq.mpr (if_neg (by simp)) ?_
      refine ⟨ssz rfl, fun D hD => ?_⟩
      have sD := Same.nw (o := .lst []) hD
      have e0 := upd_same (H := H) (a := D) (o := .lst [])
      generalize L2.upd H D _ = H1 at sD e0 ⊢
      refine ⟨_, rfl, a, _, dx, fs, _, rfl, sD _ _ e1, hc.cl, hc.formatter, l3, ?_⟩
      refine ⟨af, _, dxf, _, _, rfl, sD _ _ f1, T.cl_Formatter, T.no_Formatter_parts, rfl, ?_⟩
      refine ⟨q, rfl, ⟨js, SqT.of (sD _ _ f2)⟩, ?_⟩
      have ljs := Paired.length pj
      refine for_it (walk_tup (xs := js)) (fun i σ' H' => ∃ o3 us, σ' = [some (.ref a), some (.ref d), some (.ref D), o3] ∧ Same H H' ∧ H' D = some (.lst us) ∧ Paired (CAt K H0) us (((joinT (toks ps)).take i).flatMap (jpC f))) ⟨_, [], rfl, sD, e0, .nil⟩ (fun i σ' H' _ ⟨_, _, _, s, _⟩ => SqT.of (s _ _ f2)) ?_ ?_
      · rintro i z σ' H3 H2 hi ⟨o3, us, rfl, s2, eD, pu⟩ ⟨rfl, ej⟩
        obtain ⟨j, ej', hj⟩ := Paired.nth pj ej
        have hjm := List.mem_of_getElem? ej'
        have lus := Paired.length pu
        have lfl : (((joinT (toks ps)).take i).flatMap (jpC f)).length ≤ 160 := by
          have y := (flatC_sum hf (js := (joinT (toks ps)).take i) fun nm hm => fld_menu hpok (List.mem_of_mem_take hm)).2
          have x1 := joinT_len (toks ps)
          have x2 := toks_le hpok
          rw [List.length_take] at y
          omega
        refine ⟨_, rfl, .inl ⟨rfl, _, SqL.of eD⟩, ?_⟩
        refine ⟨fun u H4 => ∃ b zs, u = .ref b ∧ Same H2 H4 ∧ H4 b = some (.lst zs) ∧ b ≠ D ∧ Paired (CAt K H0) zs (jpC f j) ∧ zs.length ≤ 2, ?_, ?_⟩
        · cases j with
          | txt l =>
            cases (show z = .str (tx l) from hj)
            refine ⟨_, rfl, _, _, _, _, _, rfl, .ty _, .base (.str _), kit_ty (show kitB "str" "str" = some true by decide +kernel), _, rfl, ?_⟩
            refine iteT ?_
            exact ⟨_, rfl, ssz rfl, fun b hb => ⟨b, _, rfl, Same.nw hb, upd_same, (fun z => by rw [z, eD] at hb; cases hb), .cons rfl .nil, Nat.le_of_ble_eq_true rfl⟩⟩
          | fld nm =>
            obtain ⟨c, dc, rfl, ec⟩ := hj
            have ec2 := s2 _ _ ec
            have cc := T.cc_Field
            obtain ⟨l, vs, hl, el, pv⟩ := hV (tx nm) (fld_menu hpok hjm)
            refine ⟨_, rfl, _, _, _, _, _, rfl, .ty _, .base (.ins ec2 T.cl_Field cc.ha cc.hn cc.htk cc.ob), T.ki_Field_str, _, rfl, ?_⟩
            refine iteF ?_
            refine ⟨_, rfl, _, rfl, c, _, dc, _, _, rfl, ec2, T.cl_Field, T.no_Field_name, rfl, ?_⟩
            refine ⟨d, _, rfl, dget (s2 _ _ eV) hl, ?_⟩
            exact ⟨l, vs, rfl, Same.rfl', s2 _ _ el, (fun z => by rw [z, hD] at el; cases el), pv, by rw [Paired.length pv]; exact hf.len _ (fld_menu hpok hjm)⟩
        · rintro _ H4 ⟨b, zs, rfl, s4, eb, hbD, pz, lz⟩
          refine ⟨D, b, us, zs, rfl, rfl, s4 _ _ eD, eb, by rw [sizeLine_eq]; omega, _, us ++ zs, rfl, Same.wr (Same.tr s2 s4) hD, upd_same, ?_⟩
          rw [take_nth ej', List.flatMap_append, List.flatMap_cons, List.flatMap_nil, List.append_nil]
          exact Paired.app' pu pz
      · rintro σ' H2 ⟨o3, us, rfl, s2, eD, pu⟩
        rw [ljs, List.take_length] at pu
        have lus := Paired.length pu
        have lln := lineP_len hf (o := some ps) fun qs hq => by cases hq; exact ⟨hl10, hpok⟩
        have e3 : lineP (some ps) f = (joinT (toks ps)).flatMap (jpC f) := rfl
        rw [e3] at lln
        refine ⟨_, rfl, ?_⟩
        refine ⟨_, rfl, a, _, dx, fs, _, rfl, s2 _ _ e1, hc.cl, hc.terminator, l4, ssz rfl, fun q3 hq3 => ?_⟩
        refine ⟨D, q3, us, _, rfl, rfl, upd_at eD hq3, upd_same, by rw [sizeLine_eq, List.length_singleton]; omega, fun p hp => ?_⟩
        have s3 := Same.tr s2 (Same.tr (Same.nw (o := .lst [V.str x.term]) hq3) (Same.nw (o := .lst (us ++ [V.str x.term])) hp))
        refine k p _ _ s3 (Same.was s2 (was_none hp)) upd_same ?_
        exact Paired.app' pu (.cons (show CAt K H0 (V.str x.term) (.t x.term) from rfl) .nil)

theorem sc_merged : FnScope ["parts", "found", "part"] ["parts"] (defScope s_merged) := ⟨rfl, rfl, rfl, by decide +kernel, rfl, by decide +kernel, by decide +kernel⟩
theorem cal_merged (T : Txt w K mg) : Cal P w K mg base 1 "merged" (spMerged K) [] := by
  obtain ⟨fd, F⟩ := T.df_merged
  refine ⟨_, fd, ["parts"], [], F.ok sc_merged (fun vs H Q E h => ?_) (fun cdv A outer s H vs Q E hr h => ?_), T.m_merged, F.kp, F.bindsN (fun _ _ _ _ _ _ us hl => match us, hl with | [_], _ => rfl), .nil⟩
  · obtain ⟨_, _, _, rfl, _⟩ := h
    rfl
  · obtain ⟨p, us, cs, rfl, ep, pu, hcl, hcs, k⟩ := h
    refine ⟨_, PSs.nox (pss_cons (ps_set (i := 1) sc_merged.nd rfl (Or.inl rfl) (pe_lst pa_nil))
      (pss_cons (ps_for PassesOwn.never rfl (pi_list (pv 0)) (pg_name (i := 2) sc_merged.nd rfl (Or.inl rfl))
        (pss_one (ps_if (RyN.pt_cut (PW.pt (pw_and (pt_val (pe_callB (id := "isinstance") call_isi (by rfl) T.f_isinstance (by decide +kernel) (pa_cons (pv 2) (pa_cons (pe_bltn (v := .ty "str") (by rfl) T.f_str (by decide +kernel) rfl) pa_nil)))) (pw_and (pt_cmpR (RyN.op_neNil hr.units) (pv 1) (pe_lst pa_nil) (nomark _)) (pw_and1 (pt_val (pe_callB (id := "isinstance") call_isi (by rfl) T.f_isinstance (by decide +kernel) (pa_cons (pe_ix ix_list (pv 1) (pe_un un_neg pe_int) (fun _ _ => rfl)) (pa_cons (pe_bltn (v := .ty "str") (by rfl) T.f_str (by decide +kernel) rfl) pa_nil)))))))))
          (pss_one (ps_asg (pe_op op_add_str (pe_ix ix_list (pv 1) (pe_un un_neg pe_int) (fun _ _ => rfl)) (pv 2)) (pg_sub (pv 1) (pe_un un_neg pe_int) set_list)))
          (pss_one (ps_if (pt_cmpR (RyV.op_neC hr.units) (pv 2) pe_str (nomark _))
            (pss_one (ps_expr (pe_bm PySem.F.plainAttrs_list PySem.F.slot_list_append PySem.F.type_list_append mt_append (pv 1) (pa_cons (pv 2) pa_nil))))
            pss_nil)))))
      (pss_one (ps_ret (pe_callTy call_tuple_of (by rfl) T.f_tuple (by decide +kernel) (pa_cons (pv 1) pa_nil)))))), ?_⟩
    refine ⟨ssz rfl, fun D hD => ?_⟩
    have sD := Same.nw (o := .lst []) hD
    have e0 := upd_same (H := H) (a := D) (o := .lst [])
    generalize L2.upd H D _ = H1 at sD e0 ⊢
    have lus := Paired.length pu
    refine ⟨_, rfl, p, rfl, ⟨_, SqL.of (sD _ _ ep)⟩, ?_⟩
    refine for_list (xs := us) (fun i σ' H' => ∃ o2 ws, σ' = [some (.ref p), some (.ref D), o2] ∧ Same H H' ∧ H' D = some (.lst ws) ∧ Paired (CAt K H) ws (mergeC (cs.take i))) ⟨_, [], rfl, sD, e0, .nil⟩ (fun i σ' H' _ ⟨_, _, _, s, _⟩ => SqL.of (s _ _ ep)) ?_ ?_
    · rintro i z σ' H2 hz ⟨o2, ws, rfl, s2, eD, pw⟩
      obtain ⟨c, ec, hc⟩ := Paired.nth pu hz
      have lws := Paired.length pw
      have msum := mergeC_sum (cs.take i)
      have tsum := csum_take cs i
      have csm := csum_mem (List.mem_of_getElem? ec)
      rw [List.length_take] at msum
      have hi : i < cs.length := (List.getElem?_eq_some_iff.mp ec).1
      have est : mergeC (cs.take (i + 1)) = mstep (mergeC (cs.take i)) c := by
        unfold mergeC
        rw [take_nth ec, List.foldl_append]
        rfl
      refine ⟨fun b H3 => b = joinsC (mergeC (cs.take i)) c ∧ Same H2 H3, ?_, ?_⟩
      · obtain ⟨ty1, hty1, hk1⟩ := (hc.same s2).isStr
        refine ⟨_, rfl, _, _, ty1, _, _, rfl, .ty _, hty1, hk1, _, rfl, ?_⟩
        cases hct : c.isT with
        | false =>
          refine Eq.mpr (if_neg (fun z => Bool.noConfusion z)) ?_
          refine ⟨?_, Same.rfl'⟩
          cases c with
          | t s => cases hct
          | m s => rfl
        | true =>
          refine iteT ?_
          refine ⟨_, rfl, ssz rfl, fun q hq => ?_⟩
          have hws := upd_at (p := q) (o := .lst []) eD hq
          refine ⟨D, q, ws, rfl, rfl, SqL.of hws, SqL.of upd_same, _, rfl, ?_⟩
          rcases List.eq_nil_or_concat (mergeC (cs.take i)) with e3 | ⟨acc', j, e3⟩
          · rw [e3] at pw ⊢
            cases pw
            refine iteF ?_
            exact ⟨(joinsC_nil _).symm, Same.nw hq⟩
          · rw [List.concat_eq_append] at e3
            rw [e3] at pw ⊢
            obtain ⟨ws', v, rfl, h1, h2⟩ := Paired.unsnoc pw
            have hne : (!(ws' ++ [v]).isEmpty) = true := by simp
            rw [if_pos rfl, hne]
            refine iteT ?_
            obtain ⟨ty2, hty2, hk2⟩ := (h2.same (Same.tr s2 (Same.nw hq))).isStr
            refine ⟨_, rfl, _, rfl, D, _, _, v, rfl, rfl, SqL.of hws, atI_last _ _, ?_⟩
            refine ⟨_, _, ty2, _, _, rfl, .ty _, hty2, hk2, _, rfl, ?_⟩
            refine ⟨?_, Same.nw hq⟩
            rw [joinsC_snoc, hct, Bool.true_and]
      · rintro b H3 ⟨rfl, s3⟩
        have s23 := Same.tr s2 s3
        have eD3 := s3 _ _ eD
        cases q : joinsC (mergeC (cs.take i)) c with
        | true =>
          refine iteT ?_
          obtain ⟨acc', r, s, rfl, e3, e4⟩ := mstep_join q
          rw [e3] at pw msum
          obtain ⟨ws', v, rfl, h1, h2⟩ := Paired.unsnoc pw
          cases (show v = .str r from h2)
          cases (show z = .str s from hc)
          have hr : r.length ≤ csum (acc' ++ [Cl.t r]) := csum_mem (c := .t r) (List.mem_append_right _ (List.mem_cons_self ..))
          have hs : s.length ≤ csum cs := csm
          refine ⟨_, rfl, _, rfl, D, _, _, _, rfl, rfl, SqL.of eD3, atI_last _ _, ?_⟩
          refine ⟨_, rfl, r, s, rfl, rfl, by rw [sizeLine_eq]; omega, ?_⟩
          refine ⟨_, rfl, _, rfl, D, _, _, ws'.length, rfl, rfl, eD3, by rw [List.length_append, List.length_singleton]; exact ixN_last _, ?_⟩
          have es : (ws' ++ [V.str r]).set ws'.length (.str (r ++ s)) = ws' ++ [.str (r ++ s)] := by
            rw [List.set_append_right _ _ (Nat.le_refl _), Nat.sub_self]
            rfl
          rw [es]
          refine ⟨_, _, rfl, Same.wr s23 hD, upd_same, ?_⟩
          rw [est, e4]
          exact Paired.app' h1 (.cons rfl .nil)
        | false =>
          refine iteF ?_
          have e4 := mstep_app q
          have fin : dropsC c = false → ∃ l xs y, V.ref D = .ref l ∧ [z] = [y] ∧ H3 l = some (.lst xs) ∧ xs.length < sizeLine ∧ (∃ o2 ws2, [some (V.ref p), some (V.ref D), some z] = [some (.ref p), some (.ref D), o2] ∧ Same H (L2.upd H3 l (.lst (xs ++ [y]))) ∧ (L2.upd H3 l (.lst (xs ++ [y]))) D = some (.lst ws2) ∧ Paired (CAt K H) ws2 (mergeC (cs.take (i + 1)))) := fun hd => by
            refine ⟨D, ws, z, rfl, rfl, eD3, by rw [sizeLine_eq]; omega, _, ws ++ [z], rfl, Same.wr s23 hD, upd_same, ?_⟩
            rw [est, e4, hd, if_neg (fun z => Bool.noConfusion z)]
            exact Paired.app' pw (.cons hc .nil)
          cases c with
          | t s =>
            cases (show z = .str s from hc)
            refine ⟨_, rfl, "", rfl, .inl ⟨s, rfl, _, rfl, ?_⟩⟩
            by_cases e : s = ""
            · refine Eq.mpr (if_neg (by rw [e]; simp)) ?_
              refine ⟨_, ws, rfl, s23, eD3, ?_⟩
              rw [est, e4, if_pos (show dropsC (.t s) = true from decide_eq_true e)]
              exact pw
            · refine Eq.mpr (if_pos (by rw [decide_eq_false fun z => e (V.str.inj z)]; rfl)) ?_
              exact ⟨_, rfl, .inl ⟨rfl, _, SqL.of eD3⟩, _, rfl, fin (decide_eq_false e)⟩
          | m s =>
            have hc' := hc.same s23
            obtain ⟨a, rfl, sq⟩ := hc'
            refine ⟨_, rfl, "", rfl, .inr ⟨a, _, rfl, sq, _, rfl, iteT ?_⟩⟩
            exact ⟨_, rfl, .inl ⟨rfl, _, SqL.of eD3⟩, _, rfl, fin rfl⟩
    · rintro σ' H2 ⟨o2, ws, rfl, s2, eD, pw⟩
      rw [lus, List.take_length] at pw
      refine ⟨_, rfl, D, _, rfl, .inl ⟨SqL.of eD, fun q hq => ?_⟩⟩
      exact k q _ _ (Same.tr s2 (Same.nw hq)) (Same.was s2 hq) upd_same (Paired.impl pw fun _ _ z => z.same (Same.tr s2 (Same.nw hq)))

end
end Ry
namespace Ry
open PySem PySem.Spec PyProof.Rows L2 He RyH
open C8 (pss_cut tCut Cal Met Mak pe_c pe_mk pe_mt pe_mt0 pe_gc)
/-! ### sorted texts -/
theorem nodup_leU {α : Type} [DecidableEq α] : ∀ {l1 l2 : List α}, l1.Nodup → (∀ x ∈ l1, x ∈ l2) → l1.length ≤ l2.length
  | [], _, _, _ => Nat.zero_le _
  | x :: t, l2, nd, h => by
    have hx := h x (List.mem_cons_self ..)
    have nd' := List.nodup_cons.mp nd
    have z := nodup_leU (l2 := l2.erase x) nd'.2 fun y hy => (List.mem_erase_of_ne (fun e => nd'.1 (by rw [← e]; exact hy))).mpr (h y (List.mem_cons_of_mem _ hy))
    rw [List.length_erase_of_mem hx] at z
    have := List.length_pos_of_mem hx
    rw [List.length_cons]
    omega
def leS (a b : Str) : Prop := a.cps.toList ≤ b.cps.toList
theorem leS_of {a b : Str} (h : ltCps b.cps.toList a.cps.toList = false) : leS a b := by
  rw [PyProof.Rows.ltCps_eq] at h
  exact List.not_lt.mp (of_decide_eq_false h)
theorem str_ext {a b : Str} (h : a.cps.toList = b.cps.toList) : a = b := by
  obtain ⟨x⟩ := a
  obtain ⟨y⟩ := b
  have : x = y := Array.toList_inj.mp h
  rw [this]
theorem leS_anti {a b : Str} (h : leS a b) (k : leS b a) : a = b := str_ext (List.le_antisymm h k)
theorem rising_pw : ∀ (l : List Str) (p : Str), risingS p l = true → (p :: l).Pairwise leS
  | [], p, _ => List.pairwise_singleton _ _
  | x :: r, p, h => by
    obtain ⟨h1, h2⟩ := Bool.and_eq_true_iff.mp (show (!ltCps x.cps.toList p.cps.toList && risingS x r) = true from h)
    have z := rising_pw r x h2
    have px : leS p x := leS_of (by simpa using h1)
    refine List.pairwise_cons.mpr ⟨fun y hy => ?_, z⟩
    rcases List.mem_cons.mp hy with rfl | hy
    · exact px
    · exact List.le_trans px ((List.pairwise_cons.mp z).1 y hy)
theorem sorted_pw : ∀ {l : List Str}, sortedS l = true → l.Pairwise leS
  | [], _ => List.Pairwise.nil
  | x :: r, h => rising_pw r x h
theorem pw_eq {α : Type} {R : α → α → Prop} (anti : ∀ a b, R a b → R b a → a = b) : ∀ {xs ys : List α}, xs.Pairwise R → ys.Pairwise R → xs.Perm ys → xs = ys
  | [], ys, _, _, p => (List.nil_perm.mp p).symm
  | x :: xs, [], _, _, p => (List.perm_nil.mp p)
  | x :: xs, y :: ys, h1, h2, p => by
    have e : x = y := by
      have a1 : x ∈ y :: ys := p.mem_iff.mp (List.mem_cons_self ..)
      have a2 : y ∈ x :: xs := p.mem_iff.mpr (List.mem_cons_self ..)
      rcases List.mem_cons.mp a1 with z | z
      · exact z
      · rcases List.mem_cons.mp a2 with w | w
        · exact w.symm
        · exact anti x y ((List.pairwise_cons.mp h1).1 y w) ((List.pairwise_cons.mp h2).1 x z)
    subst e
    rw [pw_eq anti (List.pairwise_cons.mp h1).2 (List.pairwise_cons.mp h2).2 (List.perm_cons _ |>.mp p)]
def srt (S : List Str) : List Str := S.mergeSort fun a b => !ltCps b.cps.toList a.cps.toList
theorem srt_perm (S : List Str) : (srt S).Perm S := List.mergeSort_perm ..
theorem srt_pw (S : List Str) : (srt S).Pairwise leS := by
  have z := List.pairwise_mergeSort (le := fun a b : Str => !ltCps b.cps.toList a.cps.toList) (fun a b c h1 h2 => by
    have q1 := leS_of (a := a) (b := b) (by simpa using h1)
    have q2 := leS_of (a := b) (b := c) (by simpa using h2)
    have q3 : leS a c := List.le_trans q1 q2
    show (!ltCps c.cps.toList a.cps.toList) = true
    rw [PyProof.Rows.ltCps_eq, decide_eq_false (List.not_lt.mpr q3)]
    rfl) (fun a b => by
    show ((!ltCps b.cps.toList a.cps.toList) || (!ltCps a.cps.toList b.cps.toList)) = true
    rw [PyProof.Rows.ltCps_eq, PyProof.Rows.ltCps_eq]
    rcases List.le_total a.cps.toList b.cps.toList with h | h
    · rw [decide_eq_false (List.not_lt.mpr h)]
      rfl
    · rw [decide_eq_false (p := a.cps.toList < b.cps.toList) (List.not_lt.mpr h)]
      simp) S
  exact z.imp fun h => leS_of (by simpa using h)
theorem srt_of {S ys : List Str} (p : ys.Perm S) (h : sortedS ys = true) : ys = srt S := pw_eq (fun _ _ => leS_anti) (sorted_pw h) (srt_pw S) (p.trans (srt_perm S).symm)
/-! ### values -/
def namedC (m : Mdl) (lv : Int) (sc : Cl) : List Cl := if (sc.isT || (m.nm.lookup lv).isSome) = true then [.t (lvName m lv)] else [.t "Level ", sc]
def valsF (m : Mdl) (n : Str) (lv : Int) (sc mc : Cl) (f : Str) : List Cl := if f = "name" then [.t (shownN n)] else if f = "levelno" then [sc] else if f = "levelname" then namedC m lv sc else [mc]
def spValuesOf (K : PySem.W.Frag) : Sp := fun vs H Q _ => ∃ (y : Addr) (A : Str → Addr) (m : Mdl) (n : Str) (lv : Int) (sv mv : V) (sc mc : Cl), vs = [.ref y, .str n, .int lv, sv, mv] ∧ YdX K H y A m ∧ CAt K H sv sc ∧ CAt K H mv mc ∧ lvOk lv ∧
  ∀ d H', Same H H' → H d = none → VAt K H' d (valsF m n lv sc mc) → Q (.ref d) H'
theorem mv4 (a b c d : V) : mergeK [] [(kS "name", a), (kS "levelno", b), (kS "levelname", c), (kS "message", d)] = [(kS "name", a), (kS "levelno", b), (kS "levelname", c), (kS "message", d)] := by kernel_rfl
theorem vv1 (a b c d : V) : valV [(kS "name", a), (kS "levelno", b), (kS "levelname", c), (kS "message", d)] (kS "name") = some a ∧ valV [(kS "name", a), (kS "levelno", b), (kS "levelname", c), (kS "message", d)] (kS "levelno") = some b ∧
    valV [(kS "name", a), (kS "levelno", b), (kS "levelname", c), (kS "message", d)] (kS "levelname") = some c ∧ valV [(kS "name", a), (kS "levelno", b), (kS "levelname", c), (kS "message", d)] (kS "message") = some d := ⟨by kernel_rfl, by kernel_rfl, by kernel_rfl, by kernel_rfl⟩
theorem vF (m : Mdl) (n : Str) (lv : Int) (sc mc : Cl) : valsF m n lv sc mc "name" = [.t (shownN n)] ∧ valsF m n lv sc mc "levelno" = [sc] ∧ valsF m n lv sc mc "levelname" = namedC m lv sc ∧ valsF m n lv sc mc "message" = [mc] := by
  unfold valsF
  exact ⟨if_pos rfl, by rw [if_neg (by decide), if_pos rfl], by rw [if_neg (by decide), if_neg (by decide), if_pos rfl], by rw [if_neg (by decide), if_neg (by decide), if_neg (by decide)]⟩
/-! ### streams -/
def addU (S : List Str) (s : Str) : List Str := if s ∈ S then S else S ++ [s]
def strms (hs : List HX) : List Str := hs.foldl (fun S h => addU S h.stream) []
def catS (f : Str → List Cl) (hs : List HX) (s : Str) : List Cl := (hs.filter fun h => decide (h.stream = s)).flatMap fun h => lineC h f
def outP (hs : List HX) (f : Str → List Cl) : List (Str × List Cl) := ((srt (strms hs)).map fun s => (s, mergeC (catS f hs s))).filter fun p => !p.2.isEmpty
def PAt (K : PySem.W.Frag) (H : Hp) (v : V) (p : Str × List Cl) : Prop := ∃ t q ws, v = .ref t ∧ H t = some (.tup [.str p.1, .ref q]) ∧ H q = some (.tup ws) ∧ Paired (CAt K H) ws p.2
theorem PAt.same {K : PySem.W.Frag} {H H' : Hp} {v : V} {p : Str × List Cl} (h : PAt K H v p) (k : Same H H') : PAt K H' v p := by
  obtain ⟨t, q, ws, e, e1, e2, pw⟩ := h
  exact ⟨t, q, ws, e, k _ _ e1, k _ _ e2, Paired.impl pw fun _ _ z => z.same k⟩
theorem PAt.upd {K : PySem.W.Frag} {H : Hp} {v : V} {p : Str × List Cl} {D : Addr} {xs : List V} {o : HO} (h : PAt K H v p) (e : H D = some (.lst xs)) : PAt K (L2.upd H D o) v p := by
  obtain ⟨t, q, ws, e0, e1, e2, pw⟩ := h
  exact ⟨t, q, ws, e0, by rw [upd_ne fun z => by rw [z, e] at e1; cases e1]; exact e1, by rw [upd_ne fun z => by rw [z, e] at e2; cases e2]; exact e2, Paired.impl pw fun _ _ z => z.upd e⟩
def spOutcomeParts (K : PySem.W.Frag) : Sp := fun vs H Q _ => ∃ (y : Addr) (A : Str → Addr) (m : Mdl) (n : Str) (lv : Int) (d : Addr) (f : Str → List Cl), vs = [.ref y, .str n, .int lv, .ref d] ∧ YdX K H y A m ∧ NmOk n ∧ Mok m ∧ VAt K H d f ∧ Vok f ∧
  ∀ p us H', Same H H' → H p = none → H' p = some (.lst us) → Paired (PAt K H') us (outP (wrX m n lv) f) → Q (.ref p) H'
theorem strms_snoc (hs : List HX) (h : HX) : strms (hs ++ [h]) = addU (strms hs) h.stream := by
  unfold strms
  rw [List.foldl_append]
  rfl
theorem addU_nd {S : List Str} {s : Str} (h : S.Nodup) : (addU S s).Nodup := by
  unfold addU
  split
  · exact h
  · rename_i z
    exact List.nodup_append.mpr ⟨h, by simp, fun x hx y hy => by rw [List.mem_singleton.mp hy]; intro q; rw [q] at hx; exact z hx⟩
theorem addU_mem {S : List Str} {s x : Str} : x ∈ addU S s ↔ x ∈ S ∨ x = s := by
  unfold addU
  split
  · rename_i z
    exact ⟨.inl, fun h => h.elim id fun q => by rw [q]; exact z⟩
  · rw [List.mem_append, List.mem_singleton]
theorem strms_ok : ∀ (k : Nat) (hs : List HX), hs.length = k → (strms hs).Nodup ∧ (∀ s, s ∈ strms hs ↔ ∃ h ∈ hs, h.stream = s) ∧ (strms hs).length ≤ hs.length := by
  intro k
  induction k with
  | zero =>
    intro hs e
    rw [List.eq_nil_of_length_eq_zero e]
    exact ⟨List.nodup_nil, fun s => ⟨(fun h => nomatch h), (fun ⟨_, h, _⟩ => nomatch h)⟩, Nat.le_refl _⟩
  | succ k ih =>
    intro hs e
    rcases List.eq_nil_or_concat hs with q | ⟨hs', h, q⟩
    · rw [q] at e; cases e
    · rw [List.concat_eq_append] at q
      subst q
      rw [List.length_append, List.length_singleton] at e
      obtain ⟨a, b, c⟩ := ih hs' (by omega)
      rw [strms_snoc]
      refine ⟨addU_nd a, fun s => ?_, ?_⟩
      · rw [addU_mem, b]
        constructor
        · rintro (⟨x, hx, e⟩ | e)
          · exact ⟨x, List.mem_append_left _ hx, e⟩
          · exact ⟨h, List.mem_append_right _ (List.mem_singleton.mpr rfl), e.symm⟩
        · rintro ⟨x, hx, e⟩
          rcases List.mem_append.mp hx with hx | hx
          · exact .inl ⟨x, hx, e⟩
          · rw [List.mem_singleton.mp hx] at e
            exact .inr e.symm
      · rw [List.length_append, List.length_singleton]
        unfold addU
        split
        · omega
        · rw [List.length_append, List.length_singleton]
          omega
theorem catS_snoc (f : Str → List Cl) (hs : List HX) (h : HX) (s : Str) : catS f (hs ++ [h]) s = catS f hs s ++ (if h.stream = s then lineC h f else []) := by
  unfold catS
  rw [List.filter_append, List.flatMap_append]
  congr 1
  by_cases e : h.stream = s
  · rw [if_pos e, List.filter_cons_of_pos (by exact decide_eq_true e)]
    simp
  · rw [if_neg e, List.filter_cons_of_neg (by rw [decide_eq_false e]; exact Bool.false_ne_true)]
    rfl
theorem flatL_len {f : Str → List Cl} (hf : Vok f) : ∀ {hs : List HX}, (∀ h ∈ hs, HXok h) → csum (hs.flatMap fun h => lineC h f) ≤ 16004 * hs.length ∧ (hs.flatMap fun h => lineC h f).length ≤ 161 * hs.length
  | [], _ => ⟨Nat.le_refl _, Nat.le_refl _⟩
  | h :: hs, ok => by
    have z := flatL_len hf (hs := hs) fun x hx => ok x (List.mem_cons_of_mem _ hx)
    have y := lineC_len hf (ok h (List.mem_cons_self ..))
    rw [List.flatMap_cons, csum_app, List.length_append, List.length_cons]
    omega
theorem catS_len {f : Str → List Cl} (hf : Vok f) {hs : List HX} (ok : ∀ h ∈ hs, HXok h) (s : Str) : csum (catS f hs s) ≤ 16004 * hs.length ∧ (catS f hs s).length ≤ 161 * hs.length := by
  have z := flatL_len hf (hs := hs.filter fun h => decide (h.stream = s)) fun h hh => ok h (List.mem_filter.mp hh).1
  have y := List.length_filter_le (fun h : HX => decide (h.stream = s)) hs
  unfold catS
  omega
theorem wr_null {m : Mdl} {n : Str} {lv : Int} {h : HX} (hh : h ∈ wrX m n lv) : h.null = false := by
  unfold wrX at hh
  split at hh
  · split at hh
    · split at hh
      · rw [List.mem_singleton.mp hh]
        rfl
      · cases hh
    · have z := (List.mem_filter.mp (List.mem_filter.mp hh).1).2
      have y := (Bool.and_eq_true_iff.mp z).2
      simpa using y
  · cases hh
/-- what the dict of streams holds -/
structure AcD (K : PySem.W.Frag) (H H' : Hp) (kvs : List (Key × V)) (S : List Str) (c : Str → List Cl) : Prop where
  keys : kvs.map (·.1) = S.map Sum.inr
  at_ : ∀ s ∈ S, ∃ l us, valV kvs (kS s) = some (.ref l) ∧ H' l = some (.lst us) ∧ H l = none ∧ Paired (CAt K H) us (c s)
theorem valV_none {kvs : List (Key × V)} {S : List Str} (h : kvs.map (·.1) = S.map Sum.inr) {s : Str} (hs : s ∉ S) : valV kvs (kS s) = none := by
  induction kvs generalizing S with
  | nil => rfl
  | cons p kvs ih =>
    cases S with
    | nil => cases h
    | cons a S =>
      rw [List.map_cons, List.map_cons] at h
      injection h with h1 h2
      have e : ¬ p.1 = kS s := fun z => by
        rw [h1] at z
        exact hs (by rw [Sum.inr.inj z]; exact List.mem_cons_self ..)
      rw [valV_neg e]
      exact ih h2 fun z => hs (List.mem_cons_of_mem _ z)
theorem putK_keysU {kvs : List (Key × V)} {S : List Str} (h : kvs.map (·.1) = S.map Sum.inr) (s : Str) (v : V) : (putK kvs (kS s) v).map (·.1) = (addU S s).map Sum.inr := by
  unfold putK addU
  have e : (kvs.any fun kv => decide (kv.1 = kS s)) = true ↔ s ∈ S := by
    rw [List.any_eq_true]
    constructor
    · rintro ⟨x, hx, z⟩
      have hm : x.1 ∈ S.map Sum.inr := by rw [← h]; exact List.mem_map.mpr ⟨x, hx, rfl⟩
      obtain ⟨y, hy, q⟩ := List.mem_map.mp hm
      have z' := of_decide_eq_true z
      rw [← q] at z'
      rw [← Sum.inr.inj z']
      exact hy
    · intro hs
      have hm : (Sum.inr s : Key) ∈ kvs.map (·.1) := by rw [h]; exact List.mem_map.mpr ⟨s, hs, rfl⟩
      obtain ⟨x, hx, q⟩ := List.mem_map.mp hm
      exact ⟨x, hx, decide_eq_true q⟩
  by_cases hs : s ∈ S
  · rw [if_pos (e.mpr hs), if_pos hs, List.map_map, ← h]
    refine List.map_congr_left fun x _ => ?_
    show (if x.1 = kS s then (x.1, v) else x).1 = x.1
    split <;> rfl
  · rw [if_neg (fun z => hs (e.mp z)), if_neg hs, List.map_append, List.map_append, h]
    rfl
section
variable {P : Program} {w : World} {K : PySem.W.Frag} {mg : Str → Option Value} {base : Heap}
theorem sc_values_of : FnScope ["yard", "name", "level", "shown", "message", "named"] ["yard", "name", "level", "shown", "message"] (defScope s_values_of) := ⟨rfl, rfl, rfl, by decide +kernel, rfl, by decide +kernel, by decide +kernel⟩
theorem cal_values_of (T : Txt w K mg) : Cal P w K mg base 2 "values_of" (spValuesOf K) [] := by
  obtain ⟨fd, F⟩ := T.df_values_of
  have c_Yard_level_name := met_Yard_level_name (P := P) (base := base) T
  refine ⟨_, fd, ["yard", "name", "level", "shown", "message"], [], F.ok sc_values_of (fun vs H Q E h => ?_) (fun cdv A outer s H vs Q E hr h => ?_), T.m_values_of, F.kp, F.bindsN (fun _ _ _ _ _ _ us hl => match us, hl with | [_, _, _, _, _], _ => rfl), .nil⟩
  · obtain ⟨_, _, _, _, _, _, _, _, _, rfl, _⟩ := h
    rfl
  · obtain ⟨y, A, m, n, lv, sv, mv, sc, mc, rfl, hy, hs, hm, hlv, k⟩ := h
    refine ⟨_, PSs.nox (pss_cons (ps_set (i := 5) sc_values_of.nd rfl (Or.inl rfl) (RyT.pe_cutE (pe_ifExp (PW.pt (pw_or (pt_val (pe_callB (id := "isinstance") call_isi (by rfl) T.f_isinstance (by decide +kernel) (pa_cons (pv 3) (pa_cons (pe_bltn (v := .ty "str") (by rfl) T.f_str (by decide +kernel) rfl) pa_nil)))) (pw_or1 (pt_cmp (pc_din (hu_of hr) (pv 2) (pe_fld (pv 0) rfl)) rfl)))) (pe_lst (pa_cons (pe_mt c_Yard_level_name hr (by decide) (pv 0) (pa_cons (pv 2) pa_nil)) pa_nil)) (pe_lst (pa_cons pe_str (pa_cons (pv 3) pa_nil))))))
      (pss_one (ps_ret (pe_disp (pps_cons pe_str (pe_lst (pa_cons (RyT.pe_cutE (pe_ifExp (pt_cmpR op_eq (pv 1) pe_str (nomark _)) pe_str (pv 1))) pa_nil)) (pps_cons pe_str (pe_lst (pa_cons (pv 3) pa_nil)) (pps_cons pe_str (pv 5) (pps_cons pe_str (pe_lst (pa_cons (pv 4) pa_nil)) pps_nil)))) (by rfl) (by rfl) (fun z => by cases z) (by decide))))), ?_⟩
    obtain ⟨dy, fy, lm, no, lr, e1, l1, l2, l3, l4, l5, l6, l7, e2, e3, _⟩ := hy.ins
    have e3' : H no = some (.dK (m.nm.map nmE)) := e3
    refine ⟨fun u H' => ∃ l us, u = .ref l ∧ Same H H' ∧ H l = none ∧ H' l = some (.lst us) ∧ Paired (CAt K H) us (namedC m lv sc), ?_, ?_⟩
    · obtain ⟨ty1, hty1, hk1⟩ := hs.isStr
      have one : ∀ (q : Addr), H q = none → (sc.isT || (m.nm.lookup lv).isSome) = true → ∃ l us, V.ref q = .ref l ∧ Same H (L2.upd H q (.lst [V.str (lvName m lv)])) ∧ H l = none ∧ (L2.upd H q (.lst [V.str (lvName m lv)])) l = some (.lst us) ∧ Paired (CAt K H) us (namedC m lv sc) := fun q hq hy => by
        refine ⟨q, _, rfl, Same.nw hq, hq, upd_same, ?_⟩
        unfold namedC
        rw [if_pos hy]
        exact .cons rfl .nil
      refine ⟨_, rfl, _, _, ty1, _, _, rfl, .ty _, hty1, hk1, _, rfl, ?_⟩
      cases hct : sc.isT with
      | true =>
        refine iteT ?_
        refine iteT ?_
        exact ⟨_, rfl, y, dy, fy, rfl, e1, l7, _, rfl, y, A, m, lv, rfl, hy, hlv, ssz rfl, fun q hq => one q hq (by rw [hct]; rfl)⟩
      | false =>
        refine iteF ?_
        refine ⟨_, rfl, _, rfl, y, _, dy, fy, _, rfl, e1, T.cl_Yard, T.no_Yard_names_of, l4, ?_⟩
        refine ⟨no, _, rfl, DGet.k (k := Sum.inl lv) e3', _, rfl, ?_⟩
        rw [valV_nm]
        cases q : m.nm.lookup lv with
        | some x =>
          refine iteT ?_
          exact ⟨_, rfl, y, dy, fy, rfl, e1, l7, _, rfl, y, A, m, lv, rfl, hy, hlv, ssz rfl, fun q2 hq2 => one q2 hq2 (by rw [q]; exact Bool.or_true _)⟩
        | none =>
          refine iteF ?_
          refine ⟨_, rfl, ssz rfl, fun q2 hq => ⟨q2, _, rfl, Same.nw hq, hq, upd_same, ?_⟩⟩
          unfold namedC
          rw [hct, q]
          exact .cons rfl (.cons hs .nil)
    · rintro _ H1 ⟨l, us, rfl, s1, hl, el, pu⟩
      intro p hp
      have sp := Same.nw (o := .dK []) hp
      refine ⟨fun u H2 => u = .str (shownN n) ∧ L2.upd H1 p (.dK []) = H2, ?_, ?_⟩
      · refine ⟨_, rfl, rfl, _, rfl, ?_⟩
        unfold shownN
        by_cases e : n = ""
        · rw [if_pos e]
          refine Eq.mpr (if_pos (decide_eq_true (by rw [e]))) ?_
          exact ⟨rfl, rfl⟩
        · rw [if_neg e]
          refine Eq.mpr (if_neg (by rw [decide_eq_false fun z => e (V.str.inj z)]; exact Bool.false_ne_true)) ?_
          exact ⟨_, rfl, rfl, rfl⟩
      rintro _ _ ⟨rfl, rfl⟩
      have ep := upd_same (H := H1) (a := p) (o := .dK [])
      have el1 : (L2.upd H1 p (.dK [])) l = some (.lst us) := upd_at el hp
      have s2 := Same.tr s1 sp
      generalize L2.upd H1 p _ = H2 at ep el1 s2 ⊢
      refine ⟨ssz rfl, fun p1 h1 => ?_⟩
      refine ⟨_, rfl, ssz rfl, fun p2 h2 => ?_⟩
      refine ⟨_, rfl, ?_⟩
      refine ⟨_, rfl, ssz rfl, fun p3 h3 => ?_⟩
      have n21 : p2 ≠ p1 := fun z => by rw [z, upd_same] at h2; cases h2
      have n32 : p3 ≠ p2 := fun z => by rw [z, upd_same] at h3; cases h3
      have n31 : p3 ≠ p1 := fun z => by rw [z, upd_ne n21.symm, upd_same] at h3; cases h3
      have hs1 := Same.nw (o := .lst [V.str (shownN n)]) h1
      have hs2 := Same.nw (o := .lst [sv]) h2
      have hs3 := Same.nw (o := .lst [mv]) h3
      have a1 : (L2.upd (L2.upd (L2.upd H2 p1 (.lst [V.str (shownN n)])) p2 (.lst [sv])) p3 (.lst [mv])) p1 = some (.lst [V.str (shownN n)]) := by rw [upd_ne n31.symm, upd_ne n21.symm, upd_same]
      have a2 : (L2.upd (L2.upd (L2.upd H2 p1 (.lst [V.str (shownN n)])) p2 (.lst [sv])) p3 (.lst [mv])) p2 = some (.lst [sv]) := by rw [upd_ne n32.symm, upd_same]
      have a3 : (L2.upd (L2.upd (L2.upd H2 p1 (.lst [V.str (shownN n)])) p2 (.lst [sv])) p3 (.lst [mv])) p3 = some (.lst [mv]) := upd_same
      have hs123 := Same.tr hs1 (Same.tr hs2 hs3)
      have al := hs123 _ _ el1
      have ap := hs123 _ _ ep
      have s3 := Same.tr s2 hs123
      generalize L2.upd (L2.upd (L2.upd H2 p1 _) p2 _) p3 _ = H3 at a1 a2 a3 al ap s3 ⊢
      have hpn : H p = none := Same.was s1 hp
      refine ⟨ap, [(kS "name", .ref p1), (kS "levelno", .ref p2), (kS "levelname", .ref l), (kS "message", .ref p3)], rfl, Nat.le_of_ble_eq_true rfl, ?_⟩
      rw [mv4]
      have s4 : Same H (L2.upd H3 p (.dK [(kS "name", .ref p1), (kS "levelno", .ref p2), (kS "levelname", .ref l), (kS "message", .ref p3)])) := Same.wr s3 hpn
      have nop : ∀ {b : Addr} {xs : List V}, H3 b = some (.lst xs) → (L2.upd H3 p (.dK [(kS "name", .ref p1), (kS "levelno", .ref p2), (kS "levelname", .ref l), (kS "message", .ref p3)])) b = some (.lst xs) := fun {b xs} e => by
        rw [upd_ne fun z => by rw [z, ap] at e; cases e]
        exact e
      obtain ⟨v1, v2, v3, v4⟩ := vv1 (.ref p1) (.ref p2) (.ref l) (.ref p3)
      obtain ⟨w1, w2, w3, w4⟩ := vF m n lv sc mc
      refine k p _ s4 hpn ⟨_, upd_same, fun nm hnm => ?_⟩
      have hnm' : nm = "message" ∨ nm = "name" ∨ nm = "levelname" ∨ nm = "levelno" := by simpa [markMenu] using hnm
      rcases hnm' with rfl | rfl | rfl | rfl
      · exact ⟨p3, _, v4, nop a3, by rw [w4]; exact .cons (hm.same s4) .nil⟩
      · exact ⟨p1, _, v1, nop a1, by rw [w1]; exact .cons rfl .nil⟩
      · exact ⟨l, _, v3, nop al, by rw [w3]; exact Paired.impl pu fun _ _ z => z.same s4⟩
      · exact ⟨p2, _, v2, nop a2, by rw [w2]; exact .cons (hs.same s4) .nil⟩

theorem sc_outcome_parts : FnScope ["yard", "probe", "level", "values", "found", "handler", "pairs", "stream", "pair"] ["yard", "probe", "level", "values"] (defScope s_outcome_parts) := ⟨rfl, rfl, rfl, by decide +kernel, rfl, by decide +kernel, by decide +kernel⟩
theorem cal_outcome_parts (T : Txt w K mg) : Cal P w K mg base 5 "outcome_parts" (spOutcomeParts K) [] := by
  obtain ⟨fd, F⟩ := T.df_outcome_parts
  have c_writers := cal_writers (P := P) (base := base) T
  have c_line_parts := cal_line_parts (P := P) (base := base) T
  have c_merged := cal_merged (P := P) (base := base) T
  refine ⟨_, fd, ["yard", "probe", "level", "values"], [], F.ok sc_outcome_parts (fun vs H Q E h => ?_) (fun cdv A outer s H vs Q E hr h => ?_), T.m_outcome_parts, F.kp, F.bindsN (fun _ _ _ _ _ _ us hl => match us, hl with | [_, _, _, _], _ => rfl), .nil⟩
  · obtain ⟨_, _, _, _, _, _, _, rfl, _⟩ := h
    rfl
  · obtain ⟨y, A, m, n, lv, d, f, rfl, hy, hn, ok, hv, hf, k⟩ := h
    refine ⟨_, PSs.nox (pss_cons (ps_set (i := 4) sc_outcome_parts.nd rfl (Or.inr rfl) pe_dnewK)
      (pss_cons (ps_for PassesOwn.never rfl (pi_list (pe_c c_writers hr (by decide) (by rfl) (pa_cons (pv 0) (pa_cons (pv 1) (pa_cons (pv 2) pa_nil))))) (pg_name (i := 5) sc_outcome_parts.nd rfl (Or.inl rfl))
        (pss_one (ps_dput (hu_of hr) (pv 4) (pe_fld (pv 5) rfl) (pe_op op_cat (pe_dget2 (hu_of hr) (pv 4) (pe_fld (pv 5) rfl) (pe_lst pa_nil) (by constructor <;> rfl)) (pe_c c_line_parts hr (by decide) (by rfl) (pa_cons (pv 5) (pa_cons (pv 3) pa_nil)))) rfl)))
      (pss_cons (ps_setLc (i := 6) (own := [("stream", 7)]) rfl sc_outcome_parts.nd rfl rfl (sw_true rfl rfl rfl (by decide +kernel)) (pi_list (pe_callB (call_sortedD rfl) (by rfl) T.f_sorted (by decide +kernel) (pa_cons (pv 4) pa_nil))) (blkOk_by (N := ["yard", "probe", "level", "values", "found", "handler", "pairs", "stream", "pair"]) (sc := defScope s_outcome_parts) (own := [("stream", 7)]) (by decide +kernel)) (fun _ _ _ _ _ => pg_name (i := 7) sc_outcome_parts.nd rfl (Or.inl rfl)) (fun _ _ _ _ _ => pts_nil) (fun _ _ _ _ _ => (pe_tup (pa_cons (pv 7) (pa_cons (pe_c c_merged hr (by decide) (by rfl) (pa_cons (pe_dget (hu_of hr) (pv 4) (pv 7) (fun _ _ => rfl)) pa_nil)) pa_nil)))))
      (pss_one (ps_ret (pe_lc (own := [("pair", 8)]) rfl sc_outcome_parts.nd (pi_list (pv 6)) (blkOk_by (N := ["yard", "probe", "level", "values", "found", "handler", "pairs", "stream", "pair"]) (sc := defScope s_outcome_parts) (own := [("pair", 8)]) (by decide +kernel)) (fun _ _ _ _ _ => pg_name (i := 8) sc_outcome_parts.nd rfl (Or.inl rfl)) (fun _ _ _ _ _ => pts_one (pt_cmpR (r := RyV.rNilT K true) (RyV.op_neNilT hr.units) (pe_ix (r := rIxT K) ix_tup (pv 8) pe_int (fun _ _ => rfl)) (pe_tup pa_nil) (nomark _))) (fun _ _ _ _ _ => (pv 8)))))))), ?_⟩
    obtain ⟨wlen, wok⟩ := wr_ok (lv := lv) ok hn
    have wnull : ∀ h ∈ wrX m n lv, h.null = false := fun h hh => wr_null hh
    intro D hD
    have sD := Same.nw (o := .dK []) hD
    have e0 := upd_same (H := H) (a := D) (o := .dK [])
    generalize L2.upd H D _ = H1 at sD e0 ⊢
    refine ⟨_, rfl, _, rfl, _, rfl, y, A, m, n, lv, H, rfl, hy, sD, hn, ok, fun p ws H2 s2 pn e2 pw => ?_⟩
    generalize wrX m n lv = hs at wlen wok wnull pw k
    have lws := Paired.length pw
    have pnH : H p = none := Same.was sD pn
    have hpD : p ≠ D := fun z => by rw [z, e0] at pn; cases pn
    refine ⟨p, rfl, ⟨_, SqL.of e2⟩, ?_⟩
    refine for_list (xs := ws) (fun i σ' H' => ∃ o5 kvs, σ' = [some (.ref y), some (.str n), some (.int lv), some (.ref d), some (.ref D), o5, none, none, none] ∧ Same H H' ∧ H' p = some (.lst ws) ∧ H' D = some (.dK kvs) ∧ AcD K H H' kvs (strms (hs.take i)) (catS f (hs.take i))) ⟨_, [], rfl, Same.tr sD s2, e2, s2 _ _ e0, ⟨rfl, fun s h => nomatch h⟩⟩ (fun i σ' H' _ ⟨_, _, _, _, e, _⟩ => SqL.of e) ?_ ?_
    · rintro i v σ' H3 hv' ⟨o5, kvs, rfl, s3, e3, eD, ac⟩
      obtain ⟨h, eh, hx⟩ := Paired.nth pw hv'
      have hmem := List.mem_of_getElem? eh
      have hok := wok h hmem
      have hx0 := hx
      have ltk : (hs.take i).length ≤ 84 := Nat.le_trans (List.length_take_le ..) (Nat.le_trans (by rw [← lws]; exact Nat.le_of_lt (List.getElem?_eq_some_iff.mp hv').1) wlen)
      obtain ⟨a, dx, fs, fl, ys, fm, rfl, g1, l1, l2, l3, l4, l5, g2, q2, fx⟩ := hx
      have hstr := l5 (wnull h hmem)
      have g1' : H a = some (.ins (ga K "StreamHandler") dx fs) := by
        have z := g1
        rw [wnull h hmem] at z
        exact z
      obtain ⟨snd, smem, slen⟩ := strms_ok _ (hs.take i) rfl
      refine ⟨_, rfl, D, rfl, .inl ⟨_, .inl eD⟩, ?_⟩
      refine ⟨_, rfl, a, _, dx, fs, _, rfl, s3 _ _ g1', T.cl_StreamHandler, T.no_StreamHandler_stream, hstr, ?_⟩
      refine ⟨ssz rfl, fun q hq => ?_⟩
      have sq := Same.nw (o := .lst []) hq
      have eq0 := upd_same (H := H3) (a := q) (o := .lst [])
      have qH : H q = none := Same.was s3 hq
      have eD4 := sq _ _ eD
      have e34 := sq _ _ e3
      have s4 := Same.tr s3 sq
      refine ⟨_, DGet.k (k := kS h.stream) eD4, ?_⟩
      obtain ⟨l0, us0, hl0, el0, pu0⟩ : ∃ l us, (valV kvs (kS h.stream)).getD (.ref q) = .ref l ∧ (L2.upd H3 q (.lst [])) l = some (.lst us) ∧ Paired (CAt K H) us (catS f (hs.take i) h.stream) := by
        by_cases hin : h.stream ∈ strms (hs.take i)
        · obtain ⟨l, us, a1, a2, a3, a4⟩ := ac.at_ _ hin
          exact ⟨l, us, by rw [a1]; rfl, sq _ _ a2, a4⟩
        · refine ⟨q, [], by rw [valV_none ac.keys hin]; rfl, eq0, ?_⟩
          have e : catS f (hs.take i) h.stream = [] := by
            unfold catS
            rw [List.filter_eq_nil_iff.mpr fun x hx z => hin ((smem _).mpr ⟨x, hx, of_decide_eq_true z⟩)]
            rfl
          rw [e]
          exact .nil
      have old : ∀ s ∈ strms (hs.take i), ∃ l us, valV kvs (kS s) = some (.ref l) ∧ (L2.upd H3 q (.lst [])) l = some (.lst us) ∧ H l = none ∧ Paired (CAt K H) us (catS f (hs.take i) s) := fun s hs' => by
        obtain ⟨l, us, a1, a2, a3, a4⟩ := ac.at_ s hs'
        exact ⟨l, us, a1, sq _ _ a2, a3, a4⟩
      have keys := ac.keys
      clear ac
      generalize L2.upd H3 q _ = H4 at eD4 e34 s4 el0 old ⊢
      refine ⟨_, rfl, _, rfl, .ref a, d, h, f, H, rfl, hx0, hok, hv, s4, hf, fun p2 us H5 s5 pn2 e5 pu => ?_⟩
      have s45 := Same.tr s4 s5
      have cl0 := catS_len hf (hs := hs.take i) (fun x hx => wok x (List.mem_of_mem_take hx)) h.stream
      have ll := lineC_len hf hok
      have lu0 := Paired.length pu0
      have lu := Paired.length pu
      refine ⟨l0, p2, us0, us, hl0, rfl, s5 _ _ el0, e5, by rw [sizeLine_eq]; omega, fun p3 hp3 => ?_⟩
      have s6 := Same.nw (o := .lst (us0 ++ us)) hp3
      have s456 := Same.tr s45 s6
      have e6 := upd_same (H := H5) (a := p3) (o := .lst (us0 ++ us))
      have p3H : H p3 = none := Same.was s45 hp3
      have eD6 := s6 _ _ (s5 _ _ eD4)
      have e36 := s6 _ _ (s5 _ _ e34)
      have old6 : ∀ s ∈ strms (hs.take i), ∃ l vs6, valV kvs (kS s) = some (.ref l) ∧ (L2.upd H5 p3 (.lst (us0 ++ us))) l = some (.lst vs6) ∧ H l = none ∧ Paired (CAt K H) vs6 (catS f (hs.take i) s) := fun s hs' => by
        obtain ⟨l, vs6, a1, a2, a3, a4⟩ := old s hs'
        exact ⟨l, vs6, a1, s6 _ _ (s5 _ _ a2), a3, a4⟩
      clear old
      generalize L2.upd H5 p3 _ = H6 at s6 s456 e6 eD6 e36 old6 ⊢
      have lkv : kvs.length ≤ 84 := by
        have z := congrArg List.length keys
        rw [List.length_map, List.length_map] at z
        omega
      refine ⟨_, rfl, _, rfl, a, _, dx, fs, _, rfl, s456 _ _ g1', T.cl_StreamHandler, T.no_StreamHandler_stream, hstr, D, _, rfl, DPut.k (k := kS h.stream) eD6 (by rw [sizeLine_eq]; omega), ?_⟩
      refine ⟨_, putK kvs (kS h.stream) (.ref p3), rfl, Same.wr s456 hD, by rw [upd_ne hpD]; exact e36, upd_same, ?_⟩
      have nD : ∀ {b : Addr} {xs : List V} {o : HO}, H6 b = some (.lst xs) → (L2.upd H6 D o) b = some (.lst xs) := fun {b xs o} e => by
        rw [upd_ne fun z => by rw [z, eD6] at e; cases e]
        exact e
      rw [take_nth eh, strms_snoc]
      refine ⟨putK_keysU keys _ _, fun s hs' => ?_⟩
      rw [catS_snoc, valV_put]
      by_cases e : h.stream = s
      · subst e
        rw [if_pos rfl, if_pos rfl]
        exact ⟨p3, _, rfl, nD e6, p3H, Paired.app' pu0 pu⟩
      · rw [if_neg (fun z => e (Sum.inr.inj z).symm), if_neg e, List.append_nil]
        obtain ⟨l, us, a1, a2, a3, a4⟩ := old6 s ((addU_mem.mp hs').resolve_right fun z => e z.symm)
        exact ⟨l, us, a1, nD a2, a3, a4⟩
    · rintro σ' H3 ⟨o5, kvs, rfl, s3, e3, eD, ac⟩
      rw [lws, List.take_length] at ac
      obtain ⟨snd, smem, slen⟩ := strms_ok _ hs rfl
      have s64 : (strms hs).length ≤ 4 := nodup_leU (l2 := streamMenu) snd fun s hs' => by
        obtain ⟨h, hh, rfl⟩ := (smem s).mp hs'
        exact (wok h hh).stream
      refine ⟨_, rfl, D, kvs, strms hs, rfl, .inl eD, ac.keys, by omega, fun ys2 p2 hperm hsort hp2 => ?_⟩
      have hys := srt_of hperm hsort
      subst hys
      have s4 := Same.tr s3 (Same.nw (o := .lst ((srt (strms hs)).map V.str)) hp2)
      have e4 := upd_same (H := H3) (a := p2) (o := .lst ((srt (strms hs)).map V.str))
      have eD4 := upd_at (p := p2) (o := .lst ((srt (strms hs)).map V.str)) eD hp2
      have ac4 : ∀ s ∈ strms hs, ∃ l us, valV kvs (kS s) = some (.ref l) ∧ (L2.upd H3 p2 (.lst ((srt (strms hs)).map V.str))) l = some (.lst us) ∧ Paired (CAt K H) us (catS f hs s) := fun s hs' => by
        obtain ⟨l, us, a1, a2, a3, a4⟩ := ac.at_ s hs'
        exact ⟨l, us, a1, upd_at a2 hp2, a4⟩
      clear ac
      generalize L2.upd H3 p2 _ = H4 at s4 e4 eD4 ac4 ⊢
      refine ⟨p2, rfl, ⟨_, SqL.of e4⟩, fun D2 hD2 => ?_⟩
      refine lc_list (xs := (srt (strms hs)).map V.str) (fun j H' => Same H4 H' ∧ ∃ vs, H' D2 = some (.lst vs) ∧ Paired (PAt K H') vs (((srt (strms hs)).take j).map fun s => (s, mergeC (catS f hs s)))) ⟨Same.nw hD2, [], upd_same, .nil⟩ (fun j H' _ h => SqL.of (h.1 _ _ e4)) ?_ ?_
      · rintro j v H5 hz ⟨s5, vs, e5, pv⟩
        rw [List.getElem?_map] at hz
        obtain ⟨s, es, rfl⟩ := Option.map_eq_some_iff.mp hz
        have hs' : s ∈ strms hs := (srt_perm _).mem_iff.mp (List.mem_of_getElem? es)
        obtain ⟨l, us, a1, a2, a3⟩ := ac4 s hs'
        have cl := catS_len hf wok s
        have lvs := Paired.length pv
        rw [List.length_map, List.length_take] at lvs
        have hj : (srt (strms hs)).length ≤ 4 := by rw [(srt_perm _).length_eq]; exact s64
        have s45 := Same.tr s4 s5
        refine ⟨rfl, ?_⟩
        dsimp only [tYes]
        rw [if_pos rfl]
        refine ⟨_, rfl, _, rfl, _, rfl, D, _, rfl, dget (s5 _ _ eD4) a1, ?_⟩
        refine ⟨l, us, catS f hs s, rfl, s5 _ _ a2, Paired.impl a3 fun _ _ z => z.same s45, by omega, by omega, fun q ws6 H6 s6 qn eq6 pw6 => ?_⟩
        refine ⟨ssz rfl, fun t ht => ?_⟩
        have s7 := Same.nw (o := .tup [V.str s, V.ref q]) ht
        have s67 := Same.tr s6 s7
        have e7 := s67 _ _ e5
        have pat : PAt K (L2.upd H6 t (.tup [V.str s, V.ref q])) (.ref t) (s, mergeC (catS f hs s)) := ⟨t, q, ws6, rfl, upd_same, s7 _ _ eq6, Paired.impl pw6 fun _ _ z => z.same s7⟩
        refine ⟨vs, e7, by rw [sizeLine_eq]; omega, Same.wr (Same.tr s5 s67) hD2, vs ++ [.ref t], upd_same, ?_⟩
        rw [take_nth es, List.map_append]
        exact Paired.app' (Paired.impl pv fun _ _ z => (z.same s67).upd e7) (.cons (pat.upd e7) .nil)
      · rintro H5 ⟨s5, vs, e5, pv⟩
        rw [List.length_map, List.take_length] at pv
        have s45 := Same.tr s4 s5
        have lvs := Paired.length pv
        have hL : ((srt (strms hs)).map fun s => (s, mergeC (catS f hs s))).length ≤ 4 := by rw [List.length_map, (srt_perm _).length_eq]; exact s64
        unfold outP at k
        generalize ((srt (strms hs)).map fun s => (s, mergeC (catS f hs s))) = ps at pv lvs hL k
        refine ⟨_, rfl, D2, rfl, ⟨_, SqL.of e5⟩, fun D3 hD3 => ?_⟩
        refine lc_list (xs := vs) (fun j H' => Same H5 H' ∧ ∃ vs2, H' D3 = some (.lst vs2) ∧ Paired (PAt K H5) vs2 ((ps.take j).filter fun p => !p.2.isEmpty)) ⟨Same.nw hD3, [], upd_same, .nil⟩ (fun j H' _ h => SqL.of (h.1 _ _ e5)) ?_ ?_
        · rintro j v H6 hz ⟨s6, vs2, e6, pv2⟩
          obtain ⟨pr, ep, hp⟩ := Paired.nth pv hz
          have hp0 := hp
          obtain ⟨t, q, ws6, rfl, et, eq6, pw6⟩ := hp
          have lv2 := Paired.length pv2
          have lf := List.length_filter_le (fun p : Str × List Cl => !p.2.isEmpty) (ps.take j)
          rw [List.length_take] at lf
          refine ⟨rfl, ?_⟩
          refine ⟨_, rfl, t, _, _, _, rfl, rfl, SqT.of (s6 _ _ et), atI_nat (j := 1) rfl, ?_⟩
          refine ⟨ssz rfl, fun u hu => ?_⟩
          have s7 := Same.nw (o := .tup []) hu
          have s67 := Same.tr s6 s7
          have eb : ws6.isEmpty = pr.2.isEmpty := by
            have z := Paired.length pw6
            cases ws6 with
            | nil =>
              have y : pr.2 = [] := List.eq_nil_of_length_eq_zero z.symm
              show true = pr.2.isEmpty
              rw [y]
              rfl
            | cons a b =>
              cases h : pr.2 with
              | nil => rw [h] at z; cases z
              | cons c d => rfl
          refine ⟨q, u, ws6, rfl, rfl, SqT.of (s67 _ _ eq6), SqT.of upd_same, _, rfl, ?_⟩
          rw [if_pos rfl, eb]
          cases hb : pr.2.isEmpty with
          | true =>
            refine iteF ⟨s67, vs2, s7 _ _ e6, ?_⟩
            rw [take_filter_snoc ep, hb, if_neg (fun z => Bool.noConfusion z), List.append_nil]
            exact pv2
          | false =>
            refine iteT ?_
            refine ⟨_, rfl, vs2, s7 _ _ e6, by rw [sizeLine_eq]; omega, Same.wr s67 hD3, vs2 ++ [.ref t], upd_same, ?_⟩
            rw [take_filter_snoc ep, if_pos (by rw [hb]; rfl)]
            exact Paired.app' pv2 (.cons hp0 .nil)
        · rintro H6 ⟨s6, vs2, e6, pv2⟩
          rw [lvs, List.take_length] at pv2
          exact k D3 vs2 H6 (Same.tr s45 s6) (Same.was s45 hD3) e6 (Paired.impl pv2 fun _ _ z => z.same s6)

end
end Ry
namespace Ry
open PySem PySem.Spec PyProof.Rows L2 He RyH
open C8 (pss_cut tCut Cal Met Mak pe_c pe_mk pe_mt pe_mt0 pe_gc)
/-! ### texts one behind another -/
def catT : List Str → Str
  | [] => ""
  | x :: xs => x ++ catT xs
theorem str_app_nil (x : Str) : x ++ ("" : Str) = x := str_ext (by show (x.cps ++ (#[] : Array Nat)).toList = _; rw [Array.toList_append]; exact List.append_nil _)
theorem str_nil_app (x : Str) : ("" : Str) ++ x = x := str_ext (by show ((#[] : Array Nat) ++ x.cps).toList = _; rw [Array.toList_append]; rfl)
theorem str_app_assoc (x y z : Str) : x ++ y ++ z = x ++ (y ++ z) := str_ext (by show (x.cps ++ y.cps ++ z.cps).toList = (x.cps ++ (y.cps ++ z.cps)).toList; rw [Array.append_assoc])
theorem join_cat : ∀ xs : List Str, Txt.join "" xs = catT xs
  | [] => rfl
  | [x] => (str_app_nil x).symm
  | x :: y :: xs => by
    have z := join_cat (y :: xs)
    have e : ∀ l, Txt.join "" l = Str.join "" l := fun l => StrLaws.glued_eq_join _ l
    rw [e] at z ⊢
    show x ++ "" ++ Str.join "" (y :: xs) = x ++ catT (y :: xs)
    rw [z, str_app_nil]
theorem catT_app : ∀ xs ys : List Str, catT (xs ++ ys) = catT xs ++ catT ys
  | [], ys => (str_nil_app _).symm
  | x :: xs, ys => by
    show x ++ catT (xs ++ ys) = x ++ catT xs ++ catT ys
    rw [catT_app xs ys, str_app_assoc]
theorem catT_len : ∀ xs : List Str, (catT xs).length = (xs.map (·.length)).sum
  | [] => rfl
  | x :: xs => by
    show (x ++ catT xs).length = _
    rw [str_len_app, catT_len xs, List.map_cons, List.sum_cons]
/-! ### what is filled in -/
def cTxt (n : Str) (lv : Int) (msg : Str) : Cl → Str
  | .t s => s
  | .m s => if s = "name" then shownN n else if s = "level" then toString lv else msg
def filledL (ps : List (Str × List Cl)) (n : Str) (lv : Int) (msg : Str) : List (Str × Str) := (ps.map fun p => (p.1, catT (p.2.map (cTxt n lv msg)))).filter fun q => !decide (V.str q.2 = V.str "")
def TAt (H : Hp) (v : V) (p : Str × Str) : Prop := ∃ a, v = .ref a ∧ H a = some (.tup [.str p.1, .str p.2])
theorem TAt.same {H H' : Hp} {v : V} {p : Str × Str} (h : TAt H v p) (k : Same H H') : TAt H' v p := let ⟨a, e, q⟩ := h; ⟨a, e, k _ _ q⟩
theorem TAt.upd {H : Hp} {v : V} {p : Str × Str} {D : Addr} {xs : List V} {o : HO} (h : TAt H v p) (e : H D = some (.lst xs)) : TAt (L2.upd H D o) v p := by
  obtain ⟨a, e0, q⟩ := h
  exact ⟨a, e0, by rw [upd_ne fun z => by rw [z, e] at q; cases q]; exact q⟩
def markNames : List Str := ["name", "level", "message"]
structure FilOk (ps : List (Str × List Cl)) (n : Str) (lv : Int) (msg : Str) : Prop where
  few : ps.length ≤ 10
  len : ∀ p ∈ ps, p.2.length ≤ 100000
  sum : ∀ p ∈ ps, ((p.2.map (cTxt n lv msg)).map (·.length)).sum ≤ 16000000
  marks : ∀ p ∈ ps, ∀ s, Cl.m s ∈ p.2 → s ∈ markNames
def spFilled (K : PySem.W.Frag) : Sp := fun vs H Q _ => ∃ (p : Addr) (us : List V) (ps : List (Str × List Cl)) (n : Str) (lv : Int) (msg : Str), vs = [.ref p, .str n, .int lv, .str msg] ∧ H p = some (.lst us) ∧ Paired (PAt K H) us ps ∧ FilOk ps n lv msg ∧ lvOk lv ∧
  ∀ q ws H', Same H H' → H q = none → H' q = some (.lst ws) → Paired (TAt H') ws (filledL ps n lv msg) → Q (.ref q) H'
def txs (K : PySem.W.Frag) (n : Str) (lv : Int) (msg : Str) : List (List Key × Addr × V) := [([kS "name"], ga K "NAME", .str (shownN n)), ([kS "level"], ga K "LEVEL", .str (toString lv)), ([kS "message"], ga K "MESSAGE", .str msg)]
theorem tx_mark (K : PySem.W.Frag) (n : Str) (lv : Int) (msg : Str) : ∀ s ∈ markNames, RyV.txAt (txs K n lv msg) [kS s] = some (.str (cTxt n lv msg (.m s))) := by
  intro s hs
  have h : s = "name" ∨ s = "level" ∨ s = "message" := by simpa [markNames] using hs
  rcases h with rfl | rfl | rfl
  · kernel_rfl
  · kernel_rfl
  · kernel_rfl
/-! ### texts alone -/
theorem valsF_t {m : Mdl} {n : Str} {lv : Int} {a b nm : Str} {c : Cl} (h : c ∈ valsF m n lv (.t a) (.t b) nm) : c.isT = true := by
  unfold valsF namedC at h
  split at h
  · rw [List.mem_singleton.mp h]; rfl
  · split at h
    · rw [List.mem_singleton.mp h]; rfl
    · split at h
      · rw [if_pos (by rfl)] at h
        rw [List.mem_singleton.mp h]; rfl
      · rw [List.mem_singleton.mp h]; rfl
theorem lineC_t {x : HX} {f : Str → List Cl} (hf : ∀ nm, ∀ c ∈ f nm, c.isT = true) : ∀ c ∈ lineC x f, c.isT = true := fun c h => by
  unfold lineC lineP at h
  rcases List.mem_append.mp h with h | h
  · split at h
    · exact hf _ c h
    · obtain ⟨j, _, hj⟩ := List.mem_flatMap.mp h
      cases j with
      | txt l => rw [List.mem_singleton.mp hj]; rfl
      | fld nm => exact hf _ c hj
  · rw [List.mem_singleton.mp h]; rfl
theorem catS_t {f : Str → List Cl} (hf : ∀ nm, ∀ c ∈ f nm, c.isT = true) {hs : List HX} {s : Str} : ∀ c ∈ catS f hs s, c.isT = true := fun c h => by
  obtain ⟨x, _, hx⟩ := List.mem_flatMap.mp h
  exact lineC_t hf c hx
theorem mstep_t {acc : List Cl} {c : Cl} (ha : ∀ x ∈ acc, x.isT = true) (hc : c.isT = true) : ∀ x ∈ mstep acc c, x.isT = true := fun x hx => by
  cases q : joinsC acc c with
  | true =>
    obtain ⟨acc', r, s, rfl, rfl, e⟩ := mstep_join q
    rw [e] at hx
    rcases List.mem_append.mp hx with hx | hx
    · exact ha x (List.mem_append_left _ hx)
    · rw [List.mem_singleton.mp hx]; rfl
  | false =>
    rw [mstep_app q] at hx
    split at hx
    · exact ha x hx
    · rcases List.mem_append.mp hx with hx | hx
      · exact ha x hx
      · rw [List.mem_singleton.mp hx]; exact hc
theorem mergeF_t : ∀ {cs acc : List Cl}, (∀ c ∈ cs, c.isT = true) → (∀ x ∈ acc, x.isT = true) → ∀ x ∈ cs.foldl mstep acc, x.isT = true
  | [], acc, _, ha => ha
  | c :: cs, acc, hc, ha => mergeF_t (cs := cs) (acc := mstep acc c) (fun x hx => hc x (List.mem_cons_of_mem _ hx)) (mstep_t ha (hc c (List.mem_cons_self ..)))
theorem mergeC_t {cs : List Cl} (h : ∀ c ∈ cs, c.isT = true) : ∀ x ∈ mergeC cs, x.isT = true := mergeF_t h fun x hx => nomatch hx
theorem csum_t {n : Str} {lv : Int} {msg : Str} : ∀ {cs : List Cl}, (∀ c ∈ cs, c.isT = true) → ((cs.map (cTxt n lv msg)).map (·.length)).sum = csum cs
  | [], _ => rfl
  | c :: cs, h => by
    have z := csum_t (n := n) (lv := lv) (msg := msg) (cs := cs) fun x hx => h x (List.mem_cons_of_mem _ hx)
    have hc := h c (List.mem_cons_self ..)
    have e : csum (c :: cs) = clen c + csum cs := by unfold csum; rw [List.map_cons, List.sum_cons]
    rw [List.map_cons, List.map_cons, List.sum_cons, z, e]
    cases c with
    | t s => rfl
    | m s => cases hc
theorem outP_ok {m : Mdl} {n : Str} {lv : Int} {f : Str → List Cl} (ok : Mok m) (hn : NmOk n) (hf : Vok f) : (outP (wrX m n lv) f).length ≤ 4 ∧ ∀ p ∈ outP (wrX m n lv) f, p.1 ∈ streamMenu ∧ (∃ s, p.2 = mergeC (catS f (wrX m n lv) s)) ∧ p.2.length ≤ 13524 ∧ csum p.2 ≤ 1344336 := by
  obtain ⟨wlen, wok⟩ := wr_ok (lv := lv) ok hn
  obtain ⟨snd, smem, slen⟩ := strms_ok _ (wrX m n lv) rfl
  have s64 : (strms (wrX m n lv)).length ≤ 4 := nodup_leU (l2 := streamMenu) snd fun s hs' => by
    obtain ⟨h, hh, rfl⟩ := (smem s).mp hs'
    exact (wok h hh).stream
  refine ⟨Nat.le_trans (List.length_filter_le ..) (by rw [List.length_map, (srt_perm _).length_eq]; exact s64), fun p hp => ?_⟩
  obtain ⟨s, hs, rfl⟩ := List.mem_map.mp (List.mem_filter.mp hp).1
  have cl := catS_len hf wok s
  have mc := mergeC_sum (catS f (wrX m n lv) s)
  refine ⟨?_, ⟨s, rfl⟩, ?_, ?_⟩
  · obtain ⟨h, hh, rfl⟩ := (smem s).mp ((srt_perm _).mem_iff.mp hs)
    exact (wok h hh).stream
  · show (mergeC (catS f (wrX m n lv) s)).length ≤ _
    omega
  · show csum (mergeC (catS f (wrX m n lv) s)) ≤ _
    omega
/-- the outcome of a record -/
def told (m : Mdl) (n : Str) (lv : Int) (msg : Str) : List (Str × Str) := filledL (outP (wrX m n lv) (valsF m n lv (.t (toString lv)) (.t msg))) n lv ""
structure RecOk (n : Str) (lv : Int) (msg : Str) : Prop where
  nm : NmOk n
  n50 : n.length ≤ 50
  m50 : msg.length ≤ 50
  lo : lvOk lv
  l20 : (toString lv : Str).length ≤ 20
theorem lvName_len {m : Mdl} {lv : Int} (ok : Mok m) (h : (toString lv : Str).length ≤ 20) : (lvName m lv).length ≤ 26 := by
  unfold lvName
  cases q : m.nm.lookup lv with
  | some x => exact Nat.le_trans (ok.words _ (lookup_mem' q)) (by decide)
  | none =>
    show (("Level " : Str) ++ toString lv).length ≤ 26
    rw [str_len_app]
    have : ("Level " : Str).length = 6 := rfl
    omega
theorem shown_len {n : Str} (h : n.length ≤ 50) : (shownN n).length ≤ 50 := by
  unfold shownN
  split
  · exact Nat.le_of_ble_eq_true rfl
  · exact h
theorem valsF_ok {m : Mdl} {n msg : Str} {lv : Int} (ok : Mok m) (r : RecOk n lv msg) : Vok (valsF m n lv (.t (toString lv)) (.t msg)) := by
  have one : ∀ s : Str, s.length ≤ 200 → ([Cl.t s] : List Cl).length ≤ 2 ∧ csum [Cl.t s] ≤ 200 := fun s hs => ⟨Nat.le_of_ble_eq_true rfl, by show s.length + 0 ≤ 200; omega⟩
  have all : ∀ nm, (valsF m n lv (.t (toString lv)) (.t msg) nm).length ≤ 2 ∧ csum (valsF m n lv (.t (toString lv)) (.t msg) nm) ≤ 200 := fun nm => by
    unfold valsF namedC
    split
    · exact one _ (Nat.le_trans (shown_len r.n50) (by decide))
    · split
      · exact one _ (Nat.le_trans r.l20 (by decide))
      · split
        · rw [if_pos (by rfl)]
          exact one _ (Nat.le_trans (lvName_len ok r.l20) (by decide))
        · exact one _ (Nat.le_trans r.m50 (by decide))
  exact ⟨fun nm _ => (all nm).1, fun nm _ => (all nm).2⟩
theorem told_fil {m : Mdl} {n msg : Str} {lv : Int} (ok : Mok m) (r : RecOk n lv msg) : FilOk (outP (wrX m n lv) (valsF m n lv (.t (toString lv)) (.t msg))) n lv "" := by
  obtain ⟨h1, h2⟩ := outP_ok (lv := lv) ok r.nm (valsF_ok ok r)
  have ht : ∀ p ∈ outP (wrX m n lv) (valsF m n lv (.t (toString lv)) (.t msg)), ∀ c ∈ p.2, c.isT = true := fun p hp => by
    obtain ⟨_, ⟨s, e⟩, _⟩ := h2 p hp
    rw [e]
    exact mergeC_t (catS_t fun nm c hc => valsF_t hc)
  refine ⟨Nat.le_trans h1 (by decide), fun p hp => Nat.le_trans (h2 p hp).2.2.1 (by decide), fun p hp => ?_, fun p hp s hs => ?_⟩
  · rw [csum_t (ht p hp)]
    exact Nat.le_trans (h2 p hp).2.2.2 (by decide)
  · cases ht p hp _ hs
def spOutcome (K : PySem.W.Frag) : Sp := fun vs H Q _ => ∃ (y : Addr) (A : Str → Addr) (m : Mdl) (r : Addr) (n : Str) (lv : Int) (msg : Str), vs = [.ref y, .ref r] ∧ YdX K H y A m ∧ Mok m ∧ SqA H r [.str n, .int lv, .str msg] ∧ RecOk n lv msg ∧
  ∀ q ws H', Same H H' → H q = none → H' q = some (.lst ws) → Paired (TAt H') ws (told m n lv msg) → Q (.ref q) H'
section
variable {P : Program} {w : World} {K : PySem.W.Frag} {mg : Str → Option Value} {base : Heap}
theorem sc_filled : FnScope ["pairs", "name", "level", "message", "texts", "found", "stream", "parts", "part", "pair"] ["pairs", "name", "level", "message"] (defScope s_filled) := ⟨rfl, rfl, rfl, by decide +kernel, rfl, by decide +kernel, by decide +kernel⟩
theorem cal_filled (T : Txt w K mg) : Cal P w K mg base 1 "filled" (spFilled K) [] := by
  obtain ⟨fd, F⟩ := T.df_filled
  refine ⟨_, fd, ["pairs", "name", "level", "message"], [], F.ok sc_filled (fun vs H Q E h => ?_) (fun cdv A outer s H vs Q E hr h => ?_), T.m_filled, F.kp, F.bindsN (fun _ _ _ _ _ _ us hl => match us, hl with | [_, _, _, _], _ => rfl), .nil⟩
  · obtain ⟨_, _, _, _, _, _, rfl, _⟩ := h
    rfl
  · obtain ⟨p, us, ps, n, lv, msg, rfl, ep, pu, ok, hlv, k⟩ := h
    refine ⟨_, PSs.nox (pss_cons (ps_set (i := 4) sc_filled.nd rfl (Or.inr rfl) (RyV.pe_dispT (hu_of hr) (pps_cons (pe_gc (by rfl) (T.gv_NAME)) (RyT.pe_cutE (pe_ifExp (pt_cmpR op_eq (pv 1) pe_str (nomark _)) pe_str (pv 1))) (pps_cons (pe_gc (by rfl) (T.gv_LEVEL)) (pe_callTy call_str_int (by rfl) T.f_str (by decide +kernel) (pa_cons (pv 2) pa_nil)) (pps_cons (pe_gc (by rfl) (T.gv_MESSAGE)) (pv 3) pps_nil))) (by rfl) (by rfl) (fun z => by cases z) (by decide)))
      (pss_cons (ps_set (i := 5) sc_filled.nd rfl (Or.inl rfl) (pe_lst pa_nil))
      (pss_cons (ps_for PassesOwn.never rfl (pi_list (pv 0)) (pg_tup rfl (pgs_cons (pg_name (i := 6) sc_filled.nd rfl (Or.inl rfl)) (pgs_cons (pg_name (i := 7) sc_filled.nd rfl (Or.inl rfl)) pgs_nil)))
        (pss_one (ps_expr (pe_bm PySem.F.plainAttrs_list PySem.F.slot_list_append PySem.F.type_list_append mt_append (pv 5) (pa_cons (pe_tup (pa_cons (pv 6) (pa_cons (pe_join pe_str (pe_lc (own := [("part", 8)]) rfl sc_filled.nd (pi_tup (pv 7)) (blkOk_by (N := ["pairs", "name", "level", "message", "texts", "found", "stream", "parts", "part", "pair"]) (sc := defScope s_filled) (own := [("part", 8)]) (by decide +kernel)) (fun _ _ _ _ _ => pg_name (i := 8) sc_filled.nd rfl (Or.inl rfl)) (fun _ _ _ _ _ => pts_nil) (fun _ _ _ _ _ => (RyT.pe_cutE (pe_ifExp (pt_val (pe_callB (id := "isinstance") (r := rIsi K) call_isi (by rfl) T.f_isinstance (by decide +kernel) (pa_cons (pv 8) (pa_cons (pe_bltn (v := .ty "str") (by rfl) T.f_str (by decide +kernel) rfl) pa_nil)))) (pv 8) (pe_ix (r := RyV.rIxTx P w K) (RyV.ix_tx (hu_of hr)) (pv 4) (pe_callTy (T := "tuple") (r := RyV.rTupOf K) RyV.call_tupOf (by rfl) T.f_tuple (by decide +kernel) (pa_cons (pv 8) pa_nil)) (fun _ _ => rfl))))))) pa_nil))) pa_nil)))))
      (pss_one (ps_ret (pe_lc (own := [("pair", 9)]) rfl sc_filled.nd (pi_list (pv 5)) (blkOk_by (N := ["pairs", "name", "level", "message", "texts", "found", "stream", "parts", "part", "pair"]) (sc := defScope s_filled) (own := [("pair", 9)]) (by decide +kernel)) (fun _ _ _ _ _ => pg_name (i := 9) sc_filled.nd rfl (Or.inl rfl)) (fun _ _ _ _ _ => pts_one (pt_cmpR op_ne (pe_ix (r := rIxT K) ix_tup (pv 9) pe_int (fun _ _ => rfl)) pe_str (nomark _))) (fun _ _ _ _ _ => (pv 9)))))))), ?_⟩
    intro D hD
    have sD := Same.nw (o := .dT []) hD
    have eD0 := upd_same (H := H) (a := D) (o := .dT [])
    refine ⟨fun u H2 => u = .str (shownN n) ∧ L2.upd H D (.dT []) = H2, ?_, ?_⟩
    · refine ⟨_, rfl, rfl, _, rfl, ?_⟩
      unfold shownN
      by_cases e : n = ""
      · rw [if_pos e]
        refine Eq.mpr (if_pos (decide_eq_true (by rw [e]))) ?_
        exact ⟨rfl, rfl⟩
      · rw [if_neg e]
        refine Eq.mpr (if_neg (by rw [decide_eq_false fun z => e (V.str.inj z)]; exact Bool.false_ne_true)) ?_
        exact ⟨_, rfl, rfl, rfl⟩
    rintro _ _ ⟨rfl, rfl⟩
    have hkeys : ∀ H' : Hp, ∀ x ∈ txs K n lv msg, SqT K H' x.2.1 (x.1.map kV) := fun H' x hx => by
      have h : x = ([kS "name"], ga K "NAME", .str (shownN n)) ∨ x = ([kS "level"], ga K "LEVEL", .str (toString lv)) ∨ x = ([kS "message"], ga K "MESSAGE", .str msg) := by
        simpa [txs] using hx
      rcases h with rfl | rfl | rfl
      · exact T.tu_NAME H'
      · exact T.tu_LEVEL H'
      · exact T.tu_MESSAGE H'
    refine ⟨_, rfl, lv, rfl, by have := hlv.1; omega, ?_⟩
    refine ⟨_, rfl, eD0, txs K n lv msg, rfl, Nat.le_of_ble_eq_true rfl, (show ([[kS "name"], [kS "level"], [kS "message"]] : List (List Key)).Nodup from by decide), hkeys _, ?_⟩
    generalize ho : RyV.TxO _ _ D (txs K n lv msg) = o
    have ho' : RyV.TxO P w D (txs K n lv msg) = o := ho
    have s1 : Same H (L2.upd (L2.upd H D (.dT [])) D o) := Same.wr sD hD
    have eT := upd_same (H := L2.upd H D (.dT [])) (a := D) (o := o)
    generalize L2.upd (L2.upd H D (.dT [])) D o = H1 at s1 eT ⊢
    rw [← ho'] at eT
    clear ho ho'
    have lus := Paired.length pu
    have hfew := ok.few
    refine ⟨ssz rfl, fun F hF => ?_⟩
    have sF := Same.nw (o := .lst []) hF
    have eF0 := upd_same (H := H1) (a := F) (o := .lst [])
    have eT2 := upd_at (p := F) (o := .lst []) eT hF
    have s2 := Same.tr s1 sF
    have FH : H F = none := Same.was s1 hF
    generalize L2.upd H1 F _ = H2 at eF0 eT2 s2 ⊢
    have hFD : F ≠ D := fun z => by rw [z, eT2] at eF0; cases eF0
    refine ⟨_, rfl, p, rfl, ⟨_, SqL.of (s2 _ _ ep)⟩, ?_⟩
    refine for_list (xs := us) (fun i σ' H' => ∃ o6 o7 ws, σ' = [some (.ref p), some (.str n), some (.int lv), some (.str msg), some (.ref D), some (.ref F), o6, o7, none, none] ∧ Same H H' ∧ H' D = some (RyV.TxO P w D (txs K n lv msg)) ∧ H' F = some (.lst ws) ∧ Paired (TAt H') ws ((ps.take i).map fun p => (p.1, catT (p.2.map (cTxt n lv msg))))) ⟨_, _, [], rfl, s2, eT2, eF0, .nil⟩ (fun i σ' H' _ ⟨_, _, _, _, s, _⟩ => SqL.of (s _ _ ep)) ?_ ?_
    · rintro i v σ' H3 hv ⟨o6, o7, ws, rfl, s3, eT3, eF3, pw⟩
      obtain ⟨pr, epr, hp⟩ := Paired.nth pu hv
      have hprm := List.mem_of_getElem? epr
      obtain ⟨t, q, cv, rfl, et, eq, pc⟩ := hp
      have lws := Paired.length pw
      rw [List.length_map, List.length_take] at lws
      refine ⟨t, _, rfl, SqT.of (s3 _ _ et), rfl, ?_⟩
      refine ⟨_, _, rfl, _, _, rfl, rfl, ?_⟩
      refine ⟨_, rfl, .inl ⟨rfl, _, SqL.of eF3⟩, ?_⟩
      refine ⟨_, rfl, ⟨_, rfl⟩, ?_⟩
      refine ⟨_, rfl, q, rfl, ⟨cv, SqT.of (s3 _ _ eq)⟩, fun D2 hD2 => ?_⟩
      have lcv := Paired.length pc
      have hl5 := ok.len pr hprm
      refine lc_it (walk_tup (xs := cv)) (fun j H' => Same H3 H' ∧ H' D2 = some (.lst ((pr.2.take j).map fun c => V.str (cTxt n lv msg c)))) ⟨Same.nw hD2, upd_same⟩ (fun j H' _ h => SqT.of (h.1 _ _ (s3 _ _ eq))) ?_ ?_
      · rintro j x H5 H4 hj ⟨s4, e4⟩ ⟨rfl, ex⟩
        obtain ⟨c, ec, hc⟩ := Paired.nth pc ex
        have s34 := Same.tr s3 s4
        have hc4 := hc.same s34
        refine ⟨rfl, ?_⟩
        dsimp only [tYes]
        rw [if_pos rfl]
        refine ⟨fun u H6 => u = .str (cTxt n lv msg c) ∧ H4 = H6, ?_, ?_⟩
        · obtain ⟨ty1, hty1, hk1⟩ := hc4.isStr
          refine ⟨_, rfl, _, _, ty1, _, _, rfl, .ty _, hty1, hk1, _, rfl, ?_⟩
          cases c with
          | t s =>
            cases (show x = .str s from hc4)
            refine iteT ?_
            exact ⟨_, rfl, rfl, rfl⟩
          | m s =>
            obtain ⟨a, rfl, sq⟩ := hc4
            refine iteF ?_
            refine ⟨_, rfl, _, rfl, a, _, rfl, .inr ⟨sq, ?_⟩⟩
            exact ⟨D, a, txs K n lv msg, [kS s], _, rfl, rfl, s4 _ _ eT3, hkeys _, sq, tx_mark K n lv msg s (ok.marks pr hprm s (List.mem_of_getElem? ec)), rfl, rfl⟩
        · rintro _ _ ⟨rfl, rfl⟩
          refine ⟨_, e4, by rw [List.length_map, List.length_take, sizeLine_eq]; omega, Same.wr s4 hD2, ?_⟩
          rw [upd_same, take_nth ec, List.map_append]
          rfl
      · rintro H4 ⟨s4, e4⟩
        rw [lcv, List.take_length] at e4
        have e4' : H4 D2 = some (.lst ((pr.2.map (cTxt n lv msg)).map V.str)) := by
          rw [e4, List.map_map]
          rfl
        have hs := ok.sum pr hprm
        refine ⟨_, D2, pr.2.map (cTxt n lv msg), rfl, rfl, .inl (SqL.of e4'), by show _ + _ * 0 ≤ _; rw [Nat.mul_zero, Nat.add_zero]; exact Nat.le_trans hs (by decide), ?_⟩
        refine ⟨ssz rfl, fun t2 ht2 => ?_⟩
        have s5 := Same.nw (o := .tup [V.str pr.1, V.str (Txt.join "" (pr.2.map (cTxt n lv msg)))]) ht2
        have s45 := Same.tr s4 s5
        have eF5 := s45 _ _ eF3
        have tat : TAt (L2.upd H4 t2 (.tup [V.str pr.1, V.str (Txt.join "" (pr.2.map (cTxt n lv msg)))])) (.ref t2) (pr.1, catT (pr.2.map (cTxt n lv msg))) := ⟨t2, rfl, by rw [upd_same, join_cat]⟩
        refine ⟨F, ws, _, rfl, rfl, eF5, by rw [sizeLine_eq]; omega, _, _, ws ++ [.ref t2], rfl, Same.wr (Same.tr s3 s45) FH, by rw [upd_ne hFD.symm]; exact s45 _ _ eT3, upd_same, ?_⟩
        rw [take_nth epr, List.map_append]
        exact Paired.app' (Paired.impl pw fun _ _ z => (z.same s45).upd eF5) (.cons (tat.upd eF5) .nil)
    · rintro σ' H3 ⟨o6, o7, ws, rfl, s3, eT3, eF3, pw⟩
      rw [lus, List.take_length] at pw
      have lws := Paired.length pw
      rw [List.length_map] at lws
      have lws' : ws.length = (ps.map fun p => (p.1, catT (p.2.map (cTxt n lv msg)))).length := by rw [List.length_map, lws]
      unfold filledL at k
      generalize (ps.map fun p => (p.1, catT (p.2.map (cTxt n lv msg)))) = ts at pw k lws'
      refine ⟨_, rfl, F, rfl, ⟨_, SqL.of eF3⟩, fun D3 hD3 => ?_⟩
      refine lc_list (xs := ws) (fun j H' => Same H3 H' ∧ ∃ ws2, H' D3 = some (.lst ws2) ∧ Paired (TAt H3) ws2 ((ts.take j).filter fun q => !decide (V.str q.2 = V.str ""))) ⟨Same.nw hD3, [], upd_same, .nil⟩ (fun j H' _ h => SqL.of (h.1 _ _ eF3)) ?_ ?_
      · rintro j v H4 hz ⟨s4, ws2, e4, pw2⟩
        obtain ⟨tp, ep2, hp⟩ := Paired.nth pw hz
        have hp0 := hp
        obtain ⟨a, rfl, ea⟩ := hp
        have lv2 := Paired.length pw2
        have lf := List.length_filter_le (fun q : Str × Str => !decide (V.str q.2 = V.str "")) (ts.take j)
        rw [List.length_take] at lf
        refine ⟨rfl, ?_⟩
        refine ⟨_, rfl, a, _, _, _, rfl, rfl, SqT.of (s4 _ _ ea), atI_nat (j := 1) rfl, rfl, _, rfl, ?_⟩
        cases hb : (!decide (V.str tp.2 = V.str "")) with
        | false =>
          refine iteF ⟨s4, ws2, e4, ?_⟩
          rw [take_filter_snoc ep2, hb, if_neg (fun z => Bool.noConfusion z), List.append_nil]
          exact pw2
        | true =>
          refine iteT ?_
          refine ⟨_, rfl, ws2, e4, by rw [sizeLine_eq]; omega, Same.wr s4 hD3, ws2 ++ [.ref a], upd_same, ?_⟩
          rw [take_filter_snoc ep2, if_pos hb]
          exact Paired.app' pw2 (.cons hp0 .nil)
      · rintro H4 ⟨s4, ws2, e4, pw2⟩
        rw [lws', List.take_length] at pw2
        exact k D3 ws2 H4 (Same.tr s3 s4) (Same.was s3 hD3) e4 (Paired.impl pw2 fun _ _ z => z.same s4)

theorem sc_outcome : FnScope ["yard", "record", "name", "level", "message"] ["yard", "record"] (defScope s_outcome) := ⟨rfl, rfl, rfl, by decide +kernel, rfl, by decide +kernel, by decide +kernel⟩
theorem cal_outcome (T : Txt w K mg) : Cal P w K mg base 6 "outcome" (spOutcome K) [] := by
  obtain ⟨fd, F⟩ := T.df_outcome
  have c_check_judged := cal_check_judged (P := P) (base := base) T
  have c_filled := cal_filled (P := P) (base := base) T
  have c_outcome_parts := cal_outcome_parts (P := P) (base := base) T
  have c_values_of := cal_values_of (P := P) (base := base) T
  refine ⟨_, fd, ["yard", "record"], [], F.ok sc_outcome (fun vs H Q E h => ?_) (fun cdv A outer s H vs Q E hr h => ?_), T.m_outcome, F.kp, F.bindsN (fun _ _ _ _ _ _ us hl => match us, hl with | [_, _], _ => rfl), .nil⟩
  · obtain ⟨_, _, _, _, _, _, _, rfl, _⟩ := h
    rfl
  · obtain ⟨y, A, m, r, n, lv, msg, rfl, hy, ok, er, rk, k⟩ := h
    refine ⟨_, PSs.nox (pss_cons (ps_expr (pe_c c_check_judged hr (by decide) (by rfl) (pa_cons (pe_lst (pa_cons (pv 0) pa_nil)) pa_nil)))
      (pss_cut (ps_asg (pv 1) (RyV.pg_or (pg_tup rfl (pgs_cons (pg_name (i := 2) sc_outcome.nd rfl (Or.inl rfl)) (pgs_cons (pg_name (i := 3) sc_outcome.nd rfl (Or.inl rfl)) (pgs_cons (pg_name (i := 4) sc_outcome.nd rfl (Or.inl rfl)) pgs_nil)))) (pg_lst rfl (pgs_cons (pg_name (i := 2) sc_outcome.nd rfl (Or.inl rfl)) (pgs_cons (pg_name (i := 3) sc_outcome.nd rfl (Or.inl rfl)) (pgs_cons (pg_name (i := 4) sc_outcome.nd rfl (Or.inl rfl)) pgs_nil))))))
      (pss_one (ps_ret (pe_c c_filled hr (by decide) (by rfl) (pa_cons (pe_c c_outcome_parts hr (by decide) (by rfl) (pa_cons (pv 0) (pa_cons (pv 2) (pa_cons (pv 3) (pa_cons (pe_c c_values_of hr (by decide) (by rfl) (pa_cons (pv 0) (pa_cons (pv 2) (pa_cons (pv 3) (pa_cons (pe_callTy call_str_int (by rfl) T.f_str (by decide +kernel) (pa_cons (pv 3) pa_nil)) (pa_cons (pv 4) pa_nil)))))) pa_nil))))) (pa_cons (pv 2) (pa_cons (pv 3) (pa_cons pe_str pa_nil))))))))), ?_⟩
    refine ⟨_, rfl, ssz rfl, fun l0 hl0 => ?_⟩
    have s0 := Same.nw (o := .lst [V.ref y]) hl0
    refine ⟨l0, [ywX m], rfl, ⟨[y], .inl upd_same, .cons ((hy.same s0).ydw ok) .nil, fun x hx => by rw [List.mem_singleton.mp hx]; exact ok.yw⟩, fun H1 s1 => ?_⟩
    have s01 := Same.tr s0 s1
    refine ⟨fun σ' H' => σ' = [some (.ref y), some (.ref r), some (.str n), some (.int lv), some (.str msg)] ∧ H1 = H', ?_, ?_⟩
    · refine ⟨_, rfl, ?_⟩
      rcases er with er | er
      · exact .inr ⟨r, _, rfl, SqL.of (s01 _ _ er), rfl, _, _, rfl, _, _, rfl, _, _, rfl, rfl, rfl, rfl⟩
      · exact .inl ⟨r, _, rfl, SqT.of (s01 _ _ er), rfl, _, _, rfl, _, _, rfl, _, _, rfl, rfl, rfl, rfl⟩
    · rintro _ _ ⟨rfl, rfl⟩
      have hy1 := hy.same s01
      refine ⟨_, rfl, _, rfl, _, rfl, _, rfl, _, rfl, _, rfl, _, rfl, lv, rfl, by have := rk.lo.1; omega, _, rfl, ?_⟩
      refine ⟨y, A, m, n, lv, .str (toString lv), .str msg, .t (toString lv), .t msg, rfl, hy1, rfl, rfl, rk.lo, fun d H3 s3 dn hv => ?_⟩
      refine ⟨y, A, m, n, lv, d, valsF m n lv (.t (toString lv)) (.t msg), rfl, hy1.same s3, rk.nm, ok, hv, valsF_ok ok rk, fun p us H4 s4 pn ep pu => ?_⟩
      refine ⟨_, rfl, _, rfl, ?_⟩
      exact ⟨p, us, _, n, lv, "", rfl, ep, pu, told_fil ok rk, rk.lo, fun q ws H5 s5 qn eq pw => k q ws H5 (Same.tr s01 (Same.tr s3 (Same.tr s4 s5))) (Same.was (Same.tr s01 (Same.tr s3 s4)) qn) eq pw⟩

end
end Ry
namespace Ry
open PySem PySem.Spec PyProof.Rows L2 He RyH
open C8 (pss_cut tCut Cal Met Mak pe_c pe_mk pe_mt pe_mt0 pe_gc)
/-! ### the model of a plan -/
def hxOf (h : HP) : HX := ⟨h.level, h.filters, h.null, h.stream, h.term, h.fmt⟩
def hxAt (pl : Pl) (i : Nat) : HX := match pl.handlers[i]? with
  | some h => hxOf h
  | none => resortX
def lxOf (pl : Pl) (r : RP) : LX := ⟨r.level, r.filters, r.prop, r.disabled, r.handlers.map (hxAt pl)⟩
def nmB : List (Int × Str) := [(50, "CRITICAL"), (40, "ERROR"), (30, "WARNING"), (20, "INFO"), (10, "DEBUG"), (0, "NOTSET")]
def putI (ns : List (Int × Str)) (x : Int × Str) : List (Int × Str) := if (ns.any fun kv => decide (kv.1 = x.1)) = true then ns.map (fun kv => if kv.1 = x.1 then (kv.1, x.2) else kv) else ns ++ [x]
def nmP (pl : Pl) : List (Int × Str) := pl.words.foldl putI nmB
def keysP (pl : Pl) : List Str := (srt (pl.loggers.map (·.1))).filter fun k => decide (k ≠ ("" : Str))
def mdlP (pl : Pl) : Mdl := ⟨pl.bar, nmP pl, keysP pl, fun k => lxOf pl (rowOf pl k)⟩
theorem putI_n (ns : List (Int × Str)) (x : Int × Str) : (putI ns x).map nmE = putN (ns.map nmE) x := by
  unfold putI putN putK
  have e : (ns.map nmE).any (fun kv => decide (kv.1 = Sum.inl x.1)) = ns.any fun kv => decide (kv.1 = x.1) := by
    rw [List.any_map]
    congr 1
    funext kv
    show decide ((Sum.inl kv.1 : Key) = Sum.inl x.1) = decide (kv.1 = x.1)
    by_cases h : kv.1 = x.1
    · rw [h, decide_eq_true rfl, decide_eq_true rfl]
    · rw [decide_eq_false h, decide_eq_false fun z => h (Sum.inl.inj z)]
  rw [e]
  split
  · rw [List.map_map, List.map_map]
    refine List.map_congr_left fun kv _ => ?_
    show nmE (if kv.1 = x.1 then (kv.1, x.2) else kv) = if (nmE kv).1 = Sum.inl x.1 then ((nmE kv).1, V.str x.2) else nmE kv
    by_cases h : kv.1 = x.1
    · rw [if_pos h, if_pos (show (nmE kv).1 = Sum.inl x.1 from congrArg Sum.inl h)]
      rfl
    · rw [if_neg h, if_neg (show ¬ (nmE kv).1 = Sum.inl x.1 from fun z => h (Sum.inl.inj z))]
  · rw [List.map_append]
    rfl
theorem foldI_n : ∀ (ws ns : List (Int × Str)), (ws.foldl putI ns).map nmE = ws.foldl putN (ns.map nmE)
  | [], _ => rfl
  | x :: ws, ns => by rw [List.foldl_cons, List.foldl_cons, foldI_n ws, putI_n]
theorem nmB_kv : nmB.map nmE = kvNames := by kernel_rfl
theorem nmP_n (pl : Pl) : (nmP pl).map nmE = pl.words.foldl putN kvNames := by
  unfold nmP
  rw [foldI_n, nmB_kv]
theorem keysP_mem {pl : Pl} {k : Str} : k ∈ keysP pl ↔ k ≠ "" ∧ k ∈ pl.loggers.map (·.1) := by
  unfold keysP
  rw [List.mem_filter, (srt_perm _).mem_iff, and_comm]
  exact and_congr_left fun _ => ⟨fun h => of_decide_eq_true h, fun h => decide_eq_true h⟩
/-! ### the promises -/
def spWayUp : Sp := fun vs H Q _ => ∃ (p : Addr) (pl : Pl) (n : Str), vs = [.ref p, .str n] ∧ PlT H p pl ∧ PlOk 20 20 pl ∧ NmOk n ∧
  ∀ q H', Same H H' → H q = none → H' q = some (.lst ((way (mdlP pl).keys n).map V.str)) → Q (.ref q) H'
def spLawLetsBy : Sp := fun vs H Q _ => ∃ (l : Addr) (fs : List Str) (n : Str), vs = [.ref l, .str n] ∧ H l = some (.lst (fs.map V.str)) ∧ fs.length ≤ 10 ∧ (∀ f ∈ fs, f.length ≤ 1000) ∧ ∀ H', Same H H' → Q (.bl (letsB fs n)) H'
theorem PlT.same {H H' : Hp} {p : Addr} {pl : Pl} (h : PlT H p pl) (k : Same H H') : PlT H' p pl := PlanAt.kp (M := fun _ => False) h (Kp.same k) fun _ _ => ⟨True.intro, fun z => z⟩
theorem ups_at {n : Str} (h : n ≠ "") (i : Nat) (hi : i < (Txt.split n ".").length) : (ups n)[i]? = some (Txt.join "." ((Txt.split n ".").take ((Txt.split n ".").length - i))) := by
  unfold ups
  rw [if_neg h]
  unfold prefs
  rw [List.getElem?_reverse (by rw [List.length_map, List.length_range]; exact hi), List.length_map, List.length_range, List.getElem?_map, List.getElem?_range (by omega)]
  show some (Txt.join "." ((Txt.split n ".").take ((Txt.split n ".").length - 1 - i + 1))) = _
  rw [show (Txt.split n ".").length - 1 - i + 1 = (Txt.split n ".").length - i by omega]
theorem ups_len {n : Str} (h : n ≠ "") : (ups n).length = (Txt.split n ".").length := by
  unfold ups
  rw [if_neg h]
  unfold prefs
  rw [List.length_reverse, List.length_map, List.length_range]
theorem valV_rowP {K : PySem.W.Frag} {N : Addr → Prop} {H : Hp} {k : Str} : ∀ {rows : List (Str × Addr)} {ls : List (Str × RP)}, Paired (RowP N H) rows ls → (k ∈ ls.map (·.1) → ∃ a r, valV (rows.map rowE) (kS k) = some (.ref a) ∧ ls.lookup k = some r ∧ RowAt N H a r) ∧ (k ∉ ls.map (·.1) → valV (rows.map rowE) (kS k) = none)
  | _, _, .nil => ⟨(fun h => nomatch h), fun _ => rfl⟩
  | (a, b) :: rows, (c, r) :: ls, .cons h t => by
    obtain ⟨h1, h2⟩ := h
    cases (show a = c from h1)
    have z := valV_rowP (K := K) (k := k) t
    rw [List.map_cons, List.map_cons, List.lookup_cons]
    by_cases e : a = k
    · subst e
      have e1 : valV (rowE (a, b) :: rows.map rowE) (kS a) = some (.ref b) := valV_pos (p := rowE (a, b)) rfl
      rw [e1, beq_self_eq_true]
      exact ⟨fun _ => ⟨b, r, rfl, rfl, h2⟩, fun z => absurd (List.mem_cons_self ..) z⟩
    · rw [valV_neg (p := rowE (a, b)) (fun z => e (Sum.inr.inj z)), show (k == a) = false from beq_eq_false_iff_ne.mpr fun z => e z.symm]
      refine ⟨fun hm => z.1 ((List.mem_cons.mp hm).resolve_left fun q => e q.symm), fun hm => z.2 fun q => hm (List.mem_cons_of_mem _ q)⟩
section
variable {P : Program} {w : World} {K : PySem.W.Frag} {mg : Str → Option Value} {base : Heap}
theorem sc_law_way_up : FnScope ["_law_plan_here", "_law_name", "_law_parts", "_law_found", "_law_many", "_law_one"] ["_law_plan_here", "_law_name"] (defScope s_law_way_up) := ⟨rfl, rfl, rfl, by decide +kernel, rfl, by decide +kernel, by decide +kernel⟩
theorem cal_law_way_up (T : Txt w K mg) : Cal P w K mg base 1 "_law_way_up" (spWayUp) [] := by
  obtain ⟨fd, F⟩ := T.df_law_way_up
  refine ⟨_, fd, ["_law_plan_here", "_law_name"], [], F.ok sc_law_way_up (fun vs H Q E h => ?_) (fun cdv A outer s H vs Q E hr h => ?_), T.m_law_way_up, F.kp, F.bindsN (fun _ _ _ _ _ _ us hl => match us, hl with | [_, _], _ => rfl), .nil⟩
  · obtain ⟨_, _, _, rfl, _⟩ := h
    rfl
  · obtain ⟨p, pl, n, rfl, hp, okp, hn, k⟩ := h
    refine ⟨_, PSs.nox (pss_cons (ps_set (i := 2) sc_law_way_up.nd rfl (Or.inr rfl) (RyT.pe_cutE (pe_ifExp (pt_cmpR op_ne (pv 1) pe_str (nomark _)) (pe_split (pv 1) pe_str) (pe_lst pa_nil))))
      (pss_cons (ps_setLc (i := 3) (own := [("_law_many", 4)]) rfl sc_law_way_up.nd rfl rfl (sw_true rfl rfl rfl (by decide +kernel)) (pi_range3 (by rfl) T.f_range (pa_cons (pe_callB (id := "len") call_len_seq (by rfl) T.f_len PySem.boot_len (pa_cons (pv 2) pa_nil)) (pa_cons pe_int (pa_cons (pe_un un_neg pe_int) pa_nil)))) (blkOk_by (N := ["_law_plan_here", "_law_name", "_law_parts", "_law_found", "_law_many", "_law_one"]) (sc := defScope s_law_way_up) (own := [("_law_many", 4)]) (by decide +kernel)) (fun _ _ _ _ _ => pg_name (i := 4) sc_law_way_up.nd rfl (Or.inl rfl)) (fun _ _ _ _ _ => pts_nil) (fun _ _ _ _ _ => (RyS.pe_joinB (K := K) rfl pe_str (pe_slice (r := rSlL K) sl_list (pv 2) po_none (po_some (pv 4))))))
      (pss_one (ps_ret (pe_op op_cat (pe_lc (own := [("_law_one", 5)]) rfl sc_law_way_up.nd (pi_list (pv 3)) (blkOk_by (N := ["_law_plan_here", "_law_name", "_law_parts", "_law_found", "_law_many", "_law_one"]) (sc := defScope s_law_way_up) (own := [("_law_one", 5)]) (by decide +kernel)) (fun _ _ _ _ _ => pg_name (i := 5) sc_law_way_up.nd rfl (Or.inl rfl)) (fun _ _ _ _ _ => pts_one (pt_cmp (pc_din (hu_of hr) (pv 5) (pe_dget (hu_of hr) (pv 0) pe_str (fun _ _ => rfl))) rfl)) (fun _ _ _ _ _ => (pv 5))) (pe_lst (pa_cons pe_str pa_nil))))))), ?_⟩
    obtain ⟨hs, ws, lg, hps, wvs, rows, W⟩ := hp
    refine ⟨fun u H2 => ∃ q parts, u = .ref q ∧ Same H H2 ∧ H2 q = some (.lst (parts.map V.str)) ∧ parts = (if n = "" then [] else Txt.split n "."), ?_, ?_⟩
    · refine ⟨_, rfl, rfl, _, rfl, ?_⟩
      by_cases e : n = ""
      · refine Eq.mpr (if_neg (by rw [e]; simp)) ?_
        exact ⟨ssz rfl, fun q hq => ⟨q, [], rfl, Same.nw hq, upd_same, by rw [if_pos e]⟩⟩
      · refine Eq.mpr (if_pos (by rw [decide_eq_false fun z => e (V.str.inj z)]; rfl)) ?_
        have hl := (hn.at_ 0 n (hn.self e)).2.2.2.1
        exact ⟨_, rfl, ⟨_, rfl⟩, _, _, rfl, rfl, rfl, by rw [sizeLine_eq]; omega, fun q hq => ⟨q, _, rfl, Same.nw hq, upd_same, by rw [if_neg e]⟩⟩
    rintro _ H1 ⟨q, parts, rfl, s1, eq, epar⟩
    have hpl : parts.length = (ups n).length := by
      rw [epar]
      by_cases e : n = ""
      · rw [if_pos e, e, ups_root]
        try rfl
      · rw [if_neg e, ups_len e]
    have hfew := hn.few
    refine ⟨_, rfl, q, _, rfl, .inl (SqL.of eq), ?_⟩
    refine ⟨_, rfl, ?_⟩
    rw [List.length_map]
    have hrg : RgC ((parts.length : Nat) : Int) 0 (-1) parts.length := by
      have z := RgC.neg (i := ((parts.length : Nat) : Int)) (j := 0) (by omega) (by omega) (by decide) (by decide)
      rwa [show (((parts.length : Nat) : Int) - 0).toNat = parts.length by omega] at z
    refine ⟨((parts.length : Nat) : Int), 0, -1, parts.length, rfl, hrg, ?_⟩
    intro D hD
    refine lc_it walk_rangeC (fun i H' => Same H1 H' ∧ H' D = some (.lst (((ups n).take i).map V.str))) ⟨Same.nw hD, upd_same⟩ (fun _ _ _ _ => True.intro) ?_ ?_
    · rintro i x H3 H2 hi ⟨s2, e2⟩ ⟨rfl, rfl⟩
      refine ⟨rfl, ?_⟩
      dsimp only [tYes]
      rw [if_pos rfl]
      have hne : n ≠ "" := fun z => by rw [z, ups_root] at hpl; rw [hpl] at hi; exact absurd hi (Nat.not_lt_zero _)
      rw [if_neg hne] at epar
      subst epar
      obtain ⟨j, hj⟩ : ∃ j, (Txt.split n ".").length - i = j := ⟨_, rfl⟩
      have hv : (((Txt.split n ".").length : Nat) : Int) + ((i : Nat) : Int) * -1 = ((j : Nat) : Int) := by omega
      rw [hv]
      have hsum := (hn.at_ 0 n (hn.self hne)).2.2.2.2
      refine ⟨⟨_, rfl⟩, _, rfl, _, rfl, _, rfl, q, _, rfl, SqL.of (s2 _ _ eq), fun q2 hq2 => ?_⟩
      have ecut : cutV ((Txt.split n ".").map V.str) none (some ((j : Nat) : Int)) = ((Txt.split n ".").take j).map V.str := by
        unfold cutV
        rw [HT.sIx_nat, HT.sIx_none, List.length_map, List.drop_zero, Nat.sub_zero, List.map_take]
        rw [Nat.min_eq_left (by omega)]
      rw [ecut]
      have htk : (((Txt.split n ".").take j).map (·.length)).sum ≤ ((Txt.split n ".").map (·.length)).sum := by
        have e : (((Txt.split n ".").take j).map (·.length)).sum + (((Txt.split n ".").drop j).map (·.length)).sum = ((Txt.split n ".").map (·.length)).sum := by
          rw [← List.sum_append, ← List.map_append, List.take_append_drop]
        omega
      have htl : ((Txt.split n ".").take j).length ≤ 20 := by rw [List.length_take]; omega
      refine ⟨".", q2, (Txt.split n ".").take j, rfl, rfl, .inl (SqL.of upd_same), by show _ + _ * 1 ≤ _; omega, ?_⟩
      have s3 := Same.nw (o := .lst (((Txt.split n ".").take j).map V.str)) hq2
      refine ⟨_, s3 _ _ e2, by rw [List.length_map, List.length_take, sizeLine_eq]; omega, Same.wr (Same.tr s2 s3) hD, ?_⟩
      rw [upd_same, take_nth (ups_at hne i hi), List.map_append, hj]
      rfl
    · rintro H2 ⟨s2, e2⟩
      rw [hpl, List.take_length] at e2
      have s12 := Same.tr s1 s2
      have vr := fun one : Str => valV_rowP (K := K) (k := one) W.lgP
      refine ⟨_, rfl, D, rfl, ⟨_, SqL.of e2⟩, fun D2 hD2 => ?_⟩
      refine lc_list (xs := (ups n).map V.str) (fun i H' => Same H2 H' ∧ H' D2 = some (.lst ((((ups n).take i).filter fun k => decide (k ∈ keysP pl)).map V.str))) ⟨Same.nw hD2, upd_same⟩ (fun i H' _ h => SqL.of (h.1 _ _ e2)) ?_ ?_
      · rintro i v H3 hz ⟨s3, e3⟩
        rw [List.getElem?_map] at hz
        obtain ⟨one, eo, rfl⟩ := Option.map_eq_some_iff.mp hz
        have hone := (hn.at_ i one eo).2.1
        have s13 := Same.tr s12 s3
        have lf := List.length_filter_le (fun k => decide (k ∈ keysP pl)) ((ups n).take i)
        rw [List.length_take] at lf
        refine ⟨rfl, ?_⟩
        refine ⟨_, rfl, _, rfl, p, _, rfl, dget (s13 _ _ W.at_) (vk_loggers ..), ?_⟩
        refine ⟨lg, _, rfl, DGet.k (k := kS one) (s13 _ _ W.lgE), _, rfl, ?_⟩
        by_cases hm : one ∈ pl.loggers.map (·.1)
        · obtain ⟨a, r, hv, _⟩ := (vr one).1 hm
          rw [hv]
          refine iteT ?_
          refine ⟨_, rfl, _, e3, by rw [List.length_map, sizeLine_eq]; omega, Same.wr s3 hD2, ?_⟩
          rw [upd_same, take_filter_snoc eo, if_pos (decide_eq_true (keysP_mem.mpr ⟨hone, hm⟩)), List.map_append]
          rfl
        · rw [(vr one).2 hm]
          refine iteF ⟨s3, ?_⟩
          rw [take_filter_snoc eo, if_neg (by rw [decide_eq_false fun z => hm (keysP_mem.mp z).2]; exact Bool.false_ne_true), List.append_nil]
          exact e3
      · rintro H3 ⟨s3, e3⟩
        rw [List.length_map, List.take_length] at e3
        refine ⟨ssz rfl, fun q3 hq3 => ?_⟩
        have lf := List.length_filter_le (fun k => decide (k ∈ keysP pl)) (ups n)
        refine ⟨D2, q3, _, _, rfl, rfl, upd_at e3 hq3, upd_same, by rw [List.length_map, List.length_singleton, sizeLine_eq]; omega, fun q4 hq4 => ?_⟩
        have s4 := Same.tr (Same.tr s12 s3) (Same.tr (Same.nw (o := .lst [V.str ""]) hq3) (Same.nw (o := .lst (((ups n).filter fun k => decide (k ∈ keysP pl)).map V.str ++ [V.str ""])) hq4))
        refine k q4 _ s4 (Same.was (Same.tr s12 s3) (was_none hq4)) ?_
        rw [upd_same]
        unfold way
        rw [List.map_append]
        rfl

theorem sc_law_lets_by : FnScope ["_law_names_here", "_law_shown", "_law_one"] ["_law_names_here", "_law_shown"] (defScope s_law_lets_by) := ⟨rfl, rfl, rfl, by decide +kernel, rfl, by decide +kernel, by decide +kernel⟩
theorem cal_law_lets_by (T : Txt w K mg) : Cal P w K mg base 1 "_law_lets_by" (spLawLetsBy) [] := by
  obtain ⟨fd, F⟩ := T.df_law_lets_by
  refine ⟨_, fd, ["_law_names_here", "_law_shown"], [], F.ok sc_law_lets_by (fun vs H Q E h => ?_) (fun cdv A outer s H vs Q E hr h => ?_), T.m_law_lets_by, F.kp, F.bindsN (fun _ _ _ _ _ _ us hl => match us, hl with | [_, _], _ => rfl), .nil⟩
  · obtain ⟨_, _, _, rfl, _⟩ := h
    rfl
  · obtain ⟨l, fs, n, rfl, el, hl, hlf, k⟩ := h
    refine ⟨_, PSs.nox (pss_one (ps_ret (pe_callB (id := "all") (cr_all rfl) (by rfl) T.f_all (by decide +kernel) (pa_cons (pe_lc (own := [("_law_one", 2)]) rfl sc_law_lets_by.nd (pi_list (pv 0)) (blkOk_by (N := ["_law_names_here", "_law_shown", "_law_one"]) (sc := defScope s_law_lets_by) (own := [("_law_one", 2)]) (by decide +kernel)) (fun _ _ _ _ _ => pg_name (i := 2) sc_law_lets_by.nd rfl (Or.inl rfl)) (fun _ _ _ _ _ => pts_nil) (fun _ _ _ _ _ => (pe_or (pe_cmpR op_eq (pv 2) pe_str (nomark _)) (pe_or (pe_cmpR op_eq (pv 1) (pv 2) (nomark _)) (pe_one (RyV.pe_bmB (K := K) rfl PySem.F.plainAttrs_str PySem.F.slot_str_startswith PySem.F.type_str_startswith mt_startswith (pv 1) (pa_cons (pe_op op_add_str (pv 2) pe_str) pa_nil))))))) pa_nil)))), ?_⟩
    refine ⟨_, rfl, l, rfl, ⟨_, SqL.of el⟩, fun D hD => ?_⟩
    refine lc_list (xs := fs.map V.str) (fun i H' => Same H H' ∧ H' D = some (.lst (((fs.take i).map fun one => decide (V.str one = V.str "") || belowB n one).map V.bl))) ⟨Same.nw hD, upd_same⟩ (fun i H' _ h => SqL.of (h.1 _ _ el)) ?_ ?_
    · rintro i x H' hx ⟨k1, h1⟩
      rw [List.getElem?_map] at hx
      obtain ⟨f, ef, rfl⟩ := Option.map_eq_some_iff.mp hx
      have hff := hlf f (List.mem_of_getElem? ef)
      have hi : i < fs.length := (List.getElem?_eq_some_iff.mp ef).1
      refine ⟨rfl, ?_⟩
      refine ⟨_, rfl, rfl, decide (V.str f = V.str ""), rfl, ?_⟩
      have fin : ∀ b : Bool, b = (decide (V.str f = V.str "") || belowB n f) → ∃ xs, H' D = some (.lst xs) ∧ xs.length < sizeLine ∧ (Same H (L2.upd H' D (.lst (xs ++ [V.bl b]))) ∧ (L2.upd H' D (.lst (xs ++ [V.bl b]))) D = some (.lst (((fs.take (i + 1)).map fun one => decide (V.str one = V.str "") || belowB n one).map V.bl))) := fun b hb => by
        refine ⟨_, h1, by rw [List.length_map, List.length_map, List.length_take, sizeLine_eq]; omega, Same.wr k1 hD, ?_⟩
        rw [upd_same, take_nth ef, List.map_append, List.map_append, hb]
        rfl
      cases e : decide (V.str f = V.str "") with
      | true =>
        refine iteT ?_
        exact fin true (by rw [e]; rfl)
      | false =>
        refine iteF ?_
        refine ⟨_, rfl, _, rfl, rfl, decide (V.str n = V.str f), rfl, ?_⟩
        cases e2 : decide (V.str n = V.str f) with
        | true =>
          refine iteT ?_
          exact fin true (by unfold belowB; rw [e, e2]; rfl)
        | false =>
          refine iteF ?_
          refine ⟨_, rfl, rfl, ?_⟩
          refine ⟨_, rfl, f, ".", rfl, rfl, by rw [sizeLine_eq]; show _ + 1 ≤ _; omega, ?_⟩
          exact ⟨n, f ++ ".", rfl, rfl, fin _ (by unfold belowB; rw [e, e2]; rfl)⟩
    · rintro H' ⟨k1, h1⟩
      refine ⟨D, _, rfl, SqL.of h1, ?_⟩
      rw [List.length_map, List.take_length, List.all_map]
      exact k H' k1

end
end Ry
namespace Ry
open PySem PySem.Spec PyProof.Rows L2 He RyH
open C8 (pss_cut tCut Cal Met Mak pe_c pe_mk pe_mt pe_mt0 pe_gc)
/-! ### dicts put over dicts -/
theorem merge_A : ∀ (m b : List (Key × V)) (k : Key), valV (mergeK b m) k = (valV (mergeK [] m) k).or (valV b k)
  | [], b, k => by
    show valV b k = (valV [] k).or (valV b k)
    rfl
  | p :: m, b, k => by
    have z1 := merge_A m (putK b p.1 p.2) k
    have z2 := merge_A m (putK [] p.1 p.2) k
    show valV (mergeK (putK b p.1 p.2) m) k = (valV (mergeK (putK [] p.1 p.2) m) k).or (valV b k)
    rw [z1, z2, valV_put, valV_put, Option.or_assoc]
    congr 1
    by_cases e : k = p.1
    · rw [if_pos e, if_pos e]
      rfl
    · rw [if_neg e, if_neg e]
      rfl
theorem valV_no {k : Key} : ∀ {m : List (Key × V)}, k ∉ m.map (·.1) → valV m k = none
  | [], _ => rfl
  | p :: m, h => by
    rw [valV_neg fun z => h (by rw [List.map_cons, z]; exact List.mem_cons_self ..)]
    exact valV_no fun z => h (List.mem_cons_of_mem _ z)
theorem merge_B : ∀ (m b : List (Key × V)) (k : Key), (m.map (·.1)).Nodup → valV (mergeK b m) k = (valV m k).or (valV b k)
  | [], b, k, _ => rfl
  | p :: m, b, k, h => by
    rw [List.map_cons, List.nodup_cons] at h
    have z1 := merge_B m (putK b p.1 p.2) k h.2
    show valV (mergeK (putK b p.1 p.2) m) k = _
    rw [z1, valV_put]
    by_cases e : k = p.1
    · rw [if_pos e, valV_no (by rw [e]; exact h.1), valV_pos e.symm]
      rfl
    · rw [if_neg e, valV_neg fun z => e z.symm]
theorem putK_nd {b : List (Key × V)} {k : Key} {v : V} (h : (b.map (·.1)).Nodup) : ((putK b k v).map (·.1)).Nodup := by
  unfold putK
  split
  · have e : (b.map fun kv => if kv.1 = k then (kv.1, v) else kv).map (·.1) = b.map (·.1) := by
      rw [List.map_map]
      refine List.map_congr_left fun x _ => ?_
      show (if x.1 = k then (x.1, v) else x).1 = x.1
      split <;> rfl
    rw [e]
    exact h
  · rename_i z
    rw [List.map_append]
    refine List.nodup_append.mpr ⟨h, by simp, fun x hx y hy => ?_⟩
    rw [List.mem_singleton.mp hy]
    intro q
    obtain ⟨p, hp, e⟩ := List.mem_map.mp hx
    exact z (List.any_eq_true.mpr ⟨p, hp, decide_eq_true (e.trans q)⟩)
theorem merge_nd : ∀ (m b : List (Key × V)), (b.map (·.1)).Nodup → ((mergeK b m).map (·.1)).Nodup
  | [], b, h => h
  | p :: m, b, h => merge_nd m (putK b p.1 p.2) (putK_nd h)
theorem merge_two (b m : List (Key × V)) (k : Key) : valV (mergeK b (mergeK [] m)) k = valV (mergeK b m) k := by
  rw [merge_B _ b k (merge_nd m [] List.nodup_nil), merge_A m b k]
theorem fold_merge : ∀ (ws : List (Int × Str)) (b : List (Key × V)), ws.foldl putN b = mergeK b (ws.map nmE)
  | [], _ => rfl
  | x :: ws, b => fold_merge ws (putN b x)
theorem words_refs {N : Addr → Prop} {H : Hp} : ∀ {wvs : List V} {ws : List (Int × Str)}, Paired (WordAt N H) wvs ws → ∃ ts : List Addr, wvs = ts.map V.ref ∧ Paired (fun t (x : Int × Str) => H t = some (.tup [.int x.1, .str x.2])) ts ws
  | _, _, .nil => ⟨[], rfl, .nil⟩
  | _, _, .cons h t => by
    obtain ⟨ts, e, p⟩ := words_refs t
    obtain ⟨a, rfl, _, q⟩ := h
    exact ⟨a :: ts, by rw [e]; rfl, .cons q p⟩
theorem words_pairs {K : PySem.W.Frag} {H : Hp} : ∀ {ts : List Addr} {ws : List (Int × Str)}, Paired (fun t (x : Int × Str) => H t = some (.tup [.int x.1, .str x.2])) ts ws → Paired (fun p (kv : Key × V) => SqT K H p [kV kv.1, kv.2]) ts (ws.map nmE)
  | _, _, .nil => .nil
  | _, _, .cons h t => .cons (SqT.of h) (words_pairs t)
theorem kvN_merge : mergeK [] kvNames = kvNames := by kernel_rfl
theorem lvName_eq (pl : Pl) (lv : Int) : (valV (mergeK kvNames (mergeK [] (pl.words.map nmE))) (Sum.inl lv)).getD (.str ("Level " ++ toString lv)) = .str (lvName (mdlP pl) lv) := by
  rw [merge_two, ← fold_merge, ← nmP_n, valV_nm]
  unfold lvName
  show ((nmP pl).lookup lv |>.map V.str).getD _ = V.str (((nmP pl).lookup lv).getD _)
  cases (nmP pl).lookup lv <;> rfl
/-! ### levels along a way -/
theorem eff_head (m : Mdl) : ∀ w : List Str, (((w.map fun k => (m.lg k).level).filter fun i => !decide (V.int i = V.int 0)) ++ [0])[0]? = some (effL m w)
  | [] => rfl
  | k :: w => by
    rw [List.map_cons]
    show _ = some (if (m.lg k).level ≠ 0 then (m.lg k).level else effL m w)
    by_cases e : (m.lg k).level = 0
    · rw [List.filter_cons_of_neg (by rw [e]; simp), if_neg fun z => z e]
      exact eff_head m w
    · rw [List.filter_cons_of_pos (by rw [decide_eq_false fun z => e (V.int.inj z)]; rfl), if_pos e]
      rfl
def spLevelWord : Sp := fun vs H Q _ => ∃ (p : Addr) (pl : Pl) (lv : Int), vs = [.ref p, .int lv] ∧ PlT H p pl ∧ PlOk 20 20 pl ∧ lvOk lv ∧ ∀ H', Same H H' → Q (.str (lvName (mdlP pl) lv)) H'
def spLawIsMade : Sp := fun vs H Q _ => ∃ (p : Addr) (pl : Pl) (n : Str) (lv : Int), vs = [.ref p, .str n, .int lv] ∧ PlT H p pl ∧ PlOk 20 20 pl ∧ NmOk n ∧ ∀ H', Same H H' → Q (.bl (madeB (mdlP pl) n lv)) H'
theorem nameM_len : ∀ x ∈ nameMenu, x.length ≤ 1000 := by decide +kernel
theorem rowAt_of {pl : Pl} {N : Addr → Prop} {H : Hp} {rows : List (Str × Addr)} (h : Paired (RowP N H) rows pl.loggers) {k : Str} (hk : k ∈ pl.loggers.map (·.1)) : ∃ a, valV (rows.map rowE) (kS k) = some (.ref a) ∧ RowAt N H a (rowOf pl k) := by
  obtain ⟨a, r, h1, h2, h3⟩ := (valV_rowP (K := []) (k := k) h).1 hk
  refine ⟨a, h1, ?_⟩
  unfold rowOf
  rw [h2]
  exact h3
theorem way_log {pl : Pl} {lo ha : Nat} (ok : PlOk lo ha pl) {n k : Str} (h : k ∈ way (keysP pl) n) : k ∈ pl.loggers.map (·.1) := by
  rcases way_mem h with rfl | h
  · exact ok.root
  · exact (keysP_mem.mp h).2
theorem rowOf_ok {pl : Pl} {lo ha : Nat} (ok : PlOk lo ha pl) {k : Str} (h : k ∈ pl.loggers.map (·.1)) : RPok pl.handlers.length (rowOf pl k) := by
  obtain ⟨⟨k', r⟩, hx, rfl⟩ := List.mem_map.mp h
  rw [rowOf_eq ok.nd hx]
  exact (ok.loggers _ hx).2
section
variable {P : Program} {w : World} {K : PySem.W.Frag} {mg : Str → Option Value} {base : Heap}
theorem sc_law_level_word : FnScope ["_law_plan_here", "_law_level_here", "_law_rows"] ["_law_plan_here", "_law_level_here"] (defScope s_law_level_word) := ⟨rfl, rfl, rfl, by decide +kernel, rfl, by decide +kernel, by decide +kernel⟩
theorem cal_law_level_word (T : Txt w K mg) : Cal P w K mg base 1 "_law_level_word" (spLevelWord) [] := by
  obtain ⟨fd, F⟩ := T.df_law_level_word
  refine ⟨_, fd, ["_law_plan_here", "_law_level_here"], [], F.ok sc_law_level_word (fun vs H Q E h => ?_) (fun cdv A outer s H vs Q E hr h => ?_), T.m_law_level_word, F.kp, F.bindsN (fun _ _ _ _ _ _ us hl => match us, hl with | [_, _], _ => rfl), .nil⟩
  · obtain ⟨_, _, _, rfl, _⟩ := h
    rfl
  · obtain ⟨p, pl, lv, rfl, hp, okp, hlv, k⟩ := h
    refine ⟨_, PSs.nox (pss_cons (ps_set (i := 2) sc_law_level_word.nd rfl (Or.inl rfl) (pe_disp (pps_cons pe_int pe_str (pps_cons pe_int pe_str (pps_cons pe_int pe_str (pps_cons pe_int pe_str (pps_cons pe_int pe_str (pps_cons pe_int pe_str pps_nil)))))) (by rfl) (by rfl) (fun z => by cases z) (by decide)))
      (pss_cons (ps_expr (RyR.pe_dupd (pv 2) (pe_callTy (T := "dict") (call_dictP rfl) (by rfl) T.f_dict (by decide +kernel) (pa_cons (pe_dget (hu_of hr) (pv 0) pe_str (fun _ _ => rfl)) pa_nil)) (by constructor <;> rfl)))
      (pss_one (ps_ret (pe_dget2 (hu_of hr) (pv 2) (pv 1) (pe_op op_add_str pe_str (pe_callTy call_str_int (by rfl) T.f_str (by decide +kernel) (pa_cons (pv 1) pa_nil))) (by constructor <;> rfl)))))), ?_⟩
    obtain ⟨hs, ws, lg, hps, wvs, rows, W⟩ := hp
    intro d hd
    have sd := Same.nw (o := .dK []) hd
    have ed := upd_same (H := H) (a := d) (o := .dK [])
    refine ⟨ed, kvNames, (by kernel_rfl), Nat.le_of_ble_eq_true rfl, ?_⟩
    rw [kvN_merge]
    have s1 : Same H (L2.upd (L2.upd H d (.dK [])) d (.dK kvNames)) := Same.wr sd hd
    have e1 := upd_same (H := L2.upd H d (.dK [])) (a := d) (o := .dK kvNames)
    generalize L2.upd (L2.upd H d (.dK [])) d (.dK kvNames) = H1 at s1 e1 ⊢
    obtain ⟨ts, ets, pts⟩ := words_refs W.wsP
    subst ets
    have hw2 := okp.fewW
    refine ⟨_, rfl, d, rfl, .inl ⟨_, .inl e1⟩, ?_⟩
    refine ⟨_, rfl, p, _, rfl, dget (s1 _ _ W.at_) (vk_words ..), ?_⟩
    refine ⟨ws, ts, pl.words.map nmE, rfl, SqL.of (s1 _ _ W.wsE), words_pairs (Paired.impl pts fun _ _ z => s1 _ _ z), fun q hq => ?_⟩
    have lm := length_mergeK (pl.words.map nmE) []
    rw [List.length_map, List.length_nil] at lm
    have lk6 : kvNames.length = 6 := rfl
    refine ⟨q, kvNames, mergeK [] (pl.words.map nmE), rfl, (fun z => by rw [z, hq] at e1; cases e1), upd_at e1 hq, upd_same, by rw [sizeLine_eq]; omega, ?_⟩
    have s2 : Same H (L2.upd (L2.upd H1 q (.dK (mergeK [] (pl.words.map nmE)))) d (.dK (mergeK kvNames (mergeK [] (pl.words.map nmE))))) := Same.wr (Same.tr s1 (Same.nw hq)) hd
    have e2 := upd_same (H := L2.upd H1 q (.dK (mergeK [] (pl.words.map nmE)))) (a := d) (o := .dK (mergeK kvNames (mergeK [] (pl.words.map nmE))))
    generalize L2.upd (L2.upd H1 q _) d _ = H2 at s2 e2 ⊢
    refine ⟨_, rfl, d, rfl, .inl ⟨_, .inl e2⟩, ?_⟩
    refine ⟨_, rfl, ?_⟩
    refine ⟨_, rfl, lv, rfl, by have := hlv.1; omega, "Level ", _, rfl, rfl, by have := hlv.2; rw [sizeLine_eq]; show 6 + _ ≤ _; omega, ?_⟩
    refine ⟨_, DGet.k (k := Sum.inl lv) e2, ?_⟩
    rw [lvName_eq]
    exact k H2 s2

theorem sc_law_is_made : FnScope ["_law_plan_here", "_law_name", "_law_level_here", "_law_way", "_law_levels", "_law_row", "_law_one"] ["_law_plan_here", "_law_name", "_law_level_here"] (defScope s_law_is_made) := ⟨rfl, rfl, rfl, by decide +kernel, rfl, by decide +kernel, by decide +kernel⟩
theorem cal_law_is_made (T : Txt w K mg) : Cal P w K mg base 2 "_law_is_made" (spLawIsMade) [] := by
  obtain ⟨fd, F⟩ := T.df_law_is_made
  have c_law_way_up := cal_law_way_up (P := P) (base := base) T
  have c_law_lets_by := cal_law_lets_by (P := P) (base := base) T
  refine ⟨_, fd, ["_law_plan_here", "_law_name", "_law_level_here"], [], F.ok sc_law_is_made (fun vs H Q E h => ?_) (fun cdv A outer s H vs Q E hr h => ?_), T.m_law_is_made, F.kp, F.bindsN (fun _ _ _ _ _ _ us hl => match us, hl with | [_, _, _], _ => rfl), .nil⟩
  · obtain ⟨_, _, _, _, rfl, _⟩ := h
    rfl
  · obtain ⟨p, pl, n, lv, rfl, hp, okp, hn, k⟩ := h
    refine ⟨_, PSs.nox (pss_cons (ps_set (i := 3) sc_law_is_made.nd rfl (Or.inl rfl) (pe_c c_law_way_up hr (by decide) (by rfl) (pa_cons (pv 0) (pa_cons (pv 1) pa_nil))))
      (pss_cons (ps_setLc (i := 4) (own := [("_law_one", 6)]) rfl sc_law_is_made.nd rfl rfl (sw_true rfl rfl rfl (by decide +kernel)) (pi_list (pv 3)) (blkOk_by (N := ["_law_plan_here", "_law_name", "_law_level_here", "_law_way", "_law_levels", "_law_row", "_law_one"]) (sc := defScope s_law_is_made) (own := [("_law_one", 6)]) (by decide +kernel)) (fun _ _ _ _ _ => pg_name (i := 6) sc_law_is_made.nd rfl (Or.inl rfl)) (fun _ _ _ _ _ => pts_nil) (fun _ _ _ _ _ => (pe_dget (hu_of hr) (pe_dget (hu_of hr) (pe_dget (hu_of hr) (pv 0) pe_str (fun _ _ => rfl)) (pv 6) (fun _ _ => rfl)) pe_str (fun _ _ => rfl))))
      (pss_cut (ps_if (PW.pt (pw_or (pt_cmpR op_le (pv 2) (pe_dget (hu_of hr) (pv 0) pe_str (fun _ _ => rfl)) (nomark _)) (pw_or1 (pt_cmpR op_lt (pv 2) (pe_ix ix_list (pe_op op_cat (pe_lc (own := [("_law_one", 6)]) rfl sc_law_is_made.nd (pi_list (pv 4)) (blkOk_by (N := ["_law_plan_here", "_law_name", "_law_level_here", "_law_way", "_law_levels", "_law_row", "_law_one"]) (sc := defScope s_law_is_made) (own := [("_law_one", 6)]) (by decide +kernel)) (fun _ _ _ _ _ => pg_name (i := 6) sc_law_is_made.nd rfl (Or.inl rfl)) (fun _ _ _ _ _ => pts_one (pt_cmpR op_ne (pv 6) pe_int (nomark _))) (fun _ _ _ _ _ => (pv 6))) (pe_lst (pa_cons pe_int pa_nil))) pe_int (fun _ _ => rfl)) (nomark _)))))
        (pss_one (ps_ret pe_bl))
        pss_nil)
      (pss_cons (ps_set (i := 5) sc_law_is_made.nd rfl (Or.inl rfl) (pe_dget1 (hu_of hr) (pe_dget (hu_of hr) (pv 0) pe_str (fun _ _ => rfl)) (pv 1) (by constructor <;> rfl)))
      (pss_cons (ps_if (pt_cmpR op_isN (pv 5) pe_non (nomark _))
        (pss_one (ps_ret pe_bl))
        pss_nil)
      (pss_one (ps_ret (pe_and (pe_not (pe_dget (hu_of hr) (pv 5) pe_str (fun _ _ => rfl))) (pe_one (pe_c c_law_lets_by hr (by decide) (by rfl) (pa_cons (pe_dget (hu_of hr) (pv 5) pe_str (fun _ _ => rfl)) (pa_cons (RyT.pe_cutE (pe_ifExp (pt_cmpR op_eq (pv 1) pe_str (nomark _)) pe_str (pv 1))) pa_nil)))))))))))), ?_⟩
    have hp0 := hp
    obtain ⟨hs, ws, lg, hps, wvs, rows, W⟩ := hp
    refine ⟨_, rfl, _, rfl, p, pl, n, rfl, hp0, okp, hn, fun q H1 s1 qn eq => ?_⟩
    have wl := way_len (keys := keysP pl) hn
    have hmk : (mdlP pl).keys = keysP pl := rfl
    rw [hmk] at eq
    refine ⟨_, rfl, q, rfl, ⟨_, SqL.of eq⟩, fun D hD => ?_⟩
    refine lc_list (xs := (way (keysP pl) n).map V.str) (fun i H' => Same H1 H' ∧ H' D = some (.lst (((way (keysP pl) n).take i).map fun k => V.int ((mdlP pl).lg k).level))) ⟨Same.nw hD, upd_same⟩ (fun i H' _ h => SqL.of (h.1 _ _ eq)) ?_ ?_
    · rintro i v H2 hz ⟨s2, e2⟩
      rw [List.getElem?_map] at hz
      obtain ⟨one, eo, rfl⟩ := Option.map_eq_some_iff.mp hz
      have hin := way_log okp (List.mem_of_getElem? eo)
      obtain ⟨a, ha, hl, fl, n1, r1, n2, r2, n3, r3⟩ := rowAt_of W.lgP hin
      have s12 := Same.tr s1 s2
      have hi : i < (way (keysP pl) n).length := (List.getElem?_eq_some_iff.mp eo).1
      refine ⟨rfl, ?_⟩
      dsimp only [tYes]
      rw [if_pos rfl]
      refine ⟨_, rfl, p, _, rfl, dget (s12 _ _ W.at_) (vk_loggers ..), ?_⟩
      refine ⟨_, rfl, lg, _, rfl, dget (s12 _ _ W.lgE) ha, ?_⟩
      refine ⟨a, _, rfl, dget (s12 _ _ r1) (vr_level ..), ?_⟩
      refine ⟨_, e2, by rw [List.length_map, List.length_take, sizeLine_eq]; omega, Same.wr s2 hD, ?_⟩
      rw [upd_same, take_nth eo, List.map_append]
      rfl
    · rintro H2 ⟨s2, e2⟩
      rw [List.length_map, List.take_length] at e2
      have s12 := Same.tr s1 s2
      have e2' : H2 D = some (.lst (((way (keysP pl) n).map fun k => ((mdlP pl).lg k).level).map V.int)) := by rw [e2, List.map_map]; rfl
      unfold madeB at k
      rw [hmk] at k
      have eh := eff_head (mdlP pl) (way (keysP pl) n)
      have lvs : ((way (keysP pl) n).map fun k => ((mdlP pl).lg k).level).length ≤ 21 := by rw [List.length_map]; exact wl
      generalize ((way (keysP pl) n).map fun k => ((mdlP pl).lg k).level) = ls at e2' eh lvs
      have kbar : (mdlP pl).bar = pl.bar := rfl
      rw [kbar] at k
      refine ⟨fun σ' H' => σ' = [some (.ref p), some (.str n), some (.int lv), some (.ref q), some (.ref D), none, none] ∧ Same H H' ∧ ¬ (lv ≤ pl.bar ∨ lv < effL (mdlP pl) (way (keysP pl) n)), ?_, ?_⟩
      · refine ⟨_, rfl, _, rfl, p, _, rfl, dget (s12 _ _ W.at_) (vk_bar ..), lv, pl.bar, rfl, rfl, _, rfl, ?_⟩
        by_cases hb : lv ≤ pl.bar
        · refine Eq.mpr (if_pos (decide_eq_true hb)) ?_
          refine iteT ?_
          have z := k H2 s12
          rw [if_pos (.inl hb)] at z
          exact z
        · refine Eq.mpr (if_neg (by rw [decide_eq_false hb]; exact Bool.false_ne_true)) ?_
          refine ⟨_, rfl, _, rfl, D, rfl, ⟨_, SqL.of e2'⟩, fun D2 hD2 => ?_⟩
          refine lc_list (xs := ls.map V.int) (fun i H' => Same H2 H' ∧ H' D2 = some (.lst (((ls.take i).filter fun i => !decide (V.int i = V.int 0)).map V.int))) ⟨Same.nw hD2, upd_same⟩ (fun i H' _ h => SqL.of (h.1 _ _ e2')) ?_ ?_
          · rintro i v H3 hz ⟨s3, e3⟩
            rw [List.getElem?_map] at hz
            obtain ⟨one, eo, rfl⟩ := Option.map_eq_some_iff.mp hz
            have lf := List.length_filter_le (fun i : Int => !decide (V.int i = V.int 0)) (ls.take i)
            rw [List.length_take] at lf
            refine ⟨rfl, ?_⟩
            refine ⟨_, rfl, rfl, _, rfl, ?_⟩
            cases hb0 : (!decide (V.int one = V.int 0)) with
            | true =>
              refine iteT ?_
              refine ⟨_, rfl, _, e3, by rw [List.length_map, sizeLine_eq]; omega, Same.wr s3 hD2, ?_⟩
              rw [upd_same, take_filter_snoc eo, if_pos hb0, List.map_append]
              rfl
            | false =>
              refine iteF ⟨s3, ?_⟩
              rw [take_filter_snoc eo, if_neg (by rw [hb0]; exact Bool.false_ne_true), List.append_nil]
              exact e3
          · rintro H3 ⟨s3, e3⟩
            rw [List.length_map, List.take_length] at e3
            have lf := List.length_filter_le (fun i : Int => !decide (V.int i = V.int 0)) ls
            refine ⟨ssz rfl, fun q3 hq3 => ?_⟩
            refine ⟨D2, q3, _, _, rfl, rfl, upd_at e3 hq3, upd_same, by rw [List.length_map, List.length_singleton, sizeLine_eq]; omega, fun q4 hq4 => ?_⟩
            have s4 := Same.tr (Same.tr s12 s3) (Same.tr (Same.nw (o := .lst [V.int 0]) hq3) (Same.nw (o := .lst ((ls.filter fun i => !decide (V.int i = V.int 0)).map V.int ++ [V.int 0])) hq4))
            have hh : ((ls.filter fun i => !decide (V.int i = V.int 0)).map V.int ++ [V.int 0])[0]? = some (V.int (effL (mdlP pl) (way (keysP pl) n))) := by
              have z := congrArg (Option.map V.int) eh
              rw [← List.getElem?_map, List.map_append] at z
              exact z
            refine ⟨q4, _, _, _, rfl, rfl, SqL.of upd_same, atI_nat (j := 0) hh, lv, _, rfl, rfl, _, rfl, ?_⟩
            by_cases he : lv < effL (mdlP pl) (way (keysP pl) n)
            · refine Eq.mpr (if_pos (decide_eq_true he)) ?_
              have z := k _ s4
              rw [if_pos (.inr he)] at z
              exact z
            · refine Eq.mpr (if_neg (by rw [decide_eq_false he]; exact Bool.false_ne_true)) ?_
              exact ⟨rfl, s4, fun z => z.elim hb he⟩
      · rintro σ' H3 ⟨rfl, s3, hno⟩
        rw [if_neg hno] at k
        refine ⟨_, rfl, p, _, rfl, dget (s3 _ _ W.at_) (vk_loggers ..), ?_⟩
        refine ⟨lg, rfl, .inl ⟨_, .inl (s3 _ _ W.lgE)⟩, _, rfl, _, DGet.k (k := kS n) (s3 _ _ W.lgE), ?_⟩
        have hhas : hasB (mdlP pl) n = decide (n ∈ pl.loggers.map (·.1)) := by
          unfold hasB
          have e : (n = "" ∨ n ∈ keysP pl) ↔ n ∈ pl.loggers.map (·.1) := by
            constructor
            · rintro (rfl | h)
              · exact okp.root
              · exact (keysP_mem.mp h).2
            · intro h
              by_cases e : n = ""
              · exact .inl e
              · exact .inr (keysP_mem.mpr ⟨e, h⟩)
          by_cases h : n ∈ pl.loggers.map (·.1)
          · rw [decide_eq_true h]
            exact decide_eq_true (e.mpr h)
          · rw [decide_eq_false h]
            exact decide_eq_false fun z => h (e.mp z)
        rw [hhas] at k
        by_cases hm : n ∈ pl.loggers.map (·.1)
        · rw [decide_eq_true hm, if_pos rfl] at k
          obtain ⟨a, hva, hl, fl, n1, r1, n2, r2, n3, r3⟩ := rowAt_of W.lgP hm
          have rok := rowOf_ok okp hm
          rw [hva]
          refine ⟨_, rfl, rfl, _, rfl, ?_⟩
          refine Eq.mpr (if_neg (by show ¬ decide (V.ref a = V.non) = true; simp)) ?_
          refine ⟨_, rfl, a, _, rfl, dget (s3 _ _ r1) (vr_dis ..), (rowOf pl n).disabled, rfl, _, rfl, ?_⟩
          cases hd : (rowOf pl n).disabled with
          | true =>
            refine iteF ?_
            have z := k H3 s3
            rw [show ((mdlP pl).lg n).dis = (rowOf pl n).disabled from rfl, hd] at z
            exact z
          | false =>
            refine iteT ?_
            refine ⟨_, rfl, a, _, rfl, dget (s3 _ _ r1) (vr_filters ..), ?_⟩
            refine ⟨fun u H' => u = .str (shownN n) ∧ H3 = H', ?_, ?_⟩
            · refine ⟨_, rfl, rfl, _, rfl, ?_⟩
              unfold shownN
              by_cases e : n = ""
              · rw [if_pos e]
                refine Eq.mpr (if_pos (decide_eq_true (by rw [e]))) ?_
                exact ⟨rfl, rfl⟩
              · rw [if_neg e]
                refine Eq.mpr (if_neg (by rw [decide_eq_false fun z => e (V.str.inj z)]; exact Bool.false_ne_true)) ?_
                exact ⟨_, rfl, rfl, rfl⟩
            · rintro _ _ ⟨rfl, rfl⟩
              refine ⟨fl, (rowOf pl n).filters, shownN n, rfl, s3 _ _ r3, Nat.le_trans rok.fewF (by decide), fun f hf => nameM_len f (rok.filters f hf), fun H4 s4 => ?_⟩
              have z := k H4 (Same.tr s3 s4)
              rw [show ((mdlP pl).lg n).dis = (rowOf pl n).disabled from rfl, hd] at z
              exact z
        · rw [decide_eq_false hm, if_neg (fun z => Bool.noConfusion z)] at k
          rw [(valV_rowP (K := []) (k := n) W.lgP).2 hm]
          refine ⟨_, rfl, rfl, _, rfl, ?_⟩
          refine Eq.mpr (if_pos (by rfl)) ?_
          exact k H3 s3

end
end Ry
namespace Ry
open PySem PySem.Spec PyProof.Rows L2 He RyH
open C8 (pss_cut tCut Cal Met Mak pe_c pe_mk pe_mt pe_mt0 pe_gc)
/-! ### the outcome as the law tells it -/
def valT (m : Mdl) (n : Str) (lv : Int) (msg : Str) (f : Str) : Str := if f = "name" then shownN n else if f = "message" then msg else if f = "levelno" then toString lv else lvName m lv
def fpT (val : Str → Str) : FP → Str
  | .txt x => x
  | .mark x => val x
def partsT (o : Option (List FP)) : List FP := match o with
  | none => [.mark "message"]
  | some ps => ps
def lineT (val : Str → Str) (x : HX) : Str := catT ((partsT x.fmt).map (fpT val)) ++ x.term
def textS (val : Str → Str) (hs : List HX) (s : Str) : Str := catT ((hs.filter fun h => decide (h.stream = s)).map (lineT val))
def toldT (val : Str → Str) (hs : List HX) : List (Str × Str) := ((srt (strms hs)).map fun s => (s, textS val hs s)).filter fun q => !decide (V.str q.2 = V.str "")
theorem catT_flat {α : Type} (f : α → List Str) : ∀ xs : List α, catT (xs.flatMap f) = catT (xs.map fun x => catT (f x))
  | [] => rfl
  | x :: xs => by
    rw [List.flatMap_cons, catT_app, catT_flat f xs]
    rfl
theorem catT_one (x : Str) : catT [x] = x := str_app_nil x
theorem catT_snoc (xs : List Str) (x : Str) : catT (xs ++ [x]) = catT xs ++ x := by rw [catT_app, catT_one]
theorem mstep_cat (g : Cl → Str) (hg : ∀ s, g (.t s) = s) (acc : List Cl) (c : Cl) : catT ((mstep acc c).map g) = catT (acc.map g) ++ g c := by
  cases q : joinsC acc c with
  | true =>
    obtain ⟨acc', r, s, rfl, rfl, e⟩ := mstep_join q
    rw [e, List.map_append, List.map_append, List.map_singleton, List.map_singleton, catT_snoc, catT_snoc, hg, hg, hg, str_app_assoc]
  | false =>
    rw [mstep_app q]
    split
    · rename_i h
      cases c with
      | m s => cases h
      | t s =>
        rw [of_decide_eq_true (show decide (s = "") = true from h), hg, str_app_nil]
    · rw [List.map_append, List.map_singleton, catT_snoc]
theorem mergeF_cat (g : Cl → Str) (hg : ∀ s, g (.t s) = s) : ∀ cs acc : List Cl, catT ((cs.foldl mstep acc).map g) = catT (acc.map g) ++ catT (cs.map g)
  | [], acc => (str_app_nil _).symm
  | c :: cs, acc => by
    rw [List.foldl_cons, mergeF_cat g hg cs, mstep_cat g hg, str_app_assoc]
    rfl
theorem mergeC_cat (g : Cl → Str) (hg : ∀ s, g (.t s) = s) (cs : List Cl) : catT ((mergeC cs).map g) = catT (cs.map g) := by
  unfold mergeC
  rw [mergeF_cat g hg]
  exact str_nil_app _
/-! ### the parts of a format, joined or not -/
def gJ (f : Str → Str) : JP → Str
  | .txt l => tx l
  | .fld nm => f (tx nm)
def gK (f : Str → Str) : Tk → Str
  | .ch c => tx [c]
  | .fld nm => f (tx nm)
theorem tx_app' (a b : List Nat) : tx (a ++ b) = tx a ++ tx b := (tx_app a b).symm
theorem joinStep_cat (f : Str → Str) (acc : List JP) (t : Tk) : catT ((joinStep acc t).map (gJ f)) = catT (acc.map (gJ f)) ++ gK f t := by
  cases q : joins acc t with
  | true =>
    obtain ⟨acc', l, c, rfl, e0, e1⟩ := step_join q
    rw [e1, e0, List.map_append, List.map_append, List.map_singleton, List.map_singleton, catT_snoc, catT_snoc, str_app_assoc]
    congr 1
    exact tx_app' l [c]
  | false =>
    rw [step_app q, List.map_append, List.map_singleton, catT_snoc]
    cases t <;> rfl
theorem joinF_cat (f : Str → Str) : ∀ (ts : List Tk) (acc : List JP), catT ((ts.foldl joinStep acc).map (gJ f)) = catT (acc.map (gJ f)) ++ catT (ts.map (gK f))
  | [], acc => (str_app_nil _).symm
  | t :: ts, acc => by
    rw [List.foldl_cons, joinF_cat f ts, joinStep_cat, str_app_assoc]
    rfl
theorem chars_cat (f : Str → Str) : ∀ l : List Nat, catT ((l.map Tk.ch).map (gK f)) = tx l
  | [] => rfl
  | c :: l => by
    show tx [c] ++ catT ((l.map Tk.ch).map (gK f)) = tx (c :: l)
    rw [chars_cat f l, ← tx_app']
    rfl
theorem tok1_cat (f : Str → Str) (p : FP) : catT ((tok1 p).map (gK f)) = fpT f p := by
  cases p with
  | txt x =>
    show catT ((x.cps.toList.map Tk.ch).map (gK f)) = x
    rw [chars_cat, tx_cps]
  | mark x =>
    show catT [f (tx x.cps.toList)] = f x
    rw [tx_cps, catT_one]
theorem parts_cat (f : Str → Str) (ps : List FP) : catT ((joinT (toks ps)).map (gJ f)) = catT (ps.map (fpT f)) := by
  have e : joinT (toks ps) = (toks ps).foldl joinStep [] := rfl
  rw [e, joinF_cat]
  unfold toks
  rw [List.map_flatMap, catT_flat]
  show ("" : Str) ++ catT (ps.map fun x => catT ((tok1 x).map (gK f))) = catT (ps.map (fpT f))
  rw [str_nil_app, List.map_congr_left fun p _ => tok1_cat f p]
section
variable {m : Mdl} {n msg : Str} {lv : Int}
theorem vals_cat {nm : Str} (h : nm ∈ markMenu) : catT ((valsF m n lv (.t (toString lv)) (.t msg) nm).map (cTxt n lv "")) = valT m n lv msg nm := by
  obtain ⟨w1, w2, w3, w4⟩ := vF m n lv (.t (toString lv)) (.t msg)
  have hn : nm = "message" ∨ nm = "name" ∨ nm = "levelname" ∨ nm = "levelno" := by simpa [markMenu] using h
  have e3 : namedC m lv (.t (toString lv)) = [.t (lvName m lv)] := if_pos rfl
  rcases hn with rfl | rfl | rfl | rfl
  · rw [w4]
    show catT [msg] = _
    rw [catT_one]
    unfold valT
    rw [if_neg (by decide), if_pos rfl]
  · rw [w1]
    show catT [shownN n] = _
    rw [catT_one]
    unfold valT
    rw [if_pos rfl]
  · rw [w3, e3]
    show catT [lvName m lv] = _
    rw [catT_one]
    unfold valT
    rw [if_neg (by decide), if_neg (by decide), if_neg (by decide)]
  · rw [w2]
    show catT [toString lv] = _
    rw [catT_one]
    unfold valT
    rw [if_neg (by decide), if_neg (by decide), if_pos rfl]
theorem line_cat {x : HX} (ok : HXok x) : catT ((lineC x (valsF m n lv (.t (toString lv)) (.t msg))).map (cTxt n lv "")) = lineT (valT m n lv msg) x := by
  unfold lineC lineT
  rw [List.map_append, List.map_singleton, catT_snoc]
  congr 1
  cases e : x.fmt with
  | none =>
    show catT ((valsF m n lv (.t (toString lv)) (.t msg) "message").map (cTxt n lv "")) = catT [valT m n lv msg "message"]
    rw [vals_cat msg_mark, catT_one]
  | some ps =>
    obtain ⟨_, hp⟩ := ok.fmt ps e
    show catT (((joinT (toks ps)).flatMap (jpC (valsF m n lv (.t (toString lv)) (.t msg)))).map (cTxt n lv "")) = catT (ps.map (fpT (valT m n lv msg)))
    rw [List.map_flatMap, catT_flat, ← parts_cat]
    congr 1
    refine List.map_congr_left fun j hj => ?_
    cases j with
    | txt l => exact catT_one _
    | fld nm => exact vals_cat (fld_menu hp hj)
theorem filter_map_filter {α β : Type} {p : α → Bool} {g : α → β} {q : β → Bool} (h : ∀ x, p x = false → q (g x) = false) : ∀ xs : List α, ((xs.filter p).map g).filter q = (xs.map g).filter q
  | [] => rfl
  | x :: xs => by
    have z := filter_map_filter h xs
    cases e : p x with
    | true =>
      rw [List.filter_cons_of_pos e, List.map_cons, List.map_cons, List.filter_cons, List.filter_cons, z]
    | false =>
      rw [List.filter_cons_of_neg (by rw [e]; exact Bool.false_ne_true), z, List.map_cons, List.filter_cons_of_neg (by rw [h x e]; exact Bool.false_ne_true)]
theorem told_T (ok : Mok m) (hn : NmOk n) : told m n lv msg = toldT (valT m n lv msg) (wrX m n lv) := by
  obtain ⟨_, wok⟩ := wr_ok (lv := lv) ok hn
  unfold told filledL outP toldT
  generalize wrX m n lv = hs at wok
  rw [filter_map_filter (p := fun p : Str × List Cl => !p.2.isEmpty) (g := fun p => (p.1, catT (p.2.map (cTxt n lv "")))) (fun x hx => ?_), List.map_map]
  · congr 1
    refine List.map_congr_left fun s _ => ?_
    show (s, catT ((mergeC (catS (valsF m n lv (.t (toString lv)) (.t msg)) hs s)).map (cTxt n lv ""))) = (s, textS (valT m n lv msg) hs s)
    rw [mergeC_cat _ fun s => rfl]
    unfold catS textS
    rw [List.map_flatMap, catT_flat]
    congr 2
    refine List.map_congr_left fun h hh => ?_
    exact line_cat (wok h (List.mem_filter.mp hh).1)
  · have e : x.2 = [] := by
      cases h : x.2 with
      | nil => rfl
      | cons a b => rw [h] at hx; cases hx
    show (!decide (V.str (catT (x.2.map (cTxt n lv ""))) = V.str "")) = false
    rw [e]
    show (!decide (V.str "" = V.str "")) = false
    decide
end
theorem srt_one (s : Str) : srt [s] = [s] := List.perm_singleton.mp (srt_perm [s])
theorem srt_nil : srt [] = [] := List.perm_nil.mp (srt_perm [])
theorem toldT_nil (val : Str → Str) : toldT val [] = [] := by
  unfold toldT
  have e : strms [] = [] := rfl
  rw [e, srt_nil]
  rfl
theorem str_len_pos {a b : Str} (h : 0 < b.length) : a ++ b ≠ "" := fun z => by
  have e := congrArg Str.length z
  rw [str_len_app] at e
  have : ("" : Str).length = 0 := rfl
  omega
def sStderr : Str := "stderr"
def sNl : Str := "
"
theorem toldT_resort (val : Str → Str) : toldT val [resortX] = [(sStderr, val "message" ++ sNl)] := by
  have e1 : strms [resortX] = [sStderr] := by decide
  have e2 : textS val [resortX] sStderr = val "message" ++ sNl := by
    have e3 : ([resortX].filter fun h => decide (h.stream = sStderr)) = [resortX] := List.filter_cons_of_pos (by decide)
    unfold textS
    rw [e3]
    show catT [lineT val resortX] = _
    rw [catT_one]
    show catT [val "message"] ++ sNl = _
    rw [catT_one]
  unfold toldT
  rw [e1, srt_one, List.map_singleton, e2, List.filter_cons_of_pos]
  · rfl
  · show (!decide (V.str (val "message" ++ sNl) = V.str "")) = true
    rw [decide_eq_false fun z => str_len_pos (b := sNl) (by decide) (V.str.inj z)]
    rfl
theorem textS_snoc (val : Str → Str) (hs : List HX) (h : HX) (s : Str) : textS val (hs ++ [h]) s = if h.stream = s then textS val hs s ++ lineT val h else textS val hs s := by
  unfold textS
  rw [List.filter_append, List.map_append, catT_app]
  by_cases e : h.stream = s
  · rw [if_pos e, List.filter_cons_of_pos (by exact decide_eq_true e)]
    show _ ++ catT [lineT val h] = _
    rw [catT_one]
  · rw [if_neg e, List.filter_cons_of_neg (by rw [decide_eq_false e]; exact Bool.false_ne_true)]
    exact str_app_nil _
end Ry
namespace Ry
open PySem PySem.Spec PyProof.Rows L2 He RyH
open C8 (pss_cut tCut Cal Met Mak pe_c pe_mk pe_mt pe_mt0 pe_gc)
/-! ### a plan's model is small -/
theorem endM_ok : ∀ x ∈ endMenu, x.length ≤ 4 := term_len
theorem words_len : ∀ x ∈ wxMenu, x.length ≤ 20 := by decide +kernel
theorem hx_ok {h : HP} (ok : HPok h) : HXok (hxOf h) := by
  refine ⟨Nat.le_trans ok.few (by decide), fun f hf => nameM_len f (ok.filters f hf), fun ps e => ?_, ok.stream, ok.term⟩
  have fo := ok.fmt
  rw [show h.fmt = some ps from e] at fo
  exact ⟨Nat.le_trans fo.2.1 (by decide), fo.1⟩
theorem hxAt_ok {lo ha : Nat} {pl : Pl} (ok : PlOk lo ha pl) (i : Nat) : HXok (hxAt pl i) := by
  unfold hxAt
  split
  · rename_i h e
    exact hx_ok (ok.handlers h (List.mem_of_getElem? e)).1
  · exact resort_ok
theorem lx_ok {lo ha : Nat} {pl : Pl} (ok : PlOk lo ha pl) {k : Str} (h : k ∈ pl.loggers.map (·.1)) : LXok (lxOf pl (rowOf pl k)) := by
  have r := rowOf_ok ok h
  refine ⟨Nat.le_trans r.fewF (by decide), fun f hf => nameM_len f (r.filters f hf), ?_, fun x hx => ?_⟩
  · show ((rowOf pl k).handlers.map (hxAt pl)).length ≤ 4
    rw [List.length_map]
    exact Nat.le_trans r.fewH (by decide)
  · obtain ⟨i, _, rfl⟩ := List.mem_map.mp (show x ∈ (rowOf pl k).handlers.map (hxAt pl) from hx)
    exact hxAt_ok ok i
theorem putI_len (ns : List (Int × Str)) (x : Int × Str) : (putI ns x).length ≤ ns.length + 1 := by
  unfold putI
  split
  · rw [List.length_map]; omega
  · rw [List.length_append, List.length_singleton]; omega
theorem putI_mem {ns : List (Int × Str)} {x p : Int × Str} (h : p ∈ putI ns x) : p ∈ ns ∨ p.2 = x.2 := by
  unfold putI at h
  split at h
  · obtain ⟨q, hq, e⟩ := List.mem_map.mp h
    by_cases z : q.1 = x.1
    · rw [if_pos z] at e
      rw [← e]
      exact .inr rfl
    · rw [if_neg z] at e
      rw [← e]
      exact .inl hq
  · rcases List.mem_append.mp h with h | h
    · exact .inl h
    · rw [List.mem_singleton.mp h]
      exact .inr rfl
theorem foldI_ok : ∀ (ws ns : List (Int × Str)), (∀ x ∈ ws, x.2.length ≤ 20) → (∀ p ∈ ns, p.2.length ≤ 20) → (ws.foldl putI ns).length ≤ ns.length + ws.length ∧ ∀ p ∈ ws.foldl putI ns, p.2.length ≤ 20
  | [], ns, _, hn => ⟨Nat.le_refl _, hn⟩
  | x :: ws, ns, hw, hn => by
    obtain ⟨a, b⟩ := foldI_ok ws (putI ns x) (fun y hy => hw y (List.mem_cons_of_mem _ hy)) fun p hp => by
      rcases putI_mem hp with h | h
      · exact hn p h
      · rw [h]
        exact hw x (List.mem_cons_self ..)
    have c := putI_len ns x
    rw [List.foldl_cons, List.length_cons]
    exact ⟨by omega, b⟩
theorem nmB_len : ∀ p ∈ nmB, p.2.length ≤ 20 := by decide +kernel
theorem mok_pl {pl : Pl} (ok : PlOk 20 20 pl) : Mok (mdlP pl) := by
  obtain ⟨w1, w2⟩ := foldI_ok pl.words nmB (fun x hx => words_len _ (ok.words x hx).2) nmB_len
  have hw := ok.fewW
  refine ⟨?_, ?_, w2, lx_ok ok ok.root, fun k hk => lx_ok ok (keysP_mem.mp hk).2, fun k hk => ?_⟩
  · have z : (keysP pl).length ≤ (srt (pl.loggers.map (·.1))).length := List.length_filter_le ..
    rw [(srt_perm _).length_eq, List.length_map] at z
    have y := ok.fewL
    show (keysP pl).length ≤ 30
    omega
  · have e : nmB.length = 6 := rfl
    show (pl.words.foldl putI nmB).length ≤ 20
    omega
  · obtain ⟨h1, h2⟩ := keysP_mem.mp hk
    obtain ⟨x, hx, rfl⟩ := List.mem_map.mp h2
    exact nm_log ((List.mem_cons.mp (ok.loggers x hx).1).resolve_left h1)
/-! ### the handlers that are reached, of the plan -/
def hpAt (pl : Pl) (i : Nat) : HP := match pl.handlers[i]? with
  | some h => h
  | none => ⟨"stderr", 0, [], false, none, true, "", none⟩
def lawHs (pl : Pl) (w : List Str) : List HP := w.flatMap fun k => (rowOf pl k).handlers.map (hpAt pl)
theorem hangs_law {pl : Pl} (ok : PlOk 20 20 pl) (n : Str) : hangs (mdlP pl) n = (lawHs pl (reach (mdlP pl) (way (keysP pl) n))).map hxOf := by
  unfold hangs lawHs
  rw [List.map_flatMap]
  have e : ∀ w : List Str, (∀ k ∈ w, k ∈ pl.loggers.map (·.1)) → (w.flatMap fun k => ((mdlP pl).lg k).hs) = w.flatMap fun k => ((rowOf pl k).handlers.map (hpAt pl)).map hxOf := by
    intro w hw
    induction w with
    | nil => rfl
    | cons k w ih =>
      rw [List.flatMap_cons, List.flatMap_cons, ih fun q hq => hw q (List.mem_cons_of_mem _ hq)]
      congr 1
      show (rowOf pl k).handlers.map (hxAt pl) = _
      rw [List.map_map]
      refine List.map_congr_left fun i hi => ?_
      have r := (rowOf_ok ok (hw k (List.mem_cons_self ..))).handlers i hi
      show hxAt pl i = hxOf (hpAt pl i)
      unfold hxAt hpAt
      rw [List.getElem?_eq_getElem r]
  exact e _ fun k hk => way_log ok (reach_mem hk)
def HdP (H : Hp) (v : V) (h : HP) : Prop := ∃ a, v = .ref a ∧ HPlanAt (fun _ => True) H a h
theorem HdP.same {H H' : Hp} {v : V} {h : HP} (x : HdP H v h) (k : Same H H') : HdP H' v h := let ⟨a, e, q⟩ := x; ⟨a, e, q.kp (M := fun _ => False) (Kp.same k) fun _ _ => ⟨True.intro, fun z => z⟩⟩
def lawOn (n : Str) (lv : Int) (h : HP) : Bool := !h.null && (decide (h.level ≤ lv) && letsB h.filters (shownN n))
theorem wr_law {pl : Pl} (ok : PlOk 20 20 pl) {n : Str} {lv : Int} (hm : madeB (mdlP pl) n lv = true) : wrX (mdlP pl) n lv = if lawHs pl (reach (mdlP pl) (way (keysP pl) n)) = [] then (if lv ≥ 30 then [resortX] else []) else ((lawHs pl (reach (mdlP pl) (way (keysP pl) n))).filter (lawOn n lv)).map hxOf := by
  unfold wrX
  rw [if_pos hm, hangs_law ok]
  generalize lawHs pl (reach (mdlP pl) (way (keysP pl) n)) = L
  by_cases e : L = []
  · rw [if_pos e, if_pos (by rw [e]; rfl)]
  · rw [if_neg e, if_neg fun z => e (List.map_eq_nil_iff.mp z), List.filter_filter]
    rw [List.filter_map]
    congr 1
    refine List.filter_congr fun h _ => ?_
    show (letsB (hxOf h).fs (shownN n) && (decide ((hxOf h).level ≤ lv) && !(hxOf h).null)) = lawOn n lv h
    unfold lawOn
    show (letsB h.filters (shownN n) && (decide (h.level ≤ lv) && !h.null)) = (!h.null && (decide (h.level ≤ lv) && letsB h.filters (shownN n)))
    cases letsB h.filters (shownN n) <;> cases decide (h.level ≤ lv) <;> cases h.null <;> rfl
theorem lawHs_len {pl : Pl} (ok : PlOk 20 20 pl) : ∀ {w : List Str}, (∀ k ∈ w, k ∈ pl.loggers.map (·.1)) → (lawHs pl w).length ≤ 2 * w.length
  | [], _ => Nat.le_refl _
  | k :: w, h => by
    have z := lawHs_len ok (w := w) fun q hq => h q (List.mem_cons_of_mem _ hq)
    have y := (rowOf_ok ok (h k (List.mem_cons_self ..))).fewH
    unfold lawHs at z ⊢
    rw [List.flatMap_cons, List.length_append, List.length_map, List.length_cons]
    omega
theorem lawHs_ok {pl : Pl} (ok : PlOk 20 20 pl) {w : List Str} (hw : ∀ k ∈ w, k ∈ pl.loggers.map (·.1)) : ∀ h ∈ lawHs pl w, HPok h := fun h hh => by
  obtain ⟨k, hk, q⟩ := List.mem_flatMap.mp hh
  obtain ⟨i, hi, rfl⟩ := List.mem_map.mp q
  have r := (rowOf_ok ok (hw k hk)).handlers i hi
  unfold hpAt
  rw [List.getElem?_eq_getElem r]
  exact (ok.handlers _ (List.getElem_mem r)).1
theorem lawHs_snoc (pl : Pl) {w : List Str} {j : Nat} {k : Str} (e : w[j]? = some k) : lawHs pl (w.take (j + 1)) = lawHs pl (w.take j) ++ (rowOf pl k).handlers.map (hpAt pl) := by
  unfold lawHs
  rw [take_nth e, List.flatMap_append, List.flatMap_cons, List.flatMap_nil, List.append_nil]
theorem valT_at (m : Mdl) (n : Str) (lv : Int) (msg : Str) : valT m n lv msg "name" = shownN n ∧ valT m n lv msg "message" = msg ∧ valT m n lv msg "levelno" = toString lv ∧ valT m n lv msg "levelname" = lvName m lv := by
  unfold valT
  exact ⟨if_pos rfl, by rw [if_neg (by decide), if_pos rfl], by rw [if_neg (by decide), if_neg (by decide), if_pos rfl], by rw [if_neg (by decide), if_neg (by decide), if_neg (by decide)]⟩
theorem mv4' (a b c d : V) : mergeK [] [(kS "name", a), (kS "message", b), (kS "levelno", c), (kS "levelname", d)] = [(kS "name", a), (kS "message", b), (kS "levelno", c), (kS "levelname", d)] := by kernel_rfl
def valK (m : Mdl) (n : Str) (lv : Int) (msg : Str) : List (Key × V) := [(kS "name", .str (shownN n)), (kS "message", .str msg), (kS "levelno", .str (toString lv)), (kS "levelname", .str (lvName m lv))]
theorem valK_at {m : Mdl} {n : Str} {lv : Int} {msg x : Str} (h : x ∈ markMenu) : valV (valK m n lv msg) (kS x) = some (.str (valT m n lv msg x)) := by
  obtain ⟨v1, v2, v3, v4⟩ := valT_at m n lv msg
  have hn : x = "message" ∨ x = "name" ∨ x = "levelname" ∨ x = "levelno" := by simpa [markMenu] using h
  rcases hn with rfl | rfl | rfl | rfl
  · rw [v2]; kernel_rfl
  · rw [v1]; kernel_rfl
  · rw [v4]; kernel_rfl
  · rw [v3]; kernel_rfl
theorem val_len {m : Mdl} {n msg x : Str} {lv : Int} (ok : Mok m) (r : RecOk n lv msg) : (valT m n lv msg x).length ≤ 50 := by
  unfold valT
  split
  · exact shown_len r.n50
  · split
    · exact r.m50
    · split
      · exact Nat.le_trans r.l20 (by decide)
      · exact Nat.le_trans (lvName_len ok r.l20) (by decide)
theorem sum_le_mul {b : Nat} : ∀ {xs : List Str}, (∀ x ∈ xs, x.length ≤ b) → (xs.map (·.length)).sum ≤ b * xs.length
  | [], _ => Nat.zero_le _
  | x :: xs, h => by
    have z := sum_le_mul (xs := xs) fun y hy => h y (List.mem_cons_of_mem _ hy)
    have y := h x (List.mem_cons_self ..)
    rw [List.map_cons, List.sum_cons, List.length_cons, Nat.mul_add, Nat.mul_one]
    omega
theorem parts_ok {h : HP} (ok : HPok h) : (partsT h.fmt).length ≤ 6 ∧ ∀ p ∈ partsT h.fmt, p.ok := by
  have fo := ok.fmt
  cases e : h.fmt with
  | none => exact ⟨by decide, fun p hp => by rw [List.mem_singleton.mp hp]; exact msg_mark⟩
  | some ps =>
    rw [e] at fo
    exact ⟨fo.2.1, fo.1⟩
theorem fpT_len {val : Str → Str} (hv : ∀ x, (val x).length ≤ 50) {p : FP} (h : p.ok) : (fpT val p).length ≤ 50 := by
  cases p with
  | txt x => exact Nat.le_trans (tok1_len x h) (by decide)
  | mark x => exact hv x
theorem partsS_len {val : Str → Str} (hv : ∀ x, (val x).length ≤ 50) {h : HP} (ok : HPok h) : (((partsT h.fmt).map (fpT val)).map (·.length)).sum ≤ 300 := by
  obtain ⟨h6, hp⟩ := parts_ok ok
  have z := sum_le_mul (b := 50) (xs := (partsT h.fmt).map (fpT val)) fun x hx => by
    obtain ⟨p, hpp, rfl⟩ := List.mem_map.mp hx
    exact fpT_len hv (hp p hpp)
  rw [List.length_map] at z
  omega
theorem lineT_len {val : Str → Str} (hv : ∀ x, (val x).length ≤ 50) {h : HP} (ok : HPok h) : (lineT val (hxOf h)).length ≤ 304 := by
  have z := partsS_len hv ok
  have y := term_len _ ok.term
  unfold lineT
  rw [str_len_app, catT_len]
  show (((partsT h.fmt).map (fpT val)).map (·.length)).sum + h.term.length ≤ 304
  omega
theorem textS_len {val : Str → Str} (hv : ∀ x, (val x).length ≤ 50) {hs : List HP} (ok : ∀ h ∈ hs, HPok h) (s : Str) : (textS val (hs.map hxOf) s).length ≤ 304 * hs.length := by
  unfold textS
  rw [catT_len]
  have z := sum_le_mul (b := 304) (xs := ((hs.map hxOf).filter fun h => decide (h.stream = s)).map (lineT val)) fun x hx => by
    obtain ⟨y, hy, rfl⟩ := List.mem_map.mp hx
    obtain ⟨h, hh, rfl⟩ := List.mem_map.mp (List.mem_filter.mp hy).1
    exact lineT_len hv (ok h hh)
  have y := List.length_filter_le (fun h : HX => decide (h.stream = s)) (hs.map hxOf)
  rw [List.length_map] at z y
  have : 304 * ((hs.map hxOf).filter fun h => decide (h.stream = s)).length ≤ 304 * hs.length := Nat.mul_le_mul_left _ y
  omega
theorem filter_take_ok {hs : List HP} {f : HP → Bool} (ok : ∀ h ∈ hs, HPok h) (i : Nat) : (∀ h ∈ (hs.take i).filter f, HPok h) ∧ ((hs.take i).filter f).length ≤ hs.length := by
  refine ⟨fun h hh => ok h (List.mem_of_mem_take (List.mem_filter.mp hh).1), ?_⟩
  have z := List.length_filter_le f (hs.take i)
  rw [List.length_take] at z
  omega
def spLawTold : Sp := fun vs H Q _ => ∃ (p : Addr) (pl : Pl) (n : Str) (lv : Int) (msg : Str), vs = [.ref p, .str n, .int lv, .str msg] ∧ PlT H p pl ∧ PlOk 20 20 pl ∧ RecOk n lv msg ∧
  ∀ q ws H', Same H H' → H q = none → H' q = some (.lst ws) → Paired (TAt H') ws (told (mdlP pl) n lv msg) → Q (.ref q) H'
/-- the dict of streams and texts -/
structure AcT (kvs : List (Key × V)) (S : List Str) (t : Str → Str) : Prop where
  keys : kvs.map (·.1) = S.map Sum.inr
  at_ : ∀ s ∈ S, valV kvs (kS s) = some (.str (t s))
section
variable {P : Program} {w : World} {K : PySem.W.Frag} {mg : Str → Option Value} {base : Heap}
theorem sc_law_told : FnScope ["_law_plan_here", "_law_name", "_law_level_here", "_law_message", "_law_handlers", "_law_one", "_law_found", "_law_shown", "_law_values", "_law_parts", "_law_text", "_law_at", "_law_part"] ["_law_plan_here", "_law_name", "_law_level_here", "_law_message"] (defScope s_law_told) := ⟨rfl, rfl, rfl, by decide +kernel, rfl, by decide +kernel, by decide +kernel⟩
theorem cal_law_told (T : Txt w K mg) : Cal P w K mg base 3 "_law_told" (spLawTold) [] := by
  obtain ⟨fd, F⟩ := T.df_law_told
  have c_law_is_made := cal_law_is_made (P := P) (base := base) T
  have c_law_way_up := cal_law_way_up (P := P) (base := base) T
  have c_law_level_word := cal_law_level_word (P := P) (base := base) T
  have c_law_lets_by := cal_law_lets_by (P := P) (base := base) T
  refine ⟨_, fd, ["_law_plan_here", "_law_name", "_law_level_here", "_law_message"], [], F.ok sc_law_told (fun vs H Q E h => ?_) (fun cdv A outer s H vs Q E hr h => ?_), T.m_law_told, F.kp, F.bindsN (fun _ _ _ _ _ _ us hl => match us, hl with | [_, _, _, _], _ => rfl), .nil⟩
  · obtain ⟨_, _, _, _, _, rfl, _⟩ := h
    rfl
  · obtain ⟨p, pl, n, lv, msg, rfl, hp, okp, rk, k⟩ := h
    refine ⟨_, PSs.nox (pss_cons (ps_if (pt_not (pt_val (pe_c c_law_is_made hr (by decide) (by rfl) (pa_cons (pv 0) (pa_cons (pv 1) (pa_cons (pv 2) pa_nil))))))
        (pss_one (ps_ret (pe_lst pa_nil)))
        pss_nil)
      (pss_cons (ps_set (i := 4) sc_law_told.nd rfl (Or.inl rfl) (pe_lst pa_nil))
      (pss_cut (ps_for PassesOwn.never rfl (pi_list (pe_c c_law_way_up hr (by decide) (by rfl) (pa_cons (pv 0) (pa_cons (pv 1) pa_nil)))) (pg_name (i := 5) sc_law_told.nd rfl (Or.inl rfl))
        (pss_cons (ps_expr (pe_bm PySem.F.plainAttrs_list PySem.F.slot_list_extend PySem.F.type_list_extend mt_extend (pv 4) (pa_cons (pe_lc (own := [("_law_at", 11)]) rfl sc_law_told.nd (pi_list (pe_dget (hu_of hr) (pe_dget (hu_of hr) (pe_dget (hu_of hr) (pv 0) pe_str (fun _ _ => rfl)) (pv 5) (fun _ _ => rfl)) pe_str (fun _ _ => rfl))) (blkOk_by (N := ["_law_plan_here", "_law_name", "_law_level_here", "_law_message", "_law_handlers", "_law_one", "_law_found", "_law_shown", "_law_values", "_law_parts", "_law_text", "_law_at", "_law_part"]) (sc := defScope s_law_told) (own := [("_law_at", 11)]) (by decide +kernel)) (fun _ _ _ _ _ => pg_name (i := 11) sc_law_told.nd rfl (Or.inl rfl)) (fun _ _ _ _ _ => pts_nil) (fun _ _ _ _ _ => (pe_ix (r := rIxL K) ix_list (pe_dget (hu_of hr) (pv 0) pe_str (fun _ _ => rfl)) (pv 11) (fun _ _ => rfl)))) pa_nil)))
        (pss_one (ps_if (pt_not (pt_val (pe_dget (hu_of hr) (pe_dget (hu_of hr) (pe_dget (hu_of hr) (pv 0) pe_str (fun _ _ => rfl)) (pv 5) (fun _ _ => rfl)) pe_str (fun _ _ => rfl))))
          (pss_one ps_break)
          pss_nil))))
      (pss_cons (ps_if (pt_cmpR (RyN.op_eqNil hr.units) (pv 4) (pe_lst pa_nil) (nomark _))
        (pss_one (ps_ret (RyT.pe_cutE (pe_ifExp (pt_cmpR op_ge (pv 2) pe_int (nomark _)) (pe_lst (pa_cons (pe_tup (pa_cons pe_str (pa_cons (pe_op op_add_str (pv 3) pe_str) pa_nil))) pa_nil)) (pe_lst pa_nil)))))
        pss_nil)
      (pss_cons (ps_asg (pe_tup (pa_cons pe_dnewK (pa_cons (RyT.pe_cutE (pe_ifExp (pt_cmpR op_eq (pv 1) pe_str (nomark _)) pe_str (pv 1))) pa_nil))) (pg_tup rfl (pgs_cons (pg_name (i := 6) sc_law_told.nd rfl (Or.inr rfl)) (pgs_cons (pg_name (i := 7) sc_law_told.nd rfl (Or.inl rfl)) pgs_nil))))
      (pss_cons (ps_set (i := 8) sc_law_told.nd rfl (Or.inr rfl) (pe_disp (pps_cons pe_str (pv 7) (pps_cons pe_str (pv 3) (pps_cons pe_str (pe_callTy call_str_int (by rfl) T.f_str (by decide +kernel) (pa_cons (pv 2) pa_nil)) (pps_cons pe_str (pe_c c_law_level_word hr (by decide) (by rfl) (pa_cons (pv 0) (pa_cons (pv 2) pa_nil))) pps_nil)))) (by rfl) (by rfl) (fun z => by cases z) (by decide)))
      (pss_cons (ps_for PassesOwn.never rfl (pi_list (pv 4)) (pg_name (i := 5) sc_law_told.nd rfl (Or.inl rfl))
        (pss_one (ps_if (PW.pt (pw_and (pt_not (pt_val (pe_dget (hu_of hr) (pv 5) pe_str (fun _ _ => rfl)))) (pw_and (pt_cmpR op_le (pe_dget (hu_of hr) (pv 5) pe_str (fun _ _ => rfl)) (pv 2) (nomark _)) (pw_and1 (pt_val (pe_c c_law_lets_by hr (by decide) (by rfl) (pa_cons (pe_dget (hu_of hr) (pv 5) pe_str (fun _ _ => rfl)) (pa_cons (pv 7) pa_nil))))))))
          (pss_cons (ps_set (i := 9) sc_law_told.nd rfl (Or.inl rfl) (RyT.pe_cutE (pe_ifExp (pt_cmpR op_isN (pe_dget (hu_of hr) (pv 5) pe_str (fun _ _ => rfl)) pe_non (nomark _)) (pe_lst (pa_cons (pe_tup (pa_cons pe_str pa_nil)) pa_nil)) (pe_dget (hu_of hr) (pv 5) pe_str (fun _ _ => rfl)))))
          (pss_cons (ps_set (i := 10) sc_law_told.nd rfl (Or.inl rfl) (pe_op op_add_str (pe_join pe_str (pe_lc (own := [("_law_part", 12)]) rfl sc_law_told.nd (pi_list (pv 9)) (blkOk_by (N := ["_law_plan_here", "_law_name", "_law_level_here", "_law_message", "_law_handlers", "_law_one", "_law_found", "_law_shown", "_law_values", "_law_parts", "_law_text", "_law_at", "_law_part"]) (sc := defScope s_law_told) (own := [("_law_part", 12)]) (by decide +kernel)) (fun _ _ _ _ _ => pg_name (i := 12) sc_law_told.nd rfl (Or.inl rfl)) (fun _ _ _ _ _ => pts_nil) (fun _ _ _ _ _ => (RyT.pe_cutE (pe_ifExp (pt_val (pe_callB (id := "isinstance") (r := rIsi K) call_isi (by rfl) T.f_isinstance (by decide +kernel) (pa_cons (pv 12) (pa_cons (pe_bltn (v := .ty "tuple") (by rfl) T.f_tuple (by decide +kernel) rfl) pa_nil)))) (pe_dget (hu_of hr) (pv 8) (pe_ix (r := rIxT K) ix_tup (pv 12) pe_int (fun _ _ => rfl)) (fun _ _ => rfl)) (pv 12)))))) (pe_dget (hu_of hr) (pv 5) pe_str (fun _ _ => rfl))))
          (pss_one (ps_dput (hu_of hr) (pv 6) (pe_dget (hu_of hr) (pv 5) pe_str (fun _ _ => rfl)) (pe_op op_add_str (pe_dget2 (hu_of hr) (pv 6) (pe_dget (hu_of hr) (pv 5) pe_str (fun _ _ => rfl)) pe_str (by constructor <;> rfl)) (pv 10)) rfl))))
          pss_nil)))
      (pss_one (ps_ret (pe_lc (own := [("_law_name", 1)]) rfl sc_law_told.nd (pi_list (pe_callB (call_sortedD rfl) (by rfl) T.f_sorted (by decide +kernel) (pa_cons (pv 6) pa_nil))) (blkOk_by (N := ["_law_plan_here", "_law_name", "_law_level_here", "_law_message", "_law_handlers", "_law_one", "_law_found", "_law_shown", "_law_values", "_law_parts", "_law_text", "_law_at", "_law_part"]) (sc := defScope s_law_told) (own := [("_law_name", 1)]) (by decide +kernel)) (fun _ _ _ _ _ => pg_name (i := 1) sc_law_told.nd rfl (Or.inl rfl)) (fun _ _ _ _ _ => pts_one (pt_cmpR op_ne (pe_dget (hu_of hr) (pv 6) (pv 1) (fun _ _ => rfl)) pe_str (nomark _))) (fun _ _ _ _ _ => (pe_tup (pa_cons (pv 1) (pa_cons (pe_dget (hu_of hr) (pv 6) (pv 1) (fun _ _ => rfl)) pa_nil)))))))))))))), ?_⟩
    have okm := mok_pl okp
    have tt := told_T (lv := lv) (msg := msg) okm rk.nm
    rw [tt] at k
    have hp0 := hp
    obtain ⟨hs, ws, lg, hps, wvs, rows, W⟩ := hp
    refine ⟨_, rfl, _, rfl, _, rfl, p, pl, n, lv, rfl, hp0, okp, rk.nm, fun H1 s1 => ⟨_, rfl, ?_⟩⟩
    cases hmade : madeB (mdlP pl) n lv with
    | false =>
      refine iteT ?_
      have e0 : wrX (mdlP pl) n lv = [] := by
        unfold wrX
        rw [hmade, if_neg (fun z => Bool.noConfusion z)]
      rw [e0, toldT_nil] at k
      refine ⟨ssz rfl, fun q hq => ?_⟩
      exact k q [] _ (Same.tr s1 (Same.nw hq)) (Same.was s1 hq) upd_same .nil
    | true =>
      refine iteF ?_
      rw [wr_law okp hmade] at k
      refine ⟨ssz rfl, fun D hD => ?_⟩
      have sD := Same.tr s1 (Same.nw (o := .lst []) hD)
      have DH : H D = none := Same.was s1 hD
      have eD0 := upd_same (H := H1) (a := D) (o := .lst [])
      generalize L2.upd H1 D _ = H2 at sD eD0 ⊢
      refine ⟨fun σ' H' => ∃ o5 us, σ' = [some (.ref p), some (.str n), some (.int lv), some (.str msg), some (.ref D), o5, none, none, none, none, none, none, none] ∧ Same H H' ∧ H' D = some (.lst us) ∧ Paired (HdP H) us (lawHs pl (reach (mdlP pl) (way (keysP pl) n))), ?_, ?_⟩
      · refine ⟨_, rfl, _, rfl, p, pl, n, rfl, hp0.same sD, okp, rk.nm, fun q H3 s3 qn eq => ?_⟩
        have hmk : (mdlP pl).keys = keysP pl := rfl
        rw [hmk] at eq
        have wl := way_len (keys := keysP pl) rk.nm
        have s03 := Same.tr sD s3
        have hqD : q ≠ D := fun z => by rw [z, eD0] at qn; cases qn
        refine ⟨q, rfl, ⟨_, SqL.of eq⟩, ?_⟩
        refine for_list (xs := (way (keysP pl) n).map V.str) (fun j σ' H' => ∃ o5 us, σ' = [some (.ref p), some (.str n), some (.int lv), some (.str msg), some (.ref D), o5, none, none, none, none, none, none, none] ∧ Same H H' ∧ H' q = some (.lst ((way (keysP pl) n).map V.str)) ∧ H' D = some (.lst us) ∧ Paired (HdP H) us (lawHs pl ((way (keysP pl) n).take j)) ∧ reach (mdlP pl) (way (keysP pl) n) = (way (keysP pl) n).take j ++ reach (mdlP pl) ((way (keysP pl) n).drop j)) ⟨_, [], rfl, s03, eq, s3 _ _ eD0, .nil, rfl⟩ (fun j σ' H' _ ⟨_, _, _, _, e, _⟩ => SqL.of e) ?_ ?_
        · rintro j v σ' H4 hz ⟨o5, us, rfl, s4, eq4, eD4, pu, hre⟩
          rw [List.getElem?_map] at hz
          obtain ⟨one, eo, rfl⟩ := Option.map_eq_some_iff.mp hz
          have hj : j < (way (keysP pl) n).length := (List.getElem?_eq_some_iff.mp eo).1
          have hin := way_log okp (List.mem_of_getElem? eo)
          obtain ⟨a, ha, hl, fl, n1, r1, n2, r2, n3, r3⟩ := rowAt_of W.lgP hin
          have rok := rowOf_ok okp hin
          have hdr : (way (keysP pl) n).drop j = one :: (way (keysP pl) n).drop (j + 1) := by
            rw [List.drop_eq_getElem_cons hj]
            congr 1
            exact Option.some.inj (by rw [← eo, List.getElem?_eq_getElem hj])
          refine ⟨_, rfl, .inl ⟨rfl, _, SqL.of eD4⟩, ?_⟩
          refine ⟨_, rfl, p, _, rfl, dget (s4 _ _ W.at_) (vk_loggers ..), ?_⟩
          refine ⟨_, rfl, lg, _, rfl, dget (s4 _ _ W.lgE) ha, ?_⟩
          refine ⟨a, _, rfl, dget (s4 _ _ r1) (vr_handlers ..), ?_⟩
          refine ⟨hl, rfl, ⟨_, SqL.of (s4 _ _ r2)⟩, fun D2 hD2 => ?_⟩
          refine lc_list (xs := (rowOf pl one).handlers.map natV) (fun i H' => Same H4 H' ∧ ∃ vs, H' D2 = some (.lst vs) ∧ Paired (HdP H) vs (((rowOf pl one).handlers.take i).map (hpAt pl))) ⟨Same.nw hD2, [], upd_same, .nil⟩ (fun i H' _ h => SqL.of (h.1 _ _ (s4 _ _ r2))) ?_ ?_
          · rintro i v H5 hz2 ⟨s5, vs, e5, pv⟩
            rw [List.getElem?_map] at hz2
            obtain ⟨ix, eix, rfl⟩ := Option.map_eq_some_iff.mp hz2
            have s45 := Same.tr s4 s5
            have hlt := rok.handlers ix (List.mem_of_getElem? eix)
            have lhp := Paired.length W.hsP
            obtain ⟨ad, ead⟩ : ∃ ad, hps[ix]? = some ad := ⟨_, List.getElem?_eq_getElem (by rw [lhp]; exact hlt)⟩
            obtain ⟨h, eh, hpl⟩ := Paired.nth W.hsP ead
            have lvs := Paired.length pv
            rw [List.length_map, List.length_take] at lvs
            have hf2 := rok.fewH
            refine ⟨rfl, ?_⟩
            dsimp only [tYes]
            rw [if_pos rfl]
            refine ⟨_, rfl, p, _, rfl, dget (s45 _ _ W.at_) (vk_handlers ..), ?_⟩
            refine ⟨_, rfl, hs, _, _, _, rfl, rfl, SqL.of (s45 _ _ W.hsE), atI_nat (j := ix) (by rw [List.getElem?_map, ead]; rfl), ?_⟩
            refine ⟨vs, e5, by rw [sizeLine_eq]; omega, Same.wr s5 hD2, vs ++ [.ref ad], upd_same, ?_⟩
            rw [take_nth eix, List.map_append, List.map_singleton]
            have e : hpAt pl ix = h := by
              unfold hpAt
              rw [eh]
            rw [e]
            exact Paired.app' pv (.cons ⟨ad, rfl, hpl.kp (M := fun _ => False) (Kp.same Same.rfl') fun _ _ => ⟨True.intro, fun z => z⟩⟩ .nil)
          · rintro H5 ⟨s5, vs, e5, pv⟩
            rw [List.length_map, List.take_length] at pv
            have s45 := Same.tr s4 s5
            have l1 := Paired.length pu
            have l2 := lawHs_len okp (w := (way (keysP pl) n).take j) fun z hz => way_log okp (List.mem_of_mem_take hz)
            rw [List.length_take] at l2
            have l3 := Paired.length pv
            rw [List.length_map] at l3
            have hf2 := rok.fewH
            refine ⟨D, D2, us, vs, rfl, rfl, s5 _ _ eD4, e5, by rw [sizeLine_eq]; omega, ?_⟩
            have s6 : Same H (L2.upd H5 D (.lst (us ++ vs))) := Same.wr s45 DH
            have e6 := upd_same (H := H5) (a := D) (o := .lst (us ++ vs))
            have eq6 : (L2.upd H5 D (.lst (us ++ vs))) q = some (.lst ((way (keysP pl) n).map V.str)) := by rw [upd_ne hqD]; exact s5 _ _ eq4
            generalize L2.upd H5 D _ = H6 at s6 e6 eq6 ⊢
            have pu2 : Paired (HdP H) (us ++ vs) (lawHs pl ((way (keysP pl) n).take (j + 1))) := by
              rw [lawHs_snoc pl eo]
              exact Paired.app' pu pv
            refine ⟨_, rfl, p, _, rfl, dget (s6 _ _ W.at_) (vk_loggers ..), ?_⟩
            refine ⟨_, rfl, lg, _, rfl, dget (s6 _ _ W.lgE) ha, ?_⟩
            refine ⟨a, _, rfl, dget (s6 _ _ r1) (vr_prop ..), (rowOf pl one).prop, rfl, ?_⟩
            have hre2 : reach (mdlP pl) (way (keysP pl) n) = (way (keysP pl) n).take (j + 1) ++ (if (rowOf pl one).prop = true then reach (mdlP pl) ((way (keysP pl) n).drop (j + 1)) else []) := by
              rw [hre, hdr, take_nth eo, List.append_assoc]
              rfl
            cases hpr : (rowOf pl one).prop with
            | true =>
              refine iteF ?_
              rw [hpr, if_pos rfl] at hre2
              exact ⟨_, us ++ vs, rfl, s6, eq6, e6, pu2, hre2⟩
            | false =>
              refine iteT ?_
              rw [hpr, if_neg (fun z => Bool.noConfusion z), List.append_nil] at hre2
              exact ⟨_, us ++ vs, rfl, s6, e6, by rw [hre2]; exact pu2⟩
        · rintro σ' H4 ⟨o5, us, rfl, s4, eq4, eD4, pu, hre⟩
          rw [List.length_map] at pu hre
          rw [List.take_length, List.drop_length] at hre
          rw [List.take_length] at pu
          refine ⟨o5, us, rfl, s4, eD4, ?_⟩
          rw [hre]
          show Paired (HdP H) us (lawHs pl (_ ++ []))
          rw [List.append_nil]
          exact pu
      · rintro σ' H3 ⟨o5, us, rfl, s3, eD, pu⟩
        have hLok := lawHs_ok okp (w := reach (mdlP pl) (way (keysP pl) n)) fun z hz => way_log okp (reach_mem hz)
        have hLlen := lawHs_len okp (w := reach (mdlP pl) (way (keysP pl) n)) fun z hz => way_log okp (reach_mem hz)
        have hrl := reach_len (mdlP pl) (way (keysP pl) n)
        have hwl := way_len (keys := keysP pl) rk.nm
        have hL42 : (lawHs pl (reach (mdlP pl) (way (keysP pl) n))).length ≤ 42 := by omega
        clear hLlen hrl hwl
        generalize hL : lawHs pl (reach (mdlP pl) (way (keysP pl) n)) = L at pu k hLok hL42
        obtain ⟨v1, v2, v3, v4⟩ := valT_at (mdlP pl) n lv msg
        have hval : ∀ x, (valT (mdlP pl) n lv msg x).length ≤ 50 := fun x => val_len okm rk
        have lus := Paired.length pu
        have hm50 := rk.m50
        refine ⟨_, rfl, ssz rfl, fun q2 hq2 => ?_⟩
        have s4 := Same.tr s3 (Same.nw (o := .lst []) hq2)
        have eD4 := upd_at (p := q2) (o := .lst []) eD hq2
        refine ⟨D, q2, us, rfl, rfl, SqL.of eD4, SqL.of upd_same, _, rfl, ?_⟩
        generalize L2.upd H3 q2 _ = H4 at s4 eD4 ⊢
        cases eus : us.isEmpty with
        | true =>
          refine iteT ?_
          have hnil : L = [] := by
            cases us with
            | nil => exact List.eq_nil_of_length_eq_zero lus.symm
            | cons a b => cases eus
          rw [if_pos hnil] at k
          refine ⟨fun u H' => ∃ q ws, u = .ref q ∧ Same H H' ∧ H q = none ∧ H' q = some (.lst ws) ∧ Paired (TAt H') ws (toldT (valT (mdlP pl) n lv msg) (if lv ≥ 30 then [resortX] else [])), ?_, ?_⟩
          · refine ⟨_, rfl, lv, 30, rfl, rfl, _, rfl, ?_⟩
            by_cases h30 : lv ≥ 30
            · rw [if_pos h30, toldT_resort, v2]
              refine Eq.mpr (if_pos (decide_eq_true h30)) ?_
              refine ⟨_, rfl, msg, sNl, rfl, rfl, by rw [sizeLine_eq]; show _ + 1 ≤ _; omega, ssz rfl, fun t ht => ⟨ssz rfl, fun q hq => ?_⟩⟩
              have s5 := Same.tr s4 (Same.nw (o := .tup [V.str sStderr, V.str (msg ++ sNl)]) ht)
              exact ⟨q, _, rfl, Same.tr s5 (Same.nw hq), Same.was s5 hq, upd_same, .cons ⟨t, rfl, upd_at upd_same hq⟩ .nil⟩
            · rw [if_neg h30, toldT_nil]
              refine Eq.mpr (if_neg (by rw [decide_eq_false h30]; exact Bool.false_ne_true)) ?_
              refine ⟨ssz rfl, fun q hq => ⟨q, _, rfl, Same.tr s4 (Same.nw hq), Same.was s4 hq, upd_same, .nil⟩⟩
          · rintro _ H5 ⟨q, ws, rfl, a1, a2, a3, a4⟩
            exact k q ws H5 a1 a2 a3 a4
        | false =>
          refine iteF ?_
          have hnil : L ≠ [] := fun z => by
            rw [z] at lus
            rw [List.eq_nil_of_length_eq_zero lus] at eus
            cases eus
          rw [if_neg hnil] at k
          intro F hF
          have FH : H F = none := Same.was s4 hF
          have s5 := Same.tr s4 (Same.nw (o := .dK []) hF)
          have eF5 := upd_same (H := H4) (a := F) (o := .dK [])
          have eD5 := upd_at (p := F) (o := .dK []) eD4 hF
          generalize L2.upd H4 F _ = H5 at s5 eF5 eD5 ⊢
          have hDF : D ≠ F := fun z => by rw [z, eF5] at eD5; cases eD5
          refine ⟨fun u H' => u = .str (shownN n) ∧ H5 = H', ?_, ?_⟩
          · refine ⟨_, rfl, rfl, _, rfl, ?_⟩
            unfold shownN
            by_cases e : n = ""
            · rw [if_pos e]
              refine Eq.mpr (if_pos (decide_eq_true (by rw [e]))) ?_
              exact ⟨rfl, rfl⟩
            · rw [if_neg e]
              refine Eq.mpr (if_neg (by rw [decide_eq_false fun z => e (V.str.inj z)]; exact Bool.false_ne_true)) ?_
              exact ⟨_, rfl, rfl, rfl⟩
          rintro _ _ ⟨rfl, rfl⟩
          refine ⟨ssz rfl, fun t ht => ?_⟩
          have s6 := Same.nw (o := .tup [V.ref F, V.str (shownN n)]) ht
          have s56 := Same.tr s5 s6
          have eF6 := s6 _ _ eF5
          have eD6 := s6 _ _ eD5
          refine ⟨t, _, rfl, SqT.of upd_same, rfl, ?_⟩
          refine ⟨_, _, rfl, _, _, rfl, rfl, ?_⟩
          generalize L2.upd H5 t _ = H6 at s6 s56 eF6 eD6 ⊢
          intro d hd
          have sd := Same.nw (o := .dK []) hd
          have ed0 := upd_same (H := H6) (a := d) (o := .dK [])
          have dH : H d = none := Same.was s56 hd
          have s7 := Same.tr s56 sd
          have eF7 := sd _ _ eF6
          have eD7 := sd _ _ eD6
          generalize L2.upd H6 d _ = H7 at sd ed0 s7 eF7 eD7 ⊢
          refine ⟨_, rfl, _, rfl, _, rfl, lv, rfl, by have := rk.lo.1; omega, _, rfl, _, rfl, p, pl, lv, rfl, hp0.same s7, okp, rk.lo, fun H8 s8 => ?_⟩
          refine ⟨s8 _ _ ed0, [(kS "name", .str (shownN n)), (kS "message", .str msg), (kS "levelno", .str (toString lv)), (kS "levelname", .str (lvName (mdlP pl) lv))], rfl, Nat.le_of_ble_eq_true rfl, ?_⟩
          rw [mv4']
          have hvK : [(kS "name", V.str (shownN n)), (kS "message", V.str msg), (kS "levelno", V.str (toString lv)), (kS "levelname", V.str (lvName (mdlP pl) lv))] = valK (mdlP pl) n lv msg := rfl
          rw [hvK]
          have hFd : F ≠ d := fun z => by
            rw [z] at eF6
            rw [eF6] at hd
            cases hd
          have hdF : d ≠ F := hFd.symm
          have hDd : D ≠ d := fun z => by
            rw [z] at eD6
            rw [eD6] at hd
            cases hd
          have s9 : Same H (L2.upd H8 d (.dK (valK (mdlP pl) n lv msg))) := Same.wr (Same.tr s7 s8) dH
          have ed9 := upd_same (H := H8) (a := d) (o := .dK (valK (mdlP pl) n lv msg))
          have eF9 : (L2.upd H8 d (.dK (valK (mdlP pl) n lv msg))) F = some (.dK []) := by rw [upd_ne hFd]; exact s8 _ _ eF7
          have eD9 : (L2.upd H8 d (.dK (valK (mdlP pl) n lv msg))) D = some (.lst us) := by rw [upd_ne hDd]; exact s8 _ _ eD7
          generalize L2.upd H8 d _ = H9 at s9 ed9 eF9 eD9 ⊢
          refine ⟨_, rfl, D, rfl, ⟨_, SqL.of eD9⟩, ?_⟩
          refine for_list (xs := us) (fun i σ' H' => ∃ o5 o9 o10 kvs, σ' = [some (.ref p), some (.str n), some (.int lv), some (.str msg), some (.ref D), o5, some (.ref F), some (.str (shownN n)), some (.ref d), o9, o10, none, none] ∧ Same H H' ∧ H' D = some (.lst us) ∧ H' F = some (.dK kvs) ∧ H' d = some (.dK (valK (mdlP pl) n lv msg)) ∧ AcT kvs (strms (((L.take i).filter (lawOn n lv)).map hxOf)) (textS (valT (mdlP pl) n lv msg) (((L.take i).filter (lawOn n lv)).map hxOf))) ⟨_, _, _, [], rfl, s9, eD9, eF9, ed9, ⟨rfl, fun s h => nomatch h⟩⟩ (fun i σ' H' _ ⟨_, _, _, _, _, _, e, _⟩ => SqL.of e) ?_ ?_
          · rintro i v σ' H10 hz ⟨o5, o9, o10, kvs, rfl, s10, eD10, eF10, ed10, ac⟩
            obtain ⟨h, eh, hx⟩ := Paired.nth pu hz
            have hok := hLok h (List.mem_of_getElem? eh)
            obtain ⟨ad, rfl, fl, fv, _, e1, _, e2, fm⟩ := hx
            have no : ∀ H', Same H10 H' → lawOn n lv h = false → ∃ o5' o9' o10' kvs', [some (.ref p), some (.str n), some (.int lv), some (.str msg), some (.ref D), some (V.ref ad), some (.ref F), some (.str (shownN n)), some (.ref d), o9, o10, none, none] = [some (.ref p), some (.str n), some (.int lv), some (.str msg), some (.ref D), o5', some (.ref F), some (.str (shownN n)), some (.ref d), o9', o10', none, none] ∧ Same H H' ∧ H' D = some (.lst us) ∧ H' F = some (.dK kvs') ∧ H' d = some (.dK (valK (mdlP pl) n lv msg)) ∧ AcT kvs' (strms (((L.take (i + 1)).filter (lawOn n lv)).map hxOf)) (textS (valT (mdlP pl) n lv msg) (((L.take (i + 1)).filter (lawOn n lv)).map hxOf)) := fun H' s' e => ⟨_, _, _, kvs, rfl, Same.tr s10 s', s' _ _ eD10, s' _ _ eF10, s' _ _ ed10, by rw [take_filter_snoc eh, e, if_neg (fun z => Bool.noConfusion z), List.append_nil]; exact ac⟩
            refine ⟨_, rfl, ad, _, rfl, dget (s10 _ _ e1) (vh_null ..), h.null, rfl, ?_⟩
            cases hn : h.null with
            | true =>
              refine iteF ?_
              refine iteF ?_
              exact no H10 Same.rfl' (by unfold lawOn; rw [hn]; rfl)
            | false =>
            refine iteT ?_
            refine ⟨_, rfl, ad, _, rfl, dget (s10 _ _ e1) (vh_level ..), _, rfl, h.level, lv, rfl, rfl, _, rfl, ?_⟩
            by_cases hlv : h.level ≤ lv
            rotate_left
            · refine Eq.mpr (if_neg (by rw [decide_eq_false hlv]; exact Bool.false_ne_true)) ?_
              refine iteF ?_
              exact no H10 Same.rfl' (by unfold lawOn; rw [hn, decide_eq_false hlv]; rfl)
            · refine Eq.mpr (if_pos (decide_eq_true hlv)) ?_
              refine ⟨_, rfl, ad, _, rfl, dget (s10 _ _ e1) (vh_filters ..), _, rfl, fl, h.filters, shownN n, rfl, s10 _ _ e2, Nat.le_trans hok.few (by decide), fun f hf => nameM_len f (hok.filters f hf), fun H11 s11 => ⟨_, rfl, ?_⟩⟩
              cases hlb : letsB h.filters (shownN n) with
              | false =>
                refine iteF ?_
                exact no H11 s11 (by unfold lawOn; rw [hn, decide_eq_true hlv, hlb]; rfl)
              | true =>
                refine iteT ?_
                have hon : lawOn n lv h = true := by unfold lawOn; rw [hn, decide_eq_true hlv, hlb]; rfl
                clear no
                have s1011 := Same.tr s10 s11
                obtain ⟨hp6, hpok⟩ := parts_ok hok
                have hsum := partsS_len hval hok
                have hline := lineT_len hval hok
                refine ⟨fun u H' => ∃ b ys, u = .ref b ∧ Same H11 H' ∧ H' b = some (.lst ys) ∧ FmtAt (fun _ => True) H' ys (partsT h.fmt), ?_, ?_⟩
                · refine ⟨_, rfl, ad, _, rfl, dget (s1011 _ _ e1) (vh_format ..), rfl, _, rfl, ?_⟩
                  cases ef : h.fmt with
                  | none =>
                    rw [ef] at fm
                    have hfv : fv = .non := fm
                    refine Eq.mpr (if_pos (by rw [hfv]; simp)) ?_
                    exact ⟨ssz rfl, fun t2 ht2 => ⟨ssz rfl, fun b hb => ⟨b, _, rfl, Same.tr (Same.nw ht2) (Same.nw hb), upd_same, .cons ⟨t2, rfl, True.intro, upd_at upd_same hb⟩ .nil⟩⟩⟩
                  | some ps =>
                    rw [ef] at fm
                    obtain ⟨b, ys, hfv, _, eb, fa⟩ := fm
                    refine Eq.mpr (if_neg (by rw [hfv]; simp)) ?_
                    exact ⟨_, rfl, ad, _, rfl, dget (s1011 _ _ e1) (vh_format ..), b, ys, hfv, Same.rfl', s1011 _ _ eb, Paired.impl fa fun _ _ z => z.kp (M := fun _ => False) (Kp.same s1011) fun _ _ => ⟨True.intro, fun z => z⟩⟩
                rintro _ H12 ⟨b, ys, rfl, s12, eb, fa⟩
                have s012 := Same.tr s1011 s12
                have lys := Paired.length fa
                refine ⟨⟨_, rfl⟩, _, rfl, b, rfl, ⟨ys, SqL.of eb⟩, fun D3 hD3 => ?_⟩
                refine lc_list (xs := ys) (fun j H' => Same H12 H' ∧ H' D3 = some (.lst (((partsT h.fmt).take j).map fun q => V.str (fpT (valT (mdlP pl) n lv msg) q)))) ⟨Same.nw hD3, upd_same⟩ (fun j H' _ h => SqL.of (h.1 _ _ eb)) ?_ ?_
                · rintro j v2 H13 hz2 ⟨s13, e13⟩
                  obtain ⟨fp, efp, hfp⟩ := Paired.nth fa hz2
                  have hfok := hpok fp (List.mem_of_getElem? efp)
                  have hj : j < (partsT h.fmt).length := (List.getElem?_eq_some_iff.mp efp).1
                  refine ⟨rfl, ?_⟩
                  dsimp only [tYes]
                  rw [if_pos rfl]
                  refine ⟨fun u H' => u = .str (fpT (valT (mdlP pl) n lv msg) fp) ∧ H13 = H', ?_, ?_⟩
                  · cases fp with
                    | txt x =>
                      cases (show v2 = .str x from hfp)
                      refine ⟨_, rfl, _, _, _, _, _, rfl, .ty _, .base (.str _), kit_ty (show kitB "str" "tuple" = some false by decide +kernel), _, rfl, ?_⟩
                      refine iteF ?_
                      exact ⟨_, rfl, rfl, rfl⟩
                    | mark x =>
                      obtain ⟨t2, rfl, _, et2⟩ := hfp
                      have et3 := s13 _ _ et2
                      refine ⟨_, rfl, _, _, _, _, _, rfl, .ty _, .base (.tup et3), kit_ty (show kitB "tuple" "tuple" = some true by decide +kernel), _, rfl, ?_⟩
                      refine iteT ?_
                      exact ⟨_, rfl, _, rfl, t2, _, _, _, rfl, rfl, SqT.of et3, atI_nat (j := 0) rfl, d, _, rfl, dget (s13 _ _ (s12 _ _ (s11 _ _ ed10))) (valK_at hfok), rfl, rfl⟩
                  · rintro _ _ ⟨rfl, rfl⟩
                    refine ⟨_, e13, by rw [List.length_map, List.length_take, sizeLine_eq]; omega, Same.wr s13 hD3, ?_⟩
                    rw [upd_same, take_nth efp, List.map_append]
                    rfl
                · rintro H13 ⟨s13, e13⟩
                  rw [lys, List.take_length] at e13
                  have e13' : H13 D3 = some (.lst (((partsT h.fmt).map (fpT (valT (mdlP pl) n lv msg))).map V.str)) := by rw [e13, List.map_map]; rfl
                  have s014 := Same.tr s012 s13
                  have s1014 := Same.tr s11 (Same.tr s12 s13)
                  refine ⟨_, D3, (partsT h.fmt).map (fpT (valT (mdlP pl) n lv msg)), rfl, rfl, .inl (SqL.of e13'), by show _ + _ * 0 ≤ _; rw [Nat.mul_zero, Nat.add_zero]; exact Nat.le_trans hsum (by decide), ?_⟩
                  have htl := term_len _ hok.term
                  have hcl := catT_len ((partsT h.fmt).map (fpT (valT (mdlP pl) n lv msg)))
                  refine ⟨_, rfl, ad, _, rfl, dget (s014 _ _ e1) (vh_end ..), _, _, rfl, rfl, by rw [join_cat, hcl, sizeLine_eq]; omega, ?_⟩
                  have hlt : Txt.join "" ((partsT h.fmt).map (fpT (valT (mdlP pl) n lv msg))) ++ h.term = lineT (valT (mdlP pl) n lv msg) (hxOf h) := by rw [join_cat]; rfl
                  rw [hlt]
                  have eF13 := s1014 _ _ eF10
                  obtain ⟨ftok, ftlen⟩ := filter_take_ok (f := lawOn n lv) hLok i
                  have tlen := textS_len hval ftok h.stream
                  obtain ⟨snd, smem, slen⟩ := strms_ok _ (((L.take i).filter (lawOn n lv)).map hxOf) rfl
                  have hgd : (valV kvs (kS h.stream)).getD (.str "") = .str (textS (valT (mdlP pl) n lv msg) (((L.take i).filter (lawOn n lv)).map hxOf) h.stream) := by
                    by_cases hin : h.stream ∈ strms (((L.take i).filter (lawOn n lv)).map hxOf)
                    · rw [ac.at_ _ hin]
                      rfl
                    · rw [valV_none ac.keys hin]
                      have e : textS (valT (mdlP pl) n lv msg) (((L.take i).filter (lawOn n lv)).map hxOf) h.stream = "" := by
                        unfold textS
                        rw [List.filter_eq_nil_iff.mpr fun x hx z => hin ((smem _).mpr ⟨x, hx, of_decide_eq_true z⟩)]
                        rfl
                      rw [e]
                      rfl
                  have lkv : kvs.length ≤ 42 := by
                    have z := congrArg List.length ac.keys
                    rw [List.length_map, List.length_map] at z
                    rw [List.length_map] at slen
                    omega
                  refine ⟨_, rfl, F, rfl, .inl ⟨_, .inl eF13⟩, ?_⟩
                  refine ⟨_, rfl, ad, _, rfl, dget (s014 _ _ e1) (vh_stream ..), ?_⟩
                  refine ⟨_, DGet.k (k := kS h.stream) eF13, ?_⟩
                  refine ⟨_, rfl, _, _, hgd, rfl, by rw [sizeLine_eq]; omega, ?_⟩
                  refine ⟨_, rfl, _, rfl, ad, _, rfl, dget (s014 _ _ e1) (vh_stream ..), F, _, rfl, DPut.k (k := kS h.stream) eF13 (by rw [sizeLine_eq]; omega), ?_⟩
                  refine ⟨_, _, _, putK kvs (kS h.stream) _, rfl, Same.wr s014 FH, by rw [upd_ne hDF]; exact s1014 _ _ eD10, upd_same, by rw [upd_ne hdF]; exact s1014 _ _ ed10, ?_⟩
                  rw [take_filter_snoc eh, hon, if_pos rfl, List.map_append, List.map_singleton, strms_snoc]
                  refine ⟨putK_keysU ac.keys _ _, fun s hs' => ?_⟩
                  rw [textS_snoc, valV_put]
                  by_cases e : h.stream = s
                  · subst e
                    rw [if_pos rfl, if_pos (show (hxOf h).stream = h.stream from rfl)]
                  · rw [if_neg (fun z => e (Sum.inr.inj z).symm), if_neg (show ¬ (hxOf h).stream = s from e)]
                    exact ac.at_ s ((addU_mem.mp hs').resolve_right fun z => e z.symm)
          · rintro σ' H10 ⟨o5, o9, o10, kvs, rfl, s10, eD10, eF10, ed10, ac⟩
            rw [lus, List.take_length] at ac
            have wok : ∀ h ∈ (L.filter (lawOn n lv)).map hxOf, h.stream ∈ streamMenu := fun x hx => by
              obtain ⟨h, hh, rfl⟩ := List.mem_map.mp hx
              exact (hLok h (List.mem_filter.mp hh).1).stream
            generalize (L.filter (lawOn n lv)).map hxOf = Wl at ac k wok
            obtain ⟨snd, smem, slen⟩ := strms_ok _ Wl rfl
            have s64 : (strms Wl).length ≤ 4 := nodup_leU (l2 := streamMenu) snd fun s hs' => by
              obtain ⟨h, hh, rfl⟩ := (smem s).mp hs'
              exact wok h hh
            refine ⟨_, rfl, F, kvs, strms Wl, rfl, .inl eF10, ac.keys, by omega, fun ys2 p2 hperm hsort hp2 => ?_⟩
            have hys := srt_of hperm hsort
            subst hys
            have s11 := Same.tr s10 (Same.nw (o := .lst ((srt (strms Wl)).map V.str)) hp2)
            have e11 := upd_same (H := H10) (a := p2) (o := .lst ((srt (strms Wl)).map V.str))
            have eF11 := upd_at (p := p2) (o := .lst ((srt (strms Wl)).map V.str)) eF10 hp2
            generalize L2.upd H10 p2 _ = H11 at s11 e11 eF11 ⊢
            refine ⟨p2, rfl, ⟨_, SqL.of e11⟩, fun D4 hD4 => ?_⟩
            unfold toldT at k
            have hsl : (srt (strms Wl)).length ≤ 4 := by rw [(srt_perm _).length_eq]; exact s64
            refine lc_list (xs := (srt (strms Wl)).map V.str) (fun j H' => Same H11 H' ∧ ∃ vs, H' D4 = some (.lst vs) ∧ Paired (TAt H') vs ((((srt (strms Wl)).take j).map fun s => (s, textS (valT (mdlP pl) n lv msg) Wl s)).filter fun q => !decide (V.str q.2 = V.str ""))) ⟨Same.nw hD4, [], upd_same, .nil⟩ (fun j H' _ h => SqL.of (h.1 _ _ e11)) ?_ ?_
            · rintro j v H12 hz ⟨s12, vs, e12, pv⟩
              rw [List.getElem?_map] at hz
              obtain ⟨s, es, rfl⟩ := Option.map_eq_some_iff.mp hz
              have hs' : s ∈ strms Wl := (srt_perm _).mem_iff.mp (List.mem_of_getElem? es)
              have hat := ac.at_ s hs'
              have lvs := Paired.length pv
              have lf := List.length_filter_le (fun q : Str × Str => !decide (V.str q.2 = V.str "")) (((srt (strms Wl)).take j).map fun s => (s, textS (valT (mdlP pl) n lv msg) Wl s))
              rw [List.length_map, List.length_take] at lf
              refine ⟨rfl, ?_⟩
              refine ⟨_, rfl, _, rfl, F, _, rfl, dget (s12 _ _ eF11) hat, rfl, _, rfl, ?_⟩
              have snoc : (((srt (strms Wl)).take (j + 1)).map fun s => (s, textS (valT (mdlP pl) n lv msg) Wl s)).filter (fun q => !decide (V.str q.2 = V.str "")) = (((srt (strms Wl)).take j).map fun s => (s, textS (valT (mdlP pl) n lv msg) Wl s)).filter (fun q => !decide (V.str q.2 = V.str "")) ++ (if (!decide (V.str (textS (valT (mdlP pl) n lv msg) Wl s) = V.str "")) = true then [(s, textS (valT (mdlP pl) n lv msg) Wl s)] else []) := by
                rw [take_nth es, List.map_append, List.map_singleton, List.filter_append]
                congr 1
                cases e : (!decide (V.str (textS (valT (mdlP pl) n lv msg) Wl s) = V.str "")) with
                | true => rw [if_pos rfl, List.filter_cons_of_pos (by exact e)]; rfl
                | false => rw [if_neg (fun z => Bool.noConfusion z), List.filter_cons_of_neg (by rw [e]; exact Bool.false_ne_true)]; rfl
              cases hb : (!decide (V.str (textS (valT (mdlP pl) n lv msg) Wl s) = V.str "")) with
              | false =>
                refine iteF ⟨s12, vs, e12, ?_⟩
                rw [snoc, hb, if_neg (fun z => Bool.noConfusion z), List.append_nil]
                exact pv
              | true =>
                refine iteT ?_
                refine ⟨_, rfl, _, rfl, _, rfl, F, _, rfl, dget (s12 _ _ eF11) hat, ssz rfl, fun t2 ht2 => ?_⟩
                have s13 := Same.nw (o := .tup [V.str s, V.str (textS (valT (mdlP pl) n lv msg) Wl s)]) ht2
                have e13 := s13 _ _ e12
                refine ⟨vs, e13, by rw [sizeLine_eq]; omega, Same.wr (Same.tr s12 s13) hD4, vs ++ [.ref t2], upd_same, ?_⟩
                rw [snoc, if_pos hb]
                have tat : TAt (L2.upd H12 t2 (.tup [V.str s, V.str (textS (valT (mdlP pl) n lv msg) Wl s)])) (.ref t2) (s, textS (valT (mdlP pl) n lv msg) Wl s) := ⟨t2, rfl, upd_same⟩
                exact Paired.app' (Paired.impl pv fun _ _ z => (z.same s13).upd e13) (.cons (tat.upd e13) .nil)
            · rintro H12 ⟨s12, vs, e12, pv⟩
              rw [List.length_map, List.take_length] at pv
              exact k D4 vs H12 (Same.tr s11 s12) (Same.was s11 hD4) e12 pv

end
end Ry
namespace Ry
open PySem PySem.Spec PyProof.Rows L2 He RyH
open C8 (pss_cut tCut Cal Met Mak pe_c pe_mk pe_mt pe_mt0 pe_gc)
/-! ### the view of a yard that was made of a plan -/
def adY (Y : YD) (k : Str) : Addr := if k = "" then Y.root.a else ((Y.lgs.lookup k).map (·.a)).getD 0
theorem adY_root (Y : YD) : adY Y "" = Y.root.a := if_pos rfl
theorem rows_lookup {Y : YD} (ne : ∀ x ∈ Y.lgs, x.1 ≠ "") (k : Str) : Y.rows.lookup k = if k ∈ Y.lgs.map (·.1) then some (adY Y k) else none := by
  unfold YD.rows
  have aux : ∀ l : List (Str × LgR), (l.map fun x => (x.1, x.2.a)).lookup k = (l.lookup k).map (·.a) := by
    intro l
    induction l with
    | nil => rfl
    | cons x l ih =>
      obtain ⟨a, b⟩ := x
      rw [List.map_cons, List.lookup_cons, List.lookup_cons]
      cases (k == a) with
      | true => rfl
      | false => exact ih
  rw [aux]
  by_cases h : k ∈ Y.lgs.map (·.1)
  · rw [if_pos h]
    obtain ⟨x, hx, rfl⟩ := List.mem_map.mp h
    have e : ∀ l : List (Str × LgR), x.1 ∈ l.map (·.1) → ∃ r, l.lookup x.1 = some r := by
      intro l
      induction l with
      | nil => intro h; cases h
      | cons y l ih =>
        obtain ⟨a, b⟩ := y
        intro h
        rw [List.lookup_cons]
        cases q : (x.1 == a) with
        | true => exact ⟨b, rfl⟩
        | false =>
          exact ih ((List.mem_cons.mp h).resolve_left fun z => by
            rw [show x.1 = a from z, beq_self_eq_true] at q
            cases q)
    obtain ⟨r, er⟩ := e Y.lgs h
    unfold adY
    rw [if_neg (ne x hx), er]
    rfl
  · rw [if_neg h]
    have e : ∀ l : List (Str × LgR), k ∉ l.map (·.1) → l.lookup k = none := by
      intro l
      induction l with
      | nil => intro _; rfl
      | cons y l ih =>
        obtain ⟨a, b⟩ := y
        intro h
        rw [List.lookup_cons, show (k == a) = false from beq_eq_false_iff_ne.mpr fun z => h (by rw [z]; exact List.mem_cons_self ..)]
        exact ih fun z => h (List.mem_cons_of_mem _ z)
    rw [e _ h]
    rfl
def downP (parts : List Str) : Nat → List Str
  | 0 => []
  | k + 1 => Txt.join "." (parts.take (k + 1)) :: downP parts k
theorem par_down {Y : YD} (ne : ∀ x ∈ Y.lgs, x.1 ≠ "") (parts : List Str) : ∀ k : Nat, parF Y.rows Y.root.a parts k = adY Y (((downP parts k).filter (fun q => decide (q ∈ Y.lgs.map (·.1))) ++ [("" : Str)]).headD "")
  | 0 => (adY_root Y).symm
  | k + 1 => by
    show (match Y.rows.lookup (Txt.join "." (parts.take (k + 1))) with | some a => a | none => parF Y.rows Y.root.a parts k) = adY Y (((Txt.join "." (parts.take (k + 1)) :: downP parts k).filter (fun q => decide (q ∈ Y.lgs.map (·.1))) ++ [("" : Str)]).headD "")
    rw [rows_lookup ne]
    by_cases h : Txt.join "." (parts.take (k + 1)) ∈ Y.lgs.map (·.1)
    · rw [if_pos h, List.filter_cons_of_pos (by exact decide_eq_true h)]
      rfl
    · rw [if_neg h, List.filter_cons_of_neg (by rw [decide_eq_false h]; exact Bool.false_ne_true)]
      exact par_down ne parts k
theorem downP_eq (parts : List Str) : ∀ k : Nat, downP parts k = ((List.range k).map fun i => Txt.join "." (parts.take (i + 1))).reverse
  | 0 => rfl
  | k + 1 => by
    rw [List.range_succ, List.map_append, List.reverse_append, ← downP_eq parts k]
    rfl
theorem ups_drop {n : Str} (h : n ≠ "") : (ups n).drop 1 = downP (Txt.split n ".") ((Txt.split n ".").length - 1) := by
  have e : ups n = downP (Txt.split n ".") (Txt.split n ".").length := by
    unfold ups prefs
    rw [if_neg h, downP_eq]
  rw [e]
  cases (Txt.split n ".").length with
  | zero => rfl
  | succ k => rfl
theorem lgF_lkX (y fl : Addr) (nm : Str) (lv : Int) (pr di : Bool) (hl : Addr) (pa : V) : lk (lgF y fl nm lv pr di hl pa) "propagate" = some (.bl pr) ∧ lk (lgF y fl nm lv pr di hl pa) "disabled" = some (.bl di) ∧ lk (lgF y fl nm lv pr di hl pa) "getEffectiveLevel" = none ∧ lk (lgF y fl nm lv pr di hl pa) "reached" = none := ⟨by kernel_rfl, by kernel_rfl, by kernel_rfl, by kernel_rfl⟩
theorem hdFs_lkX (y : Addr) (h : HdR) : lk (hdFs y h) "terminator" = some (.str h.term) ∧ ∀ s, h.st = some s → lk (hdFs y h) "stream" = some (.str s) := by
  obtain ⟨a, fl, st, lv, tm, fm, nm, cl, fs⟩ := h
  cases st with
  | none => exact ⟨by kernel_rfl, fun s e => by cases e⟩
  | some x => exact ⟨by kernel_rfl, fun s e => by cases e; kernel_rfl⟩
theorem yd_lkX (ck : Int) (st fr no nu : Addr) (bar : Int) (lm mk hn fa rt lr : Addr) : lk (ydF ck st fr no nu bar lm mk hn fa rt lr) "last_resort" = some (.ref lr) ∧ lk (ydF ck st fr no nu bar lm mk hn fa rt lr) "level_name" = none ∧ lk (ydF ck st fr no nu bar lm mk hn fa rt lr) "bar_level" = some (.int bar) ∧ lk (ydF ck st fr no nu bar lm mk hn fa rt lr) "root" = some (.ref rt) ∧ lk (ydF ck st fr no nu bar lm mk hn fa rt lr) "logger_map" = some (.ref lm) ∧ lk (ydF ck st fr no nu bar lm mk hn fa rt lr) "names_of" = some (.ref no) ∧ lk (ydF ck st fr no nu bar lm mk hn fa rt lr) "loggers" = none := ⟨by kernel_rfl, by kernel_rfl, by kernel_rfl, by kernel_rfl, by kernel_rfl, by kernel_rfl, by kernel_rfl⟩
theorem hdB_lkX (y fl : Addr) : lk (hdB y fl 0 .non .non "\n" false ++ ([("stream", .str "stderr")] : List (Str × V))) "level" = some (.int 0) ∧ lk (hdB y fl 0 .non .non "\n" false ++ ([("stream", .str "stderr")] : List (Str × V))) "filters" = some (.ref fl) ∧ lk (hdB y fl 0 .non .non "\n" false ++ ([("stream", .str "stderr")] : List (Str × V))) "formatter" = some .non ∧
    lk (hdB y fl 0 .non .non "\n" false ++ ([("stream", .str "stderr")] : List (Str × V))) "terminator" = some (.str "\n") ∧ lk (hdB y fl 0 .non .non "\n" false ++ ([("stream", .str "stderr")] : List (Str × V))) "stream" = some (.str "stderr") := ⟨by kernel_rfl, by kernel_rfl, by kernel_rfl, by kernel_rfl, by kernel_rfl⟩
section
variable {K : PySem.W.Frag}
theorem HdOk.x {H : Hp} {tg : Addr → Option Tg} {y : Addr} {i : Nat} {r : HdR} {h : HP} (x : HdOk K H tg y i r) (f : HdFit r h) : HdX K H (.ref r.a) (hxOf h) := by
  obtain ⟨dx, e⟩ := x.aE
  obtain ⟨l1, l2, l3⟩ := hdFs_lk3 y r
  obtain ⟨l4, l5⟩ := hdFs_lkX y r
  have hst := f.st
  have e' : H r.a = some (.ins (ga K (if (hxOf h).null = true then "NullHandler" else "StreamHandler")) dx (hdFs y r)) := by
    rw [e, hst]
    show some (HO.ins (ga K (if (if h.null = true then none else some h.stream).isSome = true then "StreamHandler" else "NullHandler")) dx (hdFs y r)) = some (.ins (ga K (if h.null = true then "NullHandler" else "StreamHandler")) dx (hdFs y r))
    cases h.null <;> rfl
  refine ⟨r.a, dx, hdFs y r, r.fl, _, _, rfl, e', by rw [l1, f.level]; rfl, l2, l3, by rw [l4, f.term]; rfl, fun hn => l5 _ (by rw [hst, if_neg (by rw [show h.null = false from hn]; exact Bool.false_ne_true)]; rfl), x.flE, fil_of f.fs x.fs, ?_⟩
  have hf := f.fmt
  show FmX K H (fmtVal r.fmt) h.fmt
  cases hr : r.fmt with
  | none =>
    rw [hr] at hf
    cases hh : h.fmt with
    | none => rfl
    | some qs => rw [hh] at hf; cases hf
  | some z =>
    obtain ⟨a, dd, b, ps⟩ := z
    rw [hr] at hf
    cases hh : h.fmt with
    | none => rw [hh] at hf; cases hf
    | some qs =>
      rw [hh] at hf
      have z := Option.some.inj hf
      have hq : ps = qs := congrArg Prod.snd z
      subst hq
      obtain ⟨dx2, q, js, _, _, _, e1, e2, pj, e3⟩ := x.fm a dd b ps hr
      exact ⟨a, dx2, _, b, q, dd, js, rfl, e1, e2, Paired.impl pj fun v j hj => by
        cases j with
        | txt l => exact hj
        | fld nm => obtain ⟨c, d, e, _, e4⟩ := hj; exact ⟨c, d, e, e4⟩, e3⟩
theorem hs_x {H : Hp} {tg : Addr → Option Tg} {y : Addr} {pl : Pl} {hds : List HdR} {hs : List Addr} {ns : List Nat} (he : hs.map some = ns.map fun i => (hds[i]?).map (·.a)) (hp : Paired HdFit hds pl.handlers) (hx : ∀ i h, hds[i]? = some h → HdOk K H tg y i h) :
    Paired (HdX K H) (hs.map V.ref) (ns.map (hxAt pl)) := by
  refine paired_maps (paired_some he) fun a n e => ?_
  obtain ⟨r, er, rfl⟩ := Option.map_eq_some_iff.mp e
  obtain ⟨h, eh, f⟩ := Paired.nth hp er
  have e2 : hxAt pl n = hxOf h := by
    unfold hxAt
    rw [eh]
  rw [e2]
  exact (hx n r er).x f
theorem LgOk.x {H : Hp} {tg : Addr → Option Tg} {y : Addr} {key : Str} {r : LgR} {pl : Pl} {hds : List HdR} {row : RP} (x : LgOk K H tg y key r) (f : LgFit hds r row) (hp : Paired HdFit hds pl.handlers) (hx : ∀ i h, hds[i]? = some h → HdOk K H tg y i h) : LgX K H r.a r.name r.par (lxOf pl row) := by
  obtain ⟨dx, e⟩ := x.aE
  obtain ⟨l1, l2, l3, l4, l5⟩ := lgF_lk3 y r.fl r.name r.level r.prop r.dis r.hl r.par
  obtain ⟨m1, m2, m3, m4⟩ := lgF_lkX y r.fl r.name r.level r.prop r.dis r.hl r.par
  exact ⟨dx, _, r.fl, r.hl, _, _, e, l5, by rw [l1, f.level]; rfl, by rw [m1, f.prop]; rfl, by rw [m2, f.dis]; rfl, l2, l3, l4, x.flE, fil_of f.fs x.fs, x.hlE, hs_x f.hs hp hx, m3, m4⟩
theorem YardW.x {H : Hp} {tg : Addr → Option Tg} {Y : YD} {pl : Pl} {ks : List Str} (h : YardW K H tg Y) (f : YFit Y pl ks) (ok : PlOk 20 20 pl) : YdX K H Y.y (adY Y) (mdlP pl) := by
  have hks : ks = srt (pl.loggers.map (·.1)) := srt_of f.perm f.sorted
  have hkeys : Y.lgs.map (·.1) = keysP pl := by
    rw [f.keys, hks]
    rfl
  have ne : ∀ x ∈ Y.lgs, x.1 ≠ "" := fun x hx => logMenu_em (h.lgs x hx).2.2
  obtain ⟨dy, ey⟩ := h.yE
  obtain ⟨y1, y2, y3, y4, y5, y6, y7⟩ := yd_lkX 0 Y.st Y.fr Y.no Y.nu Y.bar Y.lm Y.made Y.hn Y.fa Y.root.a Y.lr
  have had : ∀ x ∈ Y.lgs, adY Y x.1 = x.2.a := fun x hx => by
    unfold adY
    rw [if_neg (ne x hx), mem_lookup (k := x.1) (v := x.2) h.nd hx]
    rfl
  refine ⟨⟨dy, _, Y.lm, Y.no, Y.lr, ey, by rw [y3, f.bar]; rfl, by rw [y4, adY_root], y5, y6, y1, y7, y2, ?_, ?_, ?_⟩, ?_, ?_, fun k hk => ?_⟩
  · rw [h.lmE]
    congr 2
    show (Y.lgs.map fun x => (x.1, x.2.a)).map rowE = (keysP pl).map fun k => rowE (k, adY Y k)
    rw [← hkeys, List.map_map, List.map_map]
    refine List.map_congr_left fun x hx => ?_
    show rowE (x.1, x.2.a) = rowE (x.1, adY Y x.1)
    rw [had x hx]
  · rw [h.noE, f.names, ← nmP_n]
    rfl
  · obtain ⟨dl, el⟩ := h.lrE
    obtain ⟨b1, b2, b3, b4, b5⟩ := hdB_lkX Y.y Y.lrf
    exact ⟨Y.lr, dl, _, Y.lrf, [], _, rfl, el, b1, b2, b3, b4, fun _ => b5, h.lrfE, .nil, rfl⟩
  · show (keysP pl).Nodup
    rw [← hkeys]
    exact h.nd
  · obtain ⟨row, hr, fr⟩ := f.root
    have z := h.root.1.x fr f.hds h.hds
    rw [h.root.2, f.rootP] at z
    rw [adY_root]
    show LgX K H Y.root.a "root" .non (lxOf pl (rowOf pl ""))
    rw [rowOf_eq ok.nd hr]
    exact z
  · have hk' : k ∈ Y.lgs.map (·.1) := by rw [hkeys]; exact hk
    obtain ⟨x, hx, rfl⟩ := List.mem_map.mp hk'
    obtain ⟨hp, row, hr, fr⟩ := f.lgs x hx
    have g := h.lgs x hx
    have z := g.1.x fr f.hds h.hds
    rw [g.2.1, hp] at z
    refine ⟨?_, ne x hx⟩
    rw [had x hx]
    show LgX K H x.2.a x.1 (.ref (adY Y (up1 (keysP pl) x.1))) (lxOf pl (rowOf pl x.1))
    rw [rowOf_eq ok.nd hr]
    have hpar : parentA Y.rows Y.root.a x.1 = adY Y (up1 (keysP pl) x.1) := by
      unfold parentA up1
      rw [par_down ne, ups_drop (ne x hx), hkeys]
    rw [hpar] at z
    exact z
end
end Ry
namespace Ry
open PySem PySem.Spec PyProof.Rows L2 He RyH
open C8 (pss_cut tCut Cal Met Mak pe_c pe_mk pe_mt pe_mt0 pe_gc)
/-! ### what repr tells -/
theorem sum_mul_le {m : Nat} : ∀ {ts : List Str}, (∀ t ∈ ts, t.length ≤ m) → (ts.map (·.length)).sum ≤ m * ts.length
  | [], _ => Nat.zero_le _
  | t :: ts, h => by
    have z := sum_mul_le (ts := ts) fun y hy => h y (List.mem_cons_of_mem _ hy)
    have y := h t (List.mem_cons_self ..)
    rw [List.map_cons, List.sum_cons, List.length_cons, Nat.mul_add, Nat.mul_one]
    omega
theorem shownAll_map {β : Type} (f : β → PyData) : ∀ xs : List β, PyData.shownAll (xs.map f) = xs.map fun x => (f x).shown
  | [] => by simp [PyData.shownAll]
  | x :: xs => by simp [PyData.shownAll, shownAll_map f xs]
theorem showAll_map {β : Type} (f : β → PyData) : ∀ xs : List β, (∀ x ∈ xs, (f x).showable = true) → PyData.showableAll (xs.map f) = true
  | [], _ => by simp [PyData.showableAll]
  | x :: xs, h => by simp [PyData.showableAll, h x (List.mem_cons_self ..), showAll_map f xs fun y hy => h y (List.mem_cons_of_mem _ hy)]
theorem noDict_map {β : Type} (f : β → PyData) : ∀ xs : List β, (∀ x ∈ xs, (f x).hasDict = false) → PyData.hasDictAll (xs.map f) = false
  | [], _ => by simp [PyData.hasDictAll]
  | x :: xs, h => by simp [PyData.hasDictAll, h x (List.mem_cons_self ..), noDict_map f xs fun y hy => h y (List.mem_cons_of_mem _ hy)]
theorem depth_map {β : Type} (f : β → PyData) : ∀ xs : List β, (∀ x ∈ xs, (f x).depth = 0) → PyData.depthAll (xs.map f) = 0
  | [], _ => by simp [PyData.depthAll]
  | x :: xs, h => by simp [PyData.depthAll, h x (List.mem_cons_self ..), depth_map f xs fun y hy => h y (List.mem_cons_of_mem _ hy)]
theorem shown_list_le {β : Type} {f : β → PyData} {m : Nat} {xs : List β} (h : ∀ x ∈ xs, (f x).shown.length ≤ m) : (PyData.list (xs.map f)).shown.length ≤ m * xs.length + 2 * xs.length + 3 := by
  have z := listText_len_le (PyData.shownAll (xs.map f))
  rw [shownAll_map] at z
  have y := sum_mul_le (m := m) (ts := xs.map fun x => (f x).shown) fun t ht => by
    obtain ⟨x, hx, rfl⟩ := List.mem_map.mp ht
    exact h x hx
  rw [List.length_map] at z y
  rw [PyData.shown, shownAll_map]
  omega
def dT (ts : List (Str × Str)) : PyData := .list (ts.map fun p => .tuple [.str p.1, .str p.2])
def Asc (s : Str) : Prop := ∀ c ∈ s.cps.toList, c < 128
instance (s : Str) : Decidable (Asc s) := by unfold Asc; infer_instance
theorem asc_app {a b : Str} (h : Asc a) (k : Asc b) : Asc (a ++ b) := fun c hc => by
  have e : (a ++ b).cps.toList = a.cps.toList ++ b.cps.toList := Array.toList_append ..
  rw [e] at hc
  exact (List.mem_append.mp hc).elim (h c) (k c)
theorem asc_cat : ∀ {xs : List Str}, (∀ x ∈ xs, Asc x) → Asc (catT xs)
  | [], _ => (by decide : Asc "")
  | x :: xs, h => asc_app (h x (List.mem_cons_self ..)) (asc_cat fun y hy => h y (List.mem_cons_of_mem _ hy))
theorem shown_str {x : Str} (h : Asc x) : (PyData.str x).shown.length ≤ 10 * x.length + 2 := by
  rw [PyData.shown]
  exact StrLaws.reprText_len x fun c hc => Nat.lt_of_lt_of_le (h c hc) (by decide)
structure Repd (d : PyData) (m : Nat) : Prop where
  showable : d.showable = true
  noDict : d.hasDict = false
  depth : d.depth ≤ 40
  len : d.shown.length ≤ m
theorem depth_le_map {β : Type} {m : Nat} (f : β → PyData) : ∀ xs : List β, (∀ x ∈ xs, (f x).depth ≤ m) → PyData.depthAll (xs.map f) ≤ m
  | [], _ => by simp [PyData.depthAll]
  | x :: xs, h => by
    have a := h x (List.mem_cons_self ..)
    have b := depth_le_map f xs fun y hy => h y (List.mem_cons_of_mem _ hy)
    simp only [List.map_cons, PyData.depthAll]
    omega
theorem rep_pair {a b : Str} {la lb : Nat} (ha : Asc a) (hb : Asc b) (h1 : a.length ≤ la) (h2 : b.length ≤ lb) : (PyData.tuple [.str a, .str b]).showable = true ∧ (PyData.tuple [.str a, .str b]).hasDict = false ∧ (PyData.tuple [.str a, .str b]).depth ≤ 2 ∧ (PyData.tuple [.str a, .str b]).shown.length ≤ 10 * la + 10 * lb + 11 := by
  refine ⟨by simp [PyData.showable, PyData.showableAll], by simp [PyData.hasDict, PyData.hasDictAll], by simp [PyData.depth, PyData.depthAll], ?_⟩
  have z := tupleText_len_le (PyData.shownAll [.str a, .str b])
  have e1 := shown_str ha
  have e2 := shown_str hb
  rw [PyData.shown]
  simp only [PyData.shownAll, List.map_cons, List.map_nil, List.sum_cons, List.sum_nil, List.length_cons, List.length_nil] at z
  simp only [PyData.shownAll]
  omega
theorem rep_dT {ts : List (Str × Str)} {la lb k : Nat} (h : ∀ p ∈ ts, Asc p.1 ∧ Asc p.2 ∧ p.1.length ≤ la ∧ p.2.length ≤ lb) (hk : ts.length ≤ k) : Repd (dT ts) ((10 * la + 10 * lb + 11) * k + 2 * k + 3) := by
  have hp := fun p hp => let ⟨a, b, c, d⟩ := h p hp; rep_pair a b c d
  refine ⟨?_, ?_, ?_, ?_⟩
  · unfold dT
    rw [PyData.showable]
    exact showAll_map _ _ fun p q => (hp p q).1
  · unfold dT
    rw [PyData.hasDict]
    exact noDict_map _ _ fun p q => (hp p q).2.1
  · unfold dT
    rw [PyData.depth]
    have z := depth_le_map (m := 2) (fun p : Str × Str => PyData.tuple [.str p.1, .str p.2]) ts fun p q => (hp p q).2.2.1
    omega
  · have z := shown_list_le (f := fun p : Str × Str => PyData.tuple [.str p.1, .str p.2]) (m := 10 * la + 10 * lb + 11) (xs := ts) fun p q => (hp p q).2.2.2
    have y : (10 * la + 10 * lb + 11) * ts.length ≤ (10 * la + 10 * lb + 11) * k := Nat.mul_le_mul_left _ hk
    unfold dT
    omega
theorem rep_two {d e : PyData} {m : Nat} (hd : Repd d m) (he : Repd e m) : (PyData.list [d, e]).showable = true ∧ (PyData.list [d, e]).hasDict = false ∧ (PyData.list [d, e]).depth ≤ 60 ∧ (PyData.list [d, e]).shown.length ≤ m * 2 + 7 := by
  have z := shown_list_le (f := fun x : PyData => x) (m := m) (xs := [d, e]) fun x hx => by
    rcases List.mem_cons.mp hx with rfl | hx
    · exact hd.len
    · rw [List.mem_singleton.mp hx]
      exact he.len
  rw [List.map_id'] at z
  have h1 := hd.depth
  have h2 := he.depth
  refine ⟨by simp [PyData.showable, PyData.showableAll, hd.showable, he.showable], by simp [PyData.hasDict, PyData.hasDictAll, hd.noDict, he.noDict], ?_, ?_⟩
  · simp only [PyData.depth, PyData.depthAll]
    omega
  · simp only [List.length_cons, List.length_nil] at z
    omega
theorem dpT {K : PySem.W.Frag} {H : Hp} {q : Addr} {ws : List V} {ts : List (Str × Str)} (e : H q = some (.lst ws)) (h : Paired (TAt H) ws ts) : Dp K H (.ref q) (dT ts) := by
  refine Dp.lst (SqL.of e) ?_
  clear e
  induction h with
  | nil => exact .nil
  | cons r t ih =>
    obtain ⟨a, rfl, ea⟩ := r
    exact .cons (Dp.tup (SqT.of ea) (.cons (.str _) (.cons (.str _) .nil))) ih
/-! ### outcomes are of plain signs -/
theorem stream_asc : ∀ x ∈ streamMenu, Asc x ∧ x.length ≤ 10 := by decide +kernel
theorem end_asc : ∀ x ∈ endMenu, Asc x := by decide +kernel
theorem txt_asc : ∀ x ∈ txtMenu, Asc x := by decide +kernel
theorem wx_asc : ∀ x ∈ wxMenu, Asc x := by decide +kernel
theorem nmB_asc : ∀ p ∈ nmB, Asc p.2 := by decide +kernel
theorem foldI_asc : ∀ (ws ns : List (Int × Str)), (∀ x ∈ ws, Asc x.2) → (∀ p ∈ ns, Asc p.2) → ∀ p ∈ ws.foldl putI ns, Asc p.2
  | [], ns, _, hn => hn
  | x :: ws, ns, hw, hn => foldI_asc ws (putI ns x) (fun y hy => hw y (List.mem_cons_of_mem _ hy)) fun p hp => by
      rcases putI_mem hp with h | h
      · exact hn p h
      · rw [h]
        exact hw x (List.mem_cons_self ..)
structure RecAsc (n : Str) (lv : Int) (msg : Str) : Prop where
  n : Asc n
  lv : Asc (toString lv)
  msg : Asc msg
theorem val_asc {pl : Pl} (ok : PlOk 20 20 pl) {n msg : Str} {lv : Int} (r : RecAsc n lv msg) (x : Str) : Asc (valT (mdlP pl) n lv msg x) := by
  unfold valT
  split
  · unfold shownN
    split
    · exact (by decide : Asc "root")
    · exact r.n
  · split
    · exact r.msg
    · split
      · exact r.lv
      · unfold lvName
        cases q : (mdlP pl).nm.lookup lv with
        | some y => exact foldI_asc pl.words nmB (fun z hz => wx_asc _ (ok.words z hz).2) nmB_asc _ (lookup_mem' q)
        | none => exact asc_app (by decide : Asc "Level ") r.lv
theorem told_asc {pl : Pl} (ok : PlOk 20 20 pl) {n msg : Str} {lv : Int} (rk : RecOk n lv msg) (r : RecAsc n lv msg) : (told (mdlP pl) n lv msg).length ≤ 4 ∧ ∀ p ∈ told (mdlP pl) n lv msg, Asc p.1 ∧ Asc p.2 ∧ p.1.length ≤ 10 ∧ p.2.length ≤ 42336 := by
  have okm := mok_pl ok
  obtain ⟨wlen, wok⟩ := wr_ok (lv := lv) okm rk.nm
  rw [told_T (lv := lv) (msg := msg) okm rk.nm]
  generalize wrX (mdlP pl) n lv = hs at wlen wok
  obtain ⟨snd, smem, slen⟩ := strms_ok _ hs rfl
  have hv : ∀ x, (valT (mdlP pl) n lv msg x).length ≤ 50 := fun x => val_len okm rk
  have ha : ∀ x, Asc (valT (mdlP pl) n lv msg x) := val_asc ok r
  have s64 : (strms hs).length ≤ 4 := nodup_leU (l2 := streamMenu) snd fun s hs' => by
    obtain ⟨h, hh, rfl⟩ := (smem s).mp hs'
    exact (wok h hh).stream
  refine ⟨Nat.le_trans (List.length_filter_le ..) (by rw [List.length_map, (srt_perm _).length_eq]; exact s64), fun p hp => ?_⟩
  obtain ⟨s, hs', rfl⟩ := List.mem_map.mp (List.mem_filter.mp hp).1
  obtain ⟨h0, hh0, rfl⟩ := (smem s).mp ((srt_perm _).mem_iff.mp hs')
  have st := stream_asc _ (wok h0 hh0).stream
  have line : ∀ h ∈ hs, Asc (lineT (valT (mdlP pl) n lv msg) h) ∧ (lineT (valT (mdlP pl) n lv msg) h).length ≤ 504 := fun h hh => by
    have o := wok h hh
    have pk : (partsT h.fmt).length ≤ 10 ∧ ∀ p ∈ partsT h.fmt, p.ok := by
      cases e : h.fmt with
      | none => exact ⟨by decide, fun p hp => by rw [List.mem_singleton.mp hp]; exact msg_mark⟩
      | some ps => exact o.fmt ps e
    have pa : ∀ x ∈ (partsT h.fmt).map (fpT (valT (mdlP pl) n lv msg)), Asc x ∧ x.length ≤ 50 := fun x hx => by
      obtain ⟨p, hp, rfl⟩ := List.mem_map.mp hx
      refine ⟨?_, fpT_len hv (pk.2 p hp)⟩
      cases p with
      | txt y => exact txt_asc y (pk.2 _ hp)
      | mark y => exact ha y
    have z := sum_le_mul (b := 50) (xs := (partsT h.fmt).map (fpT (valT (mdlP pl) n lv msg))) fun x hx => (pa x hx).2
    rw [List.length_map] at z
    have y := term_len _ o.term
    unfold lineT
    refine ⟨asc_app (asc_cat fun x hx => (pa x hx).1) (end_asc _ o.term), ?_⟩
    rw [str_len_app, catT_len]
    have := pk.1
    omega
  refine ⟨st.1, asc_cat fun x hx => ?_, st.2, ?_⟩
  · obtain ⟨h, hh, rfl⟩ := List.mem_map.mp hx
    exact (line h (List.mem_filter.mp hh).1).1
  · show (catT _).length ≤ _
    rw [catT_len]
    have z := sum_le_mul (b := 504) (xs := (hs.filter fun h => decide (h.stream = h0.stream)).map (lineT (valT (mdlP pl) n lv msg))) fun x hx => by
      obtain ⟨h, hh, rfl⟩ := List.mem_map.mp hx
      exact (line h (List.mem_filter.mp hh).1).2
    have y := List.length_filter_le (fun h : HX => decide (h.stream = h0.stream)) hs
    rw [List.length_map] at z
    have : 504 * (hs.filter fun h => decide (h.stream = h0.stream)).length ≤ 504 * 84 := Nat.mul_le_mul_left _ (by omega)
    omega
theorem rep_told {pl : Pl} (ok : PlOk 20 20 pl) {n msg : Str} {lv : Int} (rk : RecOk n lv msg) (r : RecAsc n lv msg) : Repd (dT (told (mdlP pl) n lv msg)) 1693895 := by
  obtain ⟨h1, h2⟩ := told_asc ok rk r
  exact rep_dT (la := 10) (lb := 42336) (k := 4) h2 h1
end Ry
namespace Ry
open PySem PySem.Spec PyProof.Rows L2 He RyH
open C8 (pss_cut tCut Cal Met Mak pe_c pe_mk pe_mt pe_mt0 pe_gc)
theorem live_of {H : Hp} {b : Addr} {o : HO} (h : H b = some o) : H b ≠ none := by
  rw [h]
  exact fun z => nomatch z
theorem PlanAt.live {N N' : Addr → Prop} {H : Hp} {p : Addr} {pl : Pl} (x : PlanAt N H p pl) (hn : ∀ b, N b → H b ≠ none → N' b) : PlanAt N' H p pl := by
  obtain ⟨hs, ws, lg, hps, wvs, rows, W⟩ := x
  have l : ∀ {a : Addr} {o : HO}, H a = some o → H a ≠ none := fun e => live_of e
  refine ⟨hs, ws, lg, hps, wvs, rows, hn _ W.np (l W.at_), hn _ W.nh (l W.hsE), hn _ W.nw (l W.wsE), hn _ W.nl (l W.lgE), W.d1, W.d2, W.d3, W.d4, W.d5, W.d6, W.at_, W.hsE, ?_, W.wsE, ?_, W.lgE, ?_⟩
  · exact Paired.impl W.hsP fun _ _ z => z.to fun b nb lb => ⟨hn _ nb.1 lb, nb.2⟩
  · refine Paired.impl W.wsP fun _ _ z => ?_
    obtain ⟨t, e, nt, q⟩ := z
    exact ⟨t, e, ⟨hn _ nt.1 (l q), nt.2⟩, q⟩
  · exact Paired.impl W.lgP fun _ _ z => ⟨z.1, z.2.to fun b nb lb => ⟨hn _ nb.1 lb, nb.2⟩⟩
/-- the stream changes, the yard stays -/
theorem YardW.st {K : PySem.W.Frag} {tg : Addr → Option Tg} {Y : YD} {H H' : Hp} {s l : Addr} {n : Nat} (yw : YardW K H tg Y) (k : Kp (onSt s l) H H') (h : StAt H s l n) (ts : tg s = none) (tl : tg l = none) : YardW K H' tg Y := by
  refine yw.kpu fun b o e z => k b o e fun m => ?_
  have hb : tg b = none := by
    rcases m with m | m
    · rw [m]; exact ts
    · rw [m]; exact tl
  refine z hb ?_
  obtain ⟨ns, a, c, e', h1, h2, _⟩ := h
  rcases m with m | m
  · rw [m, h1] at e
    cases e
    exact True.intro
  · rw [m, h2] at e
    cases e
    exact True.intro
theorem pl_20 {pl : Pl} (h : PlOk 6 5 pl) : PlOk 20 20 pl := ⟨h.handlers, Nat.le_trans h.fewH (by decide), h.bar, h.words, h.fewW, h.loggers, h.nd, h.root, Nat.le_trans h.fewL (by decide)⟩
/-! ### records -/
def lvMenu : List Int := [1, 4, 5, 6, 7, 9, 10, 11, 17, 19, 20, 21, 25, 29, 30, 31, 32, 40, 50, 51, 99, 1234]
def msgMenu : List Str := ["", "m", "name", "zz"]
theorem lvM_ok : ∀ i ∈ lvMenu, (i.natAbs.log2 < 1000 ∧ (toString i : Str).length ≤ 20) ∧ Asc (toString i) := by decide +kernel
theorem recM_len : ∀ n ∈ recMenu, n.length ≤ 50 ∧ Asc n := by decide +kernel
theorem msgM_len : ∀ n ∈ msgMenu, n.length ≤ 50 ∧ Asc n := by decide +kernel
theorem rec_ok {n msg : Str} {lv : Int} (hn : n ∈ recMenu) (hl : lv ∈ lvMenu) (hm : msg ∈ msgMenu) : RecOk n lv msg ∧ RecAsc n lv msg := by
  have a := lvM_ok lv hl
  have b := recM_len n hn
  have c := msgM_len msg hm
  exact ⟨⟨nm_rec hn, b.1, c.1, ⟨a.1.1, Nat.le_trans a.1.2 (by decide)⟩, a.1.2⟩, ⟨b.2, a.2, c.2⟩⟩
def spRecord : Sp := fun vs H Q _ => ∃ (s l : Addr) (n : Nat), vs = [.ref s] ∧ StAt H s l n ∧ n + 10 < Bud ∧
  ∀ t nm lv msg H', nm ∈ recMenu → lv ∈ lvMenu → msg ∈ msgMenu → H' t = some (.tup [.str nm, .int lv, .str msg]) → H t = none → StAt H' s l (n + 3) → Kp (onSt s l) H H' → Q (.ref t) H'
theorem TAt.st {H H' : Hp} {s l : Addr} {n : Nat} {v : V} {p : Str × Str} (h : TAt H v p) (k : Kp (onSt s l) H H') (st : StAt H s l n) : TAt H' v p := by
  obtain ⟨a, e, q⟩ := h
  refine ⟨a, e, k _ _ q fun m => ?_⟩
  obtain ⟨ns, x, c, e', h1, h2, _⟩ := st
  rcases m with m | m
  · rw [m, h1] at q; cases q
  · rw [m, h2] at q; cases q
def spLaw (K : PySem.W.Frag) : Sp := fun vs H Q _ => ∃ (a : Addr) (ns : List Int), vs = [.ref a] ∧ SqL K H a (ns.map V.int) ∧ ns.length ≤ 63 ∧ ∀ H', Q (.bl true) H'
section
variable {P : Program} {w : World} {K : PySem.W.Frag} {mg : Str → Option Value} {base : Heap}
theorem sc_law_record : FnScope ["_law_stream", "_law_names_here", "_law_level_here"] ["_law_stream"] (defScope s_law_record) := ⟨rfl, rfl, rfl, by decide +kernel, rfl, by decide +kernel, by decide +kernel⟩
theorem cal_law_record (T : Txt w K mg) : Cal P w K mg base 3 "_law_record" (spRecord) [] := by
  obtain ⟨fd, F⟩ := T.df_law_record
  have c_law_pick := cal_law_pick (P := P) (base := base) T
  refine ⟨_, fd, ["_law_stream"], [], F.ok sc_law_record (fun vs H Q E h => ?_) (fun cdv A outer s H vs Q E hr h => ?_), T.m_law_record, F.kp, F.bindsN (fun _ _ _ _ _ _ us hl => match us, hl with | [_], _ => rfl), .nil⟩
  · obtain ⟨_, _, _, rfl, _⟩ := h
    rfl
  · obtain ⟨s, l, n, rfl, hst, hb, k⟩ := h
    refine ⟨_, PSs.nox (pss_cons (ps_set (i := 1) sc_law_record.nd rfl (Or.inl rfl) (pe_lst (pa_cons pe_str (pa_cons pe_str (pa_cons pe_str (pa_cons pe_str (pa_cons pe_str (pa_cons pe_str (pa_cons pe_str (pa_cons pe_str (pa_cons pe_str (pa_cons pe_str (pa_cons pe_str (pa_cons pe_str (pa_cons pe_str (pa_cons pe_str (pa_cons pe_str (pa_cons pe_str pa_nil))))))))))))))))))
      (pss_cons (ps_set (i := 2) sc_law_record.nd rfl (Or.inl rfl) (pe_c c_law_pick hr (by decide) (by rfl) (pa_cons (pv 0) (pa_cons (pe_lst (pa_cons pe_int (pa_cons pe_int (pa_cons pe_int (pa_cons pe_int (pa_cons pe_int (pa_cons pe_int (pa_cons pe_int (pa_cons pe_int (pa_cons pe_int (pa_cons pe_int (pa_cons pe_int (pa_cons pe_int (pa_cons pe_int (pa_cons pe_int (pa_cons pe_int (pa_cons pe_int (pa_cons pe_int (pa_cons pe_int (pa_cons pe_int (pa_cons pe_int (pa_cons pe_int (pa_cons pe_int pa_nil))))))))))))))))))))))) pa_nil))))
      (pss_one (ps_ret (pe_tup (pa_cons (pe_c c_law_pick hr (by decide) (by rfl) (pa_cons (pv 0) (pa_cons (pv 1) pa_nil))) (pa_cons (pv 2) (pa_cons (pe_c c_law_pick hr (by decide) (by rfl) (pa_cons (pv 0) (pa_cons (pe_lst (pa_cons pe_str (pa_cons pe_str (pa_cons pe_str (pa_cons pe_str pa_nil))))) pa_nil))) pa_nil)))))))), ?_⟩
    refine ⟨ssz rfl, fun p hp => ?_⟩
    have hst1 := hst.new (o := .lst (recMenu.map V.str)) hp
    have k1 : Kp (onSt s l) H (L2.upd H p (.lst (recMenu.map V.str))) := Kp.new hp
    have ep := upd_same (H := H) (a := p) (o := .lst (recMenu.map V.str))
    have op := hst.off hp
    refine ⟨_, rfl, ssz rfl, fun p2 hp2 => ?_⟩
    have k2 := k1.trans (Kp.new (M := onSt s l) (o := .lst (lvMenu.map V.int)) hp2)
    have ep2 := upd_at (p := p2) (o := .lst (lvMenu.map V.int)) ep hp2
    refine ⟨s, p2, l, _, lvMenu.map V.int, rfl, hst1.new hp2, by simp only [Bud] at hb ⊢; omega, hst1.off hp2, upd_same, by decide, by decide, fun x H3 hx hst3 k3 => ?_⟩
    obtain ⟨lv, hlv, rfl⟩ := List.mem_map.mp hx
    have k13 := k2.trans k3
    have ep3 := k3 _ _ ep2 op
    refine ⟨_, rfl, _, rfl, s, p, l, _, recMenu.map V.str, rfl, hst3, by simp only [Bud] at hb ⊢; omega, op, ep3, by decide, by decide, fun x2 H4 hx2 hst4 k4 => ?_⟩
    obtain ⟨nm, hnm, rfl⟩ := List.mem_map.mp hx2
    have k14 := k13.trans k4
    refine ⟨_, rfl, _, rfl, ssz rfl, fun p3 hp3 => ?_⟩
    have k15 := k14.trans (Kp.new (M := onSt s l) (o := .lst (msgMenu.map V.str)) hp3)
    refine ⟨s, p3, l, _, msgMenu.map V.str, rfl, hst4.new hp3, by simp only [Bud] at hb ⊢; omega, hst4.off hp3, upd_same, by decide, by decide, fun x3 H5 hx3 hst5 k5 => ?_⟩
    obtain ⟨msg, hmsg, rfl⟩ := List.mem_map.mp hx3
    have k16 := k15.trans k5
    refine ⟨ssz rfl, fun t ht => ?_⟩
    exact k t nm lv msg _ hnm hlv hmsg upd_same (k16.was hst5 ht) ((hst5.new ht).mono (by omega)) (k16.trans (Kp.new ht))

theorem sc_law : FnScope ["_law_script", "_law_stream", "_law_turn", "_law_plan_here", "_law_yard_here", "_law_k", "_law_record_here", "_law_due", "_law_passed"] ["_law_script"] (defScope s_law) := ⟨rfl, rfl, rfl, by decide +kernel, rfl, by decide +kernel, by decide +kernel⟩
theorem ok_law {f : Addr} {fd : FuncData} (T : Txt w K mg) (F : FunD K "law" "law" (defArgs s_law) (defBody s_law) (defScope s_law) [] [] f fd) : RyG.LawRun P w K mg base CX0 f fd ["_law_script"] (spLaw K) := by
  have c_law_plan := cal_law_plan (P := P) (base := base) T
  have c_law_yard := cal_law_yard (P := P) (base := base) T
  have c_law_record := cal_law_record (P := P) (base := base) T
  have c_law_told := cal_law_told (P := P) (base := base) T
  have c_law_draw := cal_law_draw (P := P) (base := base) T
  have c_outcome := cal_outcome (P := P) (base := base) T
  refine RyG.run_of (k := 8) F sc_law (fun vs H Q E h => ?_) ⟨rfl, by decide, by decide⟩ (fun cdv s H vs Q E hr h => ?_)
  · obtain ⟨_, _, rfl, _⟩ := h
    rfl
  · obtain ⟨a, ns, rfl, ha, hns, k⟩ := h
    refine ⟨_, PSs.nox (pss_cons (ps_set (i := 1) sc_law.nd rfl (Or.inl rfl) (pe_lst (pa_cons (pe_callTy (T := "list") call_list_of (by rfl) T.f_list (by decide +kernel) (pa_cons (pv 0) pa_nil)) (pa_cons pe_int (pa_cons pe_int (pa_cons pe_int pa_nil))))))
      (pss_cons (ps_for PassesOwn.never rfl (pi_range1 (by rfl) T.f_range (pa_cons pe_int pa_nil)) (pg_name (i := 2) sc_law.nd rfl (Or.inl rfl))
        (pss_cons (ps_set (i := 3) sc_law.nd rfl (Or.inl rfl) (pe_c c_law_plan hr (by decide) (by rfl) (pa_cons (pv 1) (pa_cons pe_int (pa_cons pe_int pa_nil)))))
        (pss_cons (ps_set (i := 4) sc_law.nd rfl (Or.inl rfl) (pe_c c_law_yard hr (by decide) (by rfl) (pa_cons (pv 3) pa_nil)))
        (pss_one (ps_for PassesOwn.never rfl (pi_range1 (by rfl) T.f_range (pa_cons pe_int pa_nil)) (pg_name (i := 5) sc_law.nd rfl (Or.inl rfl))
          (pss_cons (ps_set (i := 6) sc_law.nd rfl (Or.inl rfl) (pe_c c_law_record hr (by decide) (by rfl) (pa_cons (pv 1) pa_nil)))
          (pss_cons (ps_set (i := 7) sc_law.nd rfl (Or.inl rfl) (pe_c c_law_told hr (by decide) (by rfl) (pa_cons (pv 3) (pa_cons (pe_ix ix_tup (pv 6) pe_int (fun _ _ => rfl)) (pa_cons (pe_ix ix_tup (pv 6) pe_int (fun _ _ => rfl)) (pa_cons (pe_ix ix_tup (pv 6) pe_int (fun _ _ => rfl)) pa_nil))))))
          (pss_cons (ps_set (i := 8) sc_law.nd rfl (Or.inl rfl) (RyT.pe_cutE (pe_ifExp (pt_cmpR op_eq (pe_c c_law_draw hr (by decide) (by rfl) (pa_cons (pv 1) (pa_cons pe_int pa_nil))) pe_int (nomark _)) (pe_callTy (T := "list") call_list_of (by rfl) T.f_list (by decide +kernel) (pa_cons (pv 6) pa_nil)) (pv 6))))
          (pss_one (ps_if (pt_cmpR op_ne (pe_callB (RyG.cr_reprD (by rfl) hr.units) (by rfl) T.f_repr (by decide +kernel) (pa_cons (pe_lst (pa_cons (pe_c c_outcome hr (by decide) (by rfl) (pa_cons (pv 4) (pa_cons (pv 8) pa_nil))) (pa_cons (pe_c c_outcome hr (by decide) (by rfl) (pa_cons (pv 4) (pa_cons (pv 6) pa_nil))) pa_nil))) pa_nil)) (pe_callB (RyG.cr_reprD (by rfl) hr.units) (by rfl) T.f_repr (by decide +kernel) (pa_cons (pe_lst (pa_cons (pv 7) (pa_cons (pv 7) pa_nil))) pa_nil)) (nomark _))
            (pss_one (ps_ret pe_bl))
            pss_nil))))))))))
      (pss_one (ps_ret pe_bl)))), ?_⟩
    refine ⟨_, rfl, a, _, rfl, .inl ha, fun l hl => ⟨ssz rfl, fun s hs => ?_⟩⟩
    have hst1 : StAt (L2.upd (L2.upd H l (.lst (ns.map V.int))) s (.lst [.ref l, .int 0, .int 0, .int 0])) s l (0 * 10000) := ⟨ns, 0, 0, 0, upd_same, upd_at upd_same hs, hns, by decide, by decide, by decide, by decide, by decide⟩
    generalize L2.upd (L2.upd H l (.lst (ns.map V.int))) s (.lst [.ref l, .int 0, .int 0, .int 0]) = H1 at hst1 ⊢
    refine ⟨4, rfl, by decide, by decide, ?_⟩
    refine for_it walk_range (fun i σ' H' => ∃ (o2 o3 o4 o5 o6 o7 o8 : Option V), σ' = [some (.ref a), some (.ref s), o2, o3, o4, o5, o6, o7, o8] ∧ StAt H' s l (i * 10000)) ⟨_, _, _, _, _, _, _, rfl, hst1⟩ (fun _ _ _ _ _ => True.intro) ?_ ?_
    · rintro i x σ' H0 H0' hi ⟨o2, o3, o4, o5, o6, o7, o8, rfl, hst0⟩ ⟨rfl, rfl⟩
      clear hst1
      refine ⟨_, rfl, s, l, _, 6, 5, rfl, hst0, by simp only [Bud]; omega, by decide, by decide, fun p pl H2 hpl hP hst2 k2 => ?_⟩
      have okp := pl_20 hpl
      have hfs : ∀ b, Fre H0' b → ¬ onSt s l b := fun b hb => hst0.off hb
      obtain ⟨sv, es⟩ := hst2.s_some
      obtain ⟨lv0, el⟩ := hst2.l_some
      refine ⟨_, rfl, p, pl, _, 6, 5, rfl, hP, hpl, by decide, by decide, fun tg Y ks H3 yw fit fk => ?_⟩
      have ts := (fk _ _ es).2
      have tl := (fk _ _ el).2
      have s3 := fk.sm
      have hst3 := hst2.kp (Kp.same (M := fun _ => False) s3) (fun z => z) (fun z => z)
      have hP3 : PlanAt (Fre H0') H3 p pl := hP.kp (M := fun _ => False) (Kp.same s3) fun _ h => ⟨h, fun z => z⟩
      refine ⟨12, rfl, by decide, by decide, ?_⟩
      refine for_it walk_range (fun j σ' H' => ∃ (o5 o6 o7 o8 : Option V), σ' = [some (.ref a), some (.ref s), some (.int (0 + (i : Nat))), some (.ref p), some (.ref Y.y), o5, o6, o7, o8] ∧ StAt H' s l (i * 10000 + 3000 + 10 * j) ∧ PlanAt (Fre H0') H' p pl ∧ YardW K H' tg Y) ⟨_, _, _, _, rfl, hst3, hP3, yw⟩ (fun _ _ _ _ _ => True.intro) ?_ ?_
      · rintro j x σ' H4 H4' hj ⟨o5, o6, o7, o8, rfl, hst4, hP4, yw4⟩ ⟨rfl, rfl⟩
        refine ⟨_, rfl, s, l, _, rfl, hst4, by simp only [Bud]; omega, fun t nm lv msg H5 hnm hlv hmsg et tn hst5 k5 => ?_⟩
        obtain ⟨rk, ra⟩ := rec_ok hnm hlv hmsg
        have hP5 : PlanAt (Fre H0') H5 p pl := hP4.kp k5 fun b hb => ⟨hb, hfs b hb⟩
        have yw5 := yw4.st k5 hst4 ts tl
        have plt : PlT H5 p pl := hP5.kp (M := fun _ => False) (Kp.same Same.rfl') fun _ _ => ⟨True.intro, fun z => z⟩
        refine ⟨_, rfl, _, rfl, t, _, _, _, rfl, rfl, SqT.of et, atI_nat (j := 0) rfl, _, rfl, t, _, _, _, rfl, rfl, SqT.of et, atI_nat (j := 1) rfl, _, rfl, t, _, _, _, rfl, rfl, SqT.of et, atI_nat (j := 2) rfl, ?_⟩
        refine ⟨p, pl, nm, lv, msg, rfl, plt, okp, rk, fun q ws H6 s6 qn eq pw => ?_⟩
        have hst6 := hst5.kp (Kp.same (M := fun _ => False) s6) (fun z => z) (fun z => z)
        have hP6 : PlanAt (Fre H0') H6 p pl := hP5.kp (M := fun _ => False) (Kp.same s6) fun _ h => ⟨h, fun z => z⟩
        have yw6 := yw5.same s6
        have et6 := s6 _ _ et
        have qo : ¬ onSt s l q := hst5.off qn
        have to : ¬ onSt s l t := hst4.off tn
        refine ⟨fun u H' => ∃ r, u = .ref r ∧ SqA H' r [.str nm, .int lv, .str msg] ∧ StAt H' s l (i * 10000 + 3000 + 10 * j + 4) ∧ H' t = some (.tup [.str nm, .int lv, .str msg]) ∧ H' q = some (.lst ws) ∧ Paired (TAt H') ws (told (mdlP pl) nm lv msg) ∧ PlanAt (Fre H0') H' p pl ∧ YardW K H' tg Y, ?_, ?_⟩
        · refine ⟨_, rfl, s, l, 3, _, rfl, hst6, by omega, by decide, by decide, fun d H7 hd0 hd1 hst7 k7 => ⟨rfl, _, rfl, ?_⟩⟩
          have et7 := k7 _ _ et6 to
          have eq7 := k7 _ _ eq qo
          have pw7 := Paired.impl pw fun _ _ z => TAt.st z k7 hst6
          have hP7 : PlanAt (Fre H0') H7 p pl := hP6.kp k7 fun b hb => ⟨hb, hfs b hb⟩
          have yw7 := yw6.st k7 hst6 ts tl
          refine ite2 (fun _ => ?_) (fun _ => ?_)
          · refine ⟨_, rfl, t, _, rfl, .inr (SqT.of et7), fun r hr => ?_⟩
            have s8 := Same.nw (o := .lst [V.str nm, V.int lv, V.str msg]) hr
            exact ⟨r, rfl, .inl upd_same, (hst7.new hr).mono (by omega), s8 _ _ et7, s8 _ _ eq7, Paired.impl pw7 fun _ _ z => z.same s8, hP7.kp (M := fun _ => False) (Kp.same s8) fun _ h => ⟨h, fun z => z⟩, yw7.same s8⟩
          · exact ⟨_, rfl, t, rfl, .inr et7, hst7.mono (by omega), et7, eq7, pw7, hP7, yw7⟩
        rintro _ H7 ⟨r, rfl, er, hst7, et7, eq7, pw7, hP7, yw7⟩
        have okm := mok_pl okp
        have hyx := yw7.x fit okp
        have rep := rep_told okp rk ra
        have rep2 := rep_two rep rep
        refine ⟨_, rfl, _, rfl, Y.y, adY Y, mdlP pl, r, nm, lv, msg, rfl, hyx, okm, er, rk, fun q1 ws1 H8 s8 qn1 eq1 pw1 => ?_⟩
        refine ⟨_, rfl, _, rfl, Y.y, adY Y, mdlP pl, t, nm, lv, msg, rfl, hyx.same s8, okm, .inr (s8 _ _ et7), rk, fun q2 ws2 H9 s9 qn2 eq2 pw2 => ?_⟩
        have s89 := Same.tr s8 s9
        refine ⟨ssz rfl, fun L hL => ?_⟩
        have sL := Same.nw (o := .lst [V.ref q1, V.ref q2]) hL
        have s9L := Same.tr s9 sL
        refine ⟨L, .list [dT (told (mdlP pl) nm lv msg), dT (told (mdlP pl) nm lv msg)], rfl, Dp.lst (SqL.of upd_same) (.cons (dpT (s9L _ _ eq1) (Paired.impl pw1 fun _ _ z => z.same s9L)) (.cons (dpT (sL _ _ eq2) (Paired.impl pw2 fun _ _ z => z.same sL)) .nil)), rep2.1, rep2.2.1, rep2.2.2.1, Nat.le_trans rep2.2.2.2 (by rw [sizeLine_eq]; decide), ?_⟩
        have s8L := Same.tr s8 s9L
        generalize L2.upd H9 L _ = H10 at s8L ⊢
        refine ⟨_, rfl, _, rfl, ssz rfl, fun LB hLB => ?_⟩
        have sB := Same.nw (o := .lst [V.ref q, V.ref q]) hLB
        have s8B := Same.tr s8L sB
        have dq : Dp K (L2.upd H10 LB (.lst [V.ref q, V.ref q])) (.ref q) (dT (told (mdlP pl) nm lv msg)) := dpT (s8B _ _ eq7) (Paired.impl pw7 fun _ _ z => z.same s8B)
        refine ⟨LB, .list [dT (told (mdlP pl) nm lv msg), dT (told (mdlP pl) nm lv msg)], rfl, Dp.lst (SqL.of upd_same) (.cons dq (.cons dq .nil)), rep2.1, rep2.2.1, rep2.2.2.1, Nat.le_trans rep2.2.2.2 (by rw [sizeLine_eq]; decide), ?_⟩
        refine ⟨rfl, _, rfl, ?_⟩
        refine Eq.mpr (if_neg (by simp)) ?_
        exact ⟨_, _, _, _, rfl, (hst7.kp (Kp.same (M := fun _ => False) s8B) (fun z => z) (fun z => z)).mono (by omega), hP7.kp (M := fun _ => False) (Kp.same s8B) fun _ h => ⟨h, fun z => z⟩, yw7.same s8B⟩
      · rintro σ' H4 ⟨o5, o6, o7, o8, rfl, hst4, _⟩
        exact ⟨_, _, _, _, _, _, _, rfl, hst4.mono (by omega)⟩
    · rintro σ' H' ⟨o2, o3, o4, o5, o6, o7, o8, rfl, _⟩
      exact k H'

end
end Ry
namespace Ry
open PySem PySem.Spec PyProof.Rows L2 He RyH
/-! ### what the end asks -/
theorem lawAt {w : World} {mg : Str → Option Value} {fa_ : Addr} {h : Heap} {K : PySem.W.Frag} (KX : K.In h) (G : h.Ns mainGlobals mg) (hmg : mg "law" = some (.ref fa_)) (c : He.SaysX fa fn ts tf ex w h K) {P : Program} :
    ∃ (K : PySem.W.Frag) (fd : FuncData) (sp : Sp), K.In h ∧ (∀ (s : Shared) (u : Value), BindsTo s fd ⟨[u], []⟩ [("_law_script", u)]) ∧
      (∀ (H : Hp) (a : Addr) (ns : List Int), ns.length ≤ 63 → Only H → SqL K H a (ns.map V.int) → sp [.ref a] H (fun v _ => v = .bl true) fun _ _ _ => False) ∧ ∀ base : Heap, K.In base → base.Ns mainGlobals mg → RyG.LawRun P w K mg base C8.CX0 fa_ fd ["_law_script"] sp := by
  have T : Txt w K mg := ⟨c.t, c.more, ⟨h, KX, G⟩⟩
  obtain ⟨fd, F⟩ := T.df_law
  have e := hmg.symm.trans T.m_law
  cases e
  have hb := FunD.bindsA (ps := ["_law_script"]) F fun _ _ _ _ _ _ us hl => match us, hl with | [_], _ => rfl
  exact ⟨K, fd, spLaw K, KX, fun s u => hb s [u] rfl, fun H a ns hl _ hS => ⟨a, ns, rfl, hS, hl, fun _ => rfl⟩, fun base _ _ => ok_law T F⟩
end Ry
set_option maxHeartbeats 0
open PySem PySem.W PySem.Calls PyProof.Rows
theorem PySem.Challenge.cw_recordyard_k80_outcomes_holds : PySem.Challenge.rw_recordyard_k80_outcomes.Holds := by
  w_on; o_law
  refine HandSHeadRun.head_any (r := OpenLaw.row PySem.Challenge.rw_recordyard_k80_outcomes) (q := Ry.qv) (H := Ry.hk) (ob := Ry.ob) (M := 40000) (loose := Ry.names) (d := HandSHeadRun.topDef (OpenLaw.row PySem.Challenge.rw_recordyard_k80_outcomes).prog Ry.lawPlace) (kwd := []) Ry.ob_eq
    (by kernel_rfl) (fun s => by kernel_rfl) Ry.run (by kernel_rfl) (by kernel_rfl) (by kernel_rfl) (by rfl) (by first | assumption | decide +kernel) (by decide +kernel) ⟨rfl, rfl, rfl, rfl, rfl, by decide +kernel⟩ ?hw ?hc
  case hw => w_witness2
  case hc =>
    refine RyG.walk_run (l := PySem.Challenge.rw_recordyard_k80_outcomes) (n := 63) (CX := C8.CX0) (x := "_law_script") rfl (by decide) (by kernel_rfl) ?F (fun _ _ _ _ z => z)
    intro w mg fa h Y G hmg0
    obtain ⟨K, KX, c⟩ := Y
    have hmg : mg ("law" : PySem.Str) = some (.ref fa) := by
      have e : (HandSHeadRun.topDef (OpenLaw.row PySem.Challenge.rw_recordyard_k80_outcomes).prog Ry.lawPlace).name = ("law" : PySem.Str) := by kernel_rfl
      rw [← e]
      exact hmg0
    exact Ry.lawAt KX G hmg c
