import PyProof.Rows.All
import Wide.All
import OpenK.AllK
import Wide.FinOn
import PyProof.EqAt
import PyProof.EqKinds
import PyProof.TupleCall
import HandS.ForMost
import HandS.ForExc
import HandS.Wide
import HandS.IsInst
import HandS.Evl
import HandS.Zip
import HandS.Flow
import HandS.TupAny
import HandS.Walk
import HandS.Style
import PyProof.StrBlock2
import PyProof.ReprLen
import PyProof.FitsInt
import HandS.SetBool
import HandS.TupSets
import HandS.Deep
import KE.GoesMore
import KE.GoesZip
import KE.GoesEnum
import HandS.DictComp
import HandS.ForDict
import PyProof.P3In
import HandS.Codes
import HandS.ExcInit
import HandS.ExcOwn
import HandS.ExcField
import HandS.TryOnly
import HandS.TryMany
import KE.KExcIs
import HandS.SortInts
import HandS.SortRule
import HandS.More
import HandS.Flt
import HandS.Small
import KE.KStateDown
import HandS.Base
import HandS.Words
import HandS.Call
import HandS.Exc
import HandS.Defaults
import HandS.Head0
import HandS.Head1
import HandS.Head2
import HandS.HeadEnd
import HandS.HeadHook1
import HandS.HeadHook2
import KE.SortData
import HandS.Conv
import KE.DataMinMax
import HandS.Strs
import HandS.DictTup
import KE.KDictOf
import KE.KDictCopyH
import KE.KDictPairs
import HandS.NoneIn
import PyProof.Rows.Chain
import HandS.ExcValue
import PyProof.StrOps2
import KE.KRevSl
import KE.KDictDisplayH
import KE.DataAny
import KE.DataFind
import KE.DataCmp
import HandS.CallSlots
import HandS.FStr
import HandS.Text
import HandS.Replace
import PyProof.StrLawsFirst
import PyProof.StrLawsRepr
import PySem.Challenge.RW_leadswitch_k92_whole_texts_there_and_bac
set_option Elab.async false
set_option linter.all false
set_option maxRecDepth 100000
set_option maxHeartbeats 4000000
namespace R
open PySem PySem.Spec PyProof.Rows L2
def mapW (K : PySem.W.Frag) : List He.DefD → List He.FnW
 | [] => []
 | d :: ds => He.fnW K d.at_ :: mapW K ds
def dueW : List He.DefD → List He.FnW
 | [] => []
 | d :: ds => d.val :: dueW ds
theorem mapW_eq (K : PySem.W.Frag) : ∀ ds : List He.DefD, mapW K ds = ds.map fun d => He.fnW K d.at_
 | [] => rfl
 | d :: ds => by rw [mapW, mapW_eq K ds]; rfl
theorem dueW_eq : ∀ ds : List He.DefD, dueW ds = ds.map He.DefD.val
 | [] => rfl
 | d :: ds => by rw [dueW, dueW_eq ds]; rfl
abbrev AlZ : Type := Bool × Bool × Bool × List He.FnW
def obsZ (fa : List He.Fa) (fn : List He.DefD) (ex : PySem.W.Frag → List Bool) (K : PySem.W.Frag) : AlZ := (fa.all fun f => f.ok K, fn.all fun d => d.ok K, (ex K).all id, mapW K fn)
def valZ (fn : List He.DefD) : AlZ := (true, true, true, dueW fn)
structure SaysZ (fa : List He.Fa) (fn : List He.DefD) (ex : PySem.W.Frag → List Bool) (K : PySem.W.Frag) : Prop where
 d : He.SaysD fa fn K
 x : (ex K).all id = true
theorem saysZ_of {fa : List He.Fa} {fn : List He.DefD} {ex : PySem.W.Frag → List Bool} {K : PySem.W.Frag} (e : obsZ fa fn ex K = valZ fn) : SaysZ fa fn ex K := by
 unfold obsZ valZ at e
 simp only [Prod.mk.injEq] at e
 obtain ⟨e1, e2, e3, e4⟩ := e
 refine ⟨?_, e3⟩
 unfold He.SaysD He.obsD He.valD
 rw [e1, e2, ← mapW_eq, ← dueW_eq, e4]
 rfl
def refZ (o : Obj) : List Addr := match o.data with
 | .dict es _ => es.toList.flatMap fun e => He.refV e.val
 | .func fd => He.refV fd.code
 | .cls cd => [cd.ns]
 | _ => []
def lvlZ (g : Addr → Option Obj) (l : List Addr) : List Addr := l.flatMap fun a => match g a with
 | some o => refZ o
 | none => []
def asZ (g : Addr → Option Obj) : Nat → List Addr → List Addr
 | 0, l => l
 | n + 1, l => l ++ asZ g n (lvlZ g l)
def forceK {α : Type} (g : Addr → Option Obj) : List Addr → (PySem.W.Frag → α) → α
 | [], k => k []
 | a :: r, k => HandSHeadRun.frNat a fun a => match g a with
  | some o => forceK g r fun K => k ((a, o) :: K)
  | none => forceK g r k
theorem forceK_eq {α : Type} (g : Addr → Option Obj) : ∀ (as : List Addr) (k : PySem.W.Frag → α), forceK g as k = k (He.frG g as)
 | [], k => rfl
 | a :: r, k => by
  rw [forceK, HandSHeadRun.frNat_eq]
  unfold He.frG
  cases e : g a with
  | none => simp only [List.filterMap_cons, e, Option.map_none]; exact forceK_eq g r k
  | some o => simp only [List.filterMap_cons, e, Option.map_some]; exact forceK_eq g r _
def hookZ (fa : List He.Fa) (fn : List He.DefD) (ex : PySem.W.Frag → List Bool) : PySem.W.Hook where
 α := AlZ
 obs := fun s => obsZ fa fn ex (He.frG s.heap.get? (cStatics :: asZ s.heap.get? 4 [mainGlobals]))
 val := fun _ => valZ fn
 says := fun _ h => ∃ K : PySem.W.Frag, K.In h ∧ SaysZ fa fn ex K
 of := fun _ _ e => ⟨_, He.frG_in, saysZ_of e⟩
 keeps := fun _ _ _ ⟨K, hK, c⟩ k => ⟨K, PySem.W.Frag.In.keeps hK k, c⟩
def obZ (fa : List He.Fa) (fn : List He.DefD) (ex : PySem.W.Frag → List Bool) (s : PySem.W.SharedT) : AlZ := forceK (HandSHeadRun.getT s) (cStatics :: asZ (HandSHeadRun.getT s) 4 [mainGlobals]) (obsZ fa fn ex)
theorem obZ_eq {fa : List He.Fa} {fn : List He.DefD} {ex : PySem.W.Frag → List Bool} (s : PySem.W.SharedT) : obZ fa fn ex s = (hookZ fa fn ex).obs s.abs := by
 have e : HandSHeadRun.getT s = s.abs.heap.get? := funext (HandSHeadRun.getT_eq s)
 unfold obZ
 rw [forceK_eq, e] <;> rfl
theorem SaysZ.b {fa : List He.Fa} {fn : List He.DefD} {ex : PySem.W.Frag → List Bool} {K : PySem.W.Frag} (c : SaysZ fa fn ex K) (i : Nat) {b : Bool} (h : (ex K)[i]? = some b) : b = true := List.all_eq_true.mp c.x b (List.mem_of_getElem? h)
theorem SaysZ.q {fa : List He.Fa} {fn : List He.DefD} {ex : PySem.W.Frag → List Bool} {K : PySem.W.Frag} (c : SaysZ fa fn ex K) (i : Nat) {p : Prop} [Decidable p] (h : (ex K)[i]? = some (decide p)) : p := of_decide_eq_true (c.b i h)
end R
namespace R
open PySem PySem.Spec PyProof.Rows L2
def topZ (i : Nat) : Stmt := PySem.Challenge.pw_leadswitch_k92_whole_texts_there_and_bac.main.body.getD i (.Pass ⟨0, 0, 0, 0⟩)
abbrev dZ (c : Str) (m : Option Str) (n q : Str) (s : Stmt) : He.DefD := ⟨(c, m), n, q, defArgs s, defBody s, defScope s, [], []⟩
abbrev gZ (n : Str) (s : Stmt) : He.DefD := dZ n none n n s
def fnL : List He.DefD := [
 gZ "_law_bag" (topZ 43),
 gZ "_law_take" (topZ 44),
 gZ "_law_amount" (topZ 46),
 gZ "_law_bundles" (topZ 47),
 gZ "_law_bounds" (topZ 49),
 gZ "_law_loads" (topZ 48),
 gZ "_law_net" (topZ 50),
 gZ "is_integer" (topZ 10),
 gZ "is_between" (topZ 11),
 gZ "is_amount" (topZ 12),
 gZ "is_bound" (topZ 15),
 gZ "are_bounds" (topZ 16),
 gZ "is_broker" (topZ 14),
 gZ "is_count" (topZ 13),
 gZ "is_bundle" (topZ 17),
 gZ "are_bundles" (topZ 18),
 dZ "Cluster" (some "__init__") "__init__" "Cluster.__init__" (inClass (topZ 20) 0),
 gZ "read_integer" (topZ 35),
 gZ "read_integers" (topZ 36),
 gZ "read_words" (topZ 37),
 gZ "read_cluster" (topZ 38),
 gZ "_law_leads_text" (topZ 53),
 gZ "_law_any_plan" (topZ 55),
 gZ "is_run" (topZ 25),
 gZ "is_block" (topZ 26),
 gZ "are_blocks" (topZ 27),
 gZ "read_block" (topZ 40),
 gZ "read_plan" (topZ 41),
 gZ "_law_plan_text" (topZ 54),
 gZ "_law_alike" (topZ 45),
 gZ "_law_run" (topZ 51),
 gZ "spaced" (topZ 30),
 gZ "show_plan" (topZ 33),
 gZ "_law_plans_right" (topZ 56),
 gZ "_law_text" (topZ 52),
 dZ "Cluster" (some "__eq__") "__eq__" "Cluster.__eq__" (inClass (topZ 20) 1),
 dZ "Cluster" (some "bounds") "bounds" "Cluster.bounds" (inClass (topZ 20) 4),
 dZ "Cluster" (some "bundles") "bundles" "Cluster.bundles" (inClass (topZ 20) 5),
 gZ "show_cluster" (topZ 31),
 gZ "show_set" (topZ 34),
 gZ "show_leads" (topZ 32),
 gZ "read_leads" (topZ 39),
 gZ "law" (topZ 57)]
def faL : List He.Fa := [
 .cls "Cluster",
 .glo "Cluster",
 .noat "Cluster" "limits",
 .noat "Cluster" "rows",
 .noat "Cluster" "numbers",
 .glo "_law_bag",
 .glo "_law_take",
 .glo "_law_amount",
 .glo "_law_bundles",
 .glo "_law_bounds",
 .glo "_law_loads",
 .glo "_law_net",
 .glo "is_integer",
 .glo "is_between",
 .glo "is_amount",
 .glo "is_bound",
 .glo "are_bounds",
 .glo "is_broker",
 .glo "is_count",
 .glo "is_bundle",
 .glo "are_bundles",
 .meth "Cluster" "__init__",
 .glo "read_integer",
 .glo "read_integers",
 .glo "read_words",
 .glo "read_cluster",
 .glo "_law_leads_text",
 .glo "_law_any_plan",
 .glo "is_run",
 .glo "is_block",
 .glo "are_blocks",
 .glo "read_block",
 .glo "read_plan",
 .glo "_law_plan_text",
 .glo "_law_alike",
 .glo "_law_run",
 .glo "spaced",
 .glo "show_plan",
 .glo "_law_plans_right",
 .glo "_law_text",
 .meth "Cluster" "__eq__",
 .meth "Cluster" "bounds",
 .meth "Cluster" "bundles",
 .glo "show_cluster",
 .glo "show_set",
 .glo "show_leads",
 .glo "read_leads",
 .glo "law",
 .int "MOST_BROKERS" 10,
 .int "MOST_BUNDLES" 45,
 .int "MOST_AMOUNT" 1000000000000000000000000000000,
 .int "MOST_COUNT" 1000000000000000000,
 .int "MOST_BLOCKS" 400,
 .int "MOST_RUNS" 4000,
 .int "MOST_IN_BLOCK" 1000,
 .int "MOST_DIGITS" 40,
 .free "len",
 .free "isinstance",
 .free "int",
 .free "bool",
 .free "list",
 .free "tuple",
 .free "str",
 .free "all",
 .free "any",
 .free "zip",
 .free "range",
 .free "abs",
 .free "repr",
 .free "min",
 .free "max",
 .free "sum",
 .free "sorted",
 .free "enumerate",
 .free "reversed",
 .free "set",
 .free "dict",
 .free "ValueError"]
def exL (K : PySem.W.Frag) : List Bool := [
 PySem.W.makesIn K (He.ga K "Cluster"),
 PySem.W.keepIn K (.ref (He.ga K "Cluster")),
 decide (PySem.W.findIn K (.ref (He.ga K "Cluster")) "__class__" = some (some (.builtin "object.__class__"))),
 decide (PySem.W.specialIn K (.builtin "object.__class__") "__get__" = some (some (.builtin "getset_descriptor.__get__"))),
 decide (PySem.W.takesIn K (.builtin "object.__class__") = some true),
 decide (PySem.W.mroIn K (He.ga K "Cluster") (.type "object") = some true),
 PySem.W.isClsIn K (He.ga K "Cluster"),
 decide (PySem.W.typeIn K (.ref (He.ga K "Cluster")) = some (.type "type")),
 decide (PySem.W.findIn K (.ref (He.ga K "Cluster")) "__ne__" = some (some (.builtin "object.__ne__")))]
abbrev rowZ : PySem.W.OpenRow := PySem.W.OpenLaw.row PySem.Challenge.rw_leadswitch_k92_whole_texts_there_and_bac
def looseL : List Str := (rowZ.prog.main.scope.names.map fun p => p.1).filter fun n => !(n == "law") && !(n == "__name__")
theorem runZ (w : World) : HandSHeadRun.RunEq rowZ (PySem.W.view rowZ.prog [57]) (hookZ faL fnL exL) (obZ faL fnL exL) 20000 looseL w := by
 intro os
 kernel_rfl
end R
namespace G
open PySem PySem.Spec PyProof.Rows L2
structure FnG (P : Program) (w : World) (K : PySem.W.Frag) (mg : Str → Option Value) (base : Heap) (cx : CXT) (k : Nat) (f : Addr) (fd : FuncData) (ps : List Str) (sp : Sp) : Prop where
 lenG : ∀ vs H Q E, sp vs H Q E → vs.length = ps.length
 runG : ∀ (A : Around) (out : List Env) (st : Shared) (H : Hp) (as : Args) (us : List Value) (vs : List V) (Q : VK) (E : XK), A.guards = some [] → Room k A → Env0 P w K mg base A out st H →
  BindsTo st fd as (ps.zip us) → Vals vs us → sp vs H Q E → codeAny (model P w) A (.call (.ref f) as) (CR cx out P w H st Q E) st
section
variable {P : Program} {w : World} {K : PySem.W.Frag} {mg : Str → Option Value} {base : Heap} {cx : CXT} {k : Nat} {f : Addr} {fd : FuncData} {ps : List Str} {sp : Sp}
theorem FnG.of (F : FnOk P w K mg base cx k f fd ps sp) : FnG P w K mg base cx k f fd ps sp :=
 ⟨F.len, fun A out st H as us vs Q E _ hr => F.run A out st H as us vs Q E hr⟩
theorem FnG.up {j : Nat} (F : FnG P w K mg base cx j f fd ps sp) (h : j ≤ k) : FnG P w K mg base cx k f fd ps sp :=
 ⟨F.lenG, fun A out st H as us vs Q E hg hr => F.runG A out st H as us vs Q E hg (hr.mono h)⟩
theorem fnG_of {name qual : Str} {params : Arguments} {body : List Stmt} {scope : Scope} {dV kV doc pm cdv ct oc : Value} {an od : Option Addr} {osl : Array (Option Value)} {N : List Str}
  (lk : K.lookup f = some ⟨oc, od, .func (PySem.W.fnOf name qual params body scope dV kV doc pm an cdv ct), osl⟩) (hcd : PySem.W.codeIn K cdv qual = true) (S : FnScope N ps scope)
  (ln : ∀ vs H Q E, sp vs H Q E → vs.length = ps.length)
  (bd : ∀ (A : Around) (out : List Env) (st : Shared) (H : Hp) (vs : List V) (Q : VK) (E : XK), A.guards = some [] → Room k (A.deeper (envOfC qual scope st.heap.objs.size f cdv)) → sp vs H Q E →
   ∃ t, PSs (cxOf cx P w K mg base N qual scope f cdv A out st H E) body t ∧ t { nx := fun _ H' => Q .non H', rt := Q } (start N vs) H) :
  FnG P w K mg base cx (k + 1) f (PySem.W.fnOf name qual params body scope dV kV doc pm an cdv ct) ps sp := by
 refine ⟨ln, fun A out st H as us vs Q E hg hr e0 hb r hsp => ?_⟩
 have hkeep : ∀ b o, base.get? b = some o → st.heap.get? b = some o := fun b o e => (e0.bs b o e).1
 have KX : K.In st.heap := e0.mod.kin.keeps hkeep
 have hkind : ∀ y ∈ ps.zip us, scope.names.lookup y.1 = some .local ∨ (scope.names.lookup y.1 = some .cell ∧ ((cellsFrom (st.heap.objs.size + 1) scope.names []).lookup y.1).isSome = true) := by
  rintro ⟨n, v⟩ hy
  rcases S.par n (List.of_mem_zip hy).1 with q | q
  ·exact Or.inl q
  ·exact Or.inr ⟨q, PySem.W.cellsFrom_some _ _ _ (Or.inl q)⟩
 refine codeAny_call_function hr.depth (KX _ _ lk) rfl S.co S.gen rfl (PySem.W.codeRec_of KX hcd) (hb _ _ _ _ ?_)
 refine wpAny_newFunctionEnv_cells S.kind hkind fun env he st1 x => ?_
 subst he
 refine ⟨(e0.mod.nolimit.keeps hkeep).keeps x.toInCall.keep, codeAny_func ?_⟩
 obtain ⟨t, ht, hq⟩ := bd A out st H vs Q E hg (hr.deeper _) hsp
 have I0 := inv_start (CX := cx) (E := E) S hr.hd e0 (ln _ _ _ _ hsp) r x
 refine wpAny_mono (ht.run [] st1 (start N vs) H _ I0 hq) (fun fl s' hs => ?_) fun _ _ z => z
 match fl, hs with
 | .ret u, ⟨v, σ', H', J, rv, q⟩ => exact ⟨v, H', J.os, J.bare, J.base, J.hok, rv, q⟩
 | .next, ⟨σ', H', J, q⟩ => exact ⟨V.non, H', J.os, J.bare, J.base, J.hok, rfl, q⟩
 | .brk, ⟨_, _, _, q⟩ => exact False.elim q
 | .cont, ⟨_, _, _, q⟩ => exact False.elim q
theorem okG {x qual : Str} {st : Stmt} {N : List Str} (F : Fun K x qual st f fd) (S : FnScope N ps (defScope st)) (ln : ∀ vs H Q E, sp vs H Q E → vs.length = ps.length)
  (bd : ∀ (cdv : Value) (A : Around) (out : List Env) (s : Shared) (H : Hp) (vs : List V) (Q : VK) (E : XK), A.guards = some [] → Room k (A.deeper (envOfC qual (defScope st) s.heap.objs.size f cdv)) → sp vs H Q E →
   ∃ t, PSs (cxOf CX0 P w K mg base N qual (defScope st) f cdv A out s H E).nox (defBody st) t ∧ t { nx := fun _ H' => Q .non H', rt := Q } (start N vs) H) : FnG P w K mg base CX0 (k + 1) f fd ps sp := by
 obtain ⟨oc, od, kV, doc, pm, an, cdv, ct, osl, rfl, lk, hcd⟩ := F.ex
 refine fnG_of lk hcd S ln fun A out s H vs Q E hg hr hsp => ?_
 obtain ⟨t, ht, q⟩ := bd cdv A out s H vs Q E hg hr hsp
 exact ⟨t, ht.nox, q⟩
end
section
variable {X : Cx} {cx : CXT} {k : Nat} {f : Addr} {fd : FuncData} {ps : List Str} {sp : Sp} {dvs : List V} {ds : List Value} {E : XK} {x : Str} {p pos : Pos} {e : Expr} {es : List Expr} {t : TA}
theorem run_fnG {pins : List (Addr × Obj)} {σ : L2.St} {H : Hp} {s : Shared} {Q : VK} {us : List Value} {vs : List V} (F : FnG X.prog X.w X.K X.mg X.base cx k f fd ps sp) (hgu : X.A.guards = some []) (hr : Room k X.A) (hb : Binds X.K fd ps ds) (hd : Vals dvs ds)
  (hx : Passes cx X E) (I : Inv X pins σ H s) (r : Vals vs us) (h : sp (vs ++ dvs) H Q E) : wpAny (model X.prog X.w) X.A (call (.ref f) us) (EP X pins σ Q) X.xe s := by
 have r2 := r.append hd
 have hl := F.lenG _ _ _ _ h
 rw [r2.length] at hl
 have go := F.runG X.A X.stack s H ⟨us, []⟩ (us ++ ds) (vs ++ dvs) Q E hgu hr I.env0 (hb s us I.kIn hl) r2 h
 refine wpAny_call (codeAny_mono go fun res s' hq => ?_)
 match res, hq with
 | .error e, hq => exact hx pins σ H s e s' I hq
 | .ok (.ret u), hq => exact I.after hq
 | .ok .next, hq => exact False.elim hq
 | .ok .brk, hq => exact False.elim hq
 | .ok .cont, hq => exact False.elim hq
theorem pe_callG (F : FnG X.prog X.w X.K X.mg X.base cx k f fd ps sp) (hgu : X.A.guards = some []) (hr : Room k X.A) (hg : Gl X x) (hm : X.mg x = some (.ref f)) (hk : PySem.W.keepIn X.K (.ref f) = true) (hb : Binds X.K fd ps ds) (hd : Vals dvs ds)
  (hx : Passes cx X E) (ha : PA X (e :: es) t) (hdb : (x == ("__debug__" : Str)) = false := by decide) (he : starEach (e :: es) X.env = (false, eval e X.env) :: starEach es X.env := by rfl)
  (hpl : (backTo pos (starEach es X.env)).any (·.1) = false := by rfl) : PE X (.Call (.Name x p) (e :: es) [] pos) (tCall sp dvs E t) := by
 refine ⟨fun pins s σ H Q I h => wpAny_Call_Name_kw (ld_glob I hg hm ?_ hdb)⟩
 refine PySem.W.callWith_K (h₀ := X.base) I.ok.mod.kin hk (thn (ha.run pos pins s σ H _ I h) fun us s1 hh => ?_) he hpl
 obtain ⟨vs, H1, I1, r, q⟩ := hh
 exact ⟨I1.kIn, run_fnG F hgu hr hb hd hx I1 r q⟩
end
theorem law_callG {P : Program} {w : World} {K : PySem.W.Frag} {mg mb : Str → Option Value} {cx : CXT} {k : Nat} {fa a : Addr} {fd : FuncData} {x : Str} {sp : Sp} {s₁ : Shared} {vs : List Value} {ns : List Int}
  (KX : K.In s₁.heap) (hns : s₁.heap.Ns mainGlobals mg) (hb : s₁.heap.Ns builtinsNs mb) (hbb : ∀ x : Str, x ≠ "__name__" → mb x = bootBuiltins x) (hlim : s₁.heap.NoLimit) (hg : s₁.gens = #[])
  (ha : s₁.heap.get? a = some { cls := .type "list", data := .seq vs.toArray }) (hi : IntsAre vs ns) (hl : ns.length ≤ sizeLine) (hr : Room k callerA)
  (F : ∀ base : Heap, K.In base → base.Ns mainGlobals mg → FnG P w K mg base cx k fa fd [x] sp) (hbind : ∀ (s : Shared) (u : Value), BindsTo s fd ⟨[u], []⟩ [(x, u)])
  (hsp : ∀ H : Hp, Only H → SqL K H a (ns.map V.int) → sp [.ref a] H (fun v _ => v = .bl true) fun _ _ _ => False)
  (hcx : ∀ H e s', cx [] H s₁ (fun _ _ _ => False) e s' → False) :
  codeAny (model P w) callerA (.call (.ref fa) ⟨[.ref a], []⟩) (fun r s' => r = .ok (.ret (.bool true)) ∧ OldK s₁.heap s'.heap ∧ s'.os = s₁.os ∧ AllBare s'.gens) s₁ := by
 have rv := vals_ints hi
 have lenV := hi.length
 have core : ∀ H : Hp, Only H → SqL K H a (ns.map V.int) → HOk P w H s₁.heap → (∀ b, H b ≠ none → b = a) → (H a ≠ none → K.lookup a = none) →
   codeAny (model P w) callerA (.call (.ref fa) ⟨[.ref a], []⟩) (fun r s' => r = .ok (.ret (.bool true)) ∧ OldK s₁.heap s'.heap ∧ s'.os = s₁.os ∧ AllBare s'.gens) s₁ := by
  intro H only hS hok hA hK
  have nodict : ∀ {b : Addr} {o : Obj} {es : Array DictEntry} {ep : Nat}, s₁.heap.get? b = some o → o.data = .dict es ep → H b = none := by
   intro b o es ep e d
   refine Classical.byContradiction fun q => ?_
   have eb := hA b q
   subst eb
   rw [ha] at e
   cases e
   exact nomatch d
  have nsK : ∀ {b : Addr} {m : Str → Option Value}, s₁.heap.Ns b m → (hidT s₁.heap H).Ns b m := by
   rintro b m ⟨o, es, ep, e, d, r⟩
   exact ⟨o, es, ep, hidT_get e (nodict e d), d, r⟩
  have hKb : K.In (hidT s₁.heap H) := by
   intro b o e
   refine hidT_get (KX b o e) (Classical.byContradiction fun q => ?_)
   have eb := hA b q
   subst eb
   rw [hK q] at e
   cases e
  obtain ⟨mc, hm1, hm2⟩ := hlim
  have md : Mod K mg (hidT s₁.heap H) := ⟨hKb, nsK hns, ⟨mb, nsK hb, hbb⟩, ⟨mc, nsK hm1, hm2⟩⟩
  have e0 : Env0 P w K mg (hidT s₁.heap H) callerA [] s₁ H :=
   ⟨rfl, md, fun b o e => of_hidT e, Nat.le_of_eq (hidT_size _ _), trivial, fun b z => absurd (show b ∈ ([] : List Addr) from z) (by simp), hok, .of_eq hg⟩
  have go := (F _ hKb (nsK hns)).runG callerA [] s₁ H ⟨[.ref a], []⟩ [.ref a] [.ref a] _ _ rfl hr e0 (hbind s₁ (.ref a)) (.cons rfl .nil) (hsp H only hS)
  refine codeAny_mono go fun res s' h => ?_
  match res, h with
  | .error e, h => exact (hcx H e s' h).elim
  | .ok .next, h => exact False.elim h
  | .ok .brk, h => exact False.elim h
  | .ok .cont, h => exact False.elim h
  | .ok (.ret u), ⟨v, H', os, bare, un, hok', r', q⟩ =>
   have q' : v = .bl true := q
   subst q'
   have r'' : u = Value.bool true := r'
   subst r''
   refine ⟨rfl, OldK.of_keep fun b o e => ?_, os, bare⟩
   rcases only b with z | ⟨ob, xs, z⟩
   ·exact un.keep b o e z (fun z => absurd (show b ∈ ([] : List Addr) from z) (by simp)) (by simp)
   ·have e1 := (hok b _ z).1
    have e2 := (hok' b _ (un.frzs b ob _ z)).1
    rw [e] at e1
    cases e1
    exact e2
 cases hk : K.lookup a with
 | some o =>
  have e := KX a o hk
  rw [ha] at e
  cases e
  exact core (fun _ => none) (fun _ => Or.inl rfl) (Or.inr ⟨_, vs.toArray, _, hk, rfl, rfl, rfl, by rw [List.size_toArray, lenV]; exact hl, by simpa using rv⟩) (fun _ _ z => nomatch z) (fun _ z => absurd rfl z) fun z => absurd rfl z
 | none =>
  refine core (fun b => if b = a then some (.frz { cls := .type "list", data := .seq vs.toArray } (.lst (ns.map V.int))) else none) (fun b => ?_) (Or.inl (Or.inr ⟨{ cls := .type "list", data := .seq vs.toArray }, if_pos rfl⟩)) (fun b u z => ?_) (fun b z => ?_) fun _ => hk
  ·by_cases hb : b = a
   ·exact Or.inr ⟨_, _, if_pos hb⟩
   ·exact Or.inl (if_neg hb)
  ·by_cases hb : b = a
   ·dsimp only at z
    rw [if_pos hb] at z
    cases z
    subst hb
    exact ⟨ha, by rw [List.length_map]; exact hl, vs, _, rv, ha⟩
   ·dsimp only at z
    rw [if_neg hb] at z
    cases z
  ·exact Classical.byContradiction fun hb => z (if_neg hb)
end G
namespace G
open PySem PySem.Spec PyProof.Rows L2
def kD : Key → PyData
 | .inl i => .int i
 | .inr x => .str x
mutual
/-- in H the value stands for the datum -/
inductive Da (K : PySem.W.Frag) (H : Hp) : V → PyData → Prop
 | non : Da K H .non .none
 | bl (b : Bool) : Da K H (.bl b) (.bool b)
 | int (i : Int) : Da K H (.int i) (.int i)
 | str (x : Str) : Da K H (.str x) (.str x)
 | lst {a : Addr} {xs : List V} {ds : List PyData} : SqL K H a xs → DaL K H xs ds → Da K H (.ref a) (.list ds)
 | tup {a : Addr} {xs : List V} {ds : List PyData} : SqT K H a xs → DaL K H xs ds → Da K H (.ref a) (.tuple ds)
 | dct {a : Addr} {kvs : List (Key × V)} {es : List (PyData × PyData)} : Rd H a (.dK kvs) → DaE K H kvs es → Da K H (.ref a) (.dict es)
inductive DaL (K : PySem.W.Frag) (H : Hp) : List V → List PyData → Prop
 | nil : DaL K H [] []
 | cons {v : V} {vs : List V} {d : PyData} {ds : List PyData} : Da K H v d → DaL K H vs ds → DaL K H (v :: vs) (d :: ds)
inductive DaE (K : PySem.W.Frag) (H : Hp) : List (Key × V) → List (PyData × PyData) → Prop
 | nil : DaE K H [] []
 | cons {k : Key} {v : V} {kvs : List (Key × V)} {d : PyData} {es : List (PyData × PyData)} : Da K H v d → DaE K H kvs es → DaE K H ((k, v) :: kvs) ((kD k, d) :: es)
end
section
variable {K : PySem.W.Frag} {H H' : Hp}
theorem sql_up {a : Addr} {xs : List V} (e : Same H H') (h : SqL K H a xs) : SqL K H' a xs := e.seq h
theorem sqt_up {a : Addr} {xs : List V} (e : Same H H') (h : SqT K H a xs) : SqT K H' a xs := Evl.ex_t e h
theorem rd_up {a : Addr} {u : HO} (e : Same H H') (h : Rd H a u) : Rd H' a u := by
 rcases h with h | ⟨o, h⟩
 ·exact .inl (e _ _ h)
 ·exact .inr ⟨o, e _ _ h⟩
mutual
theorem Da.up (e : Same H H') : ∀ (d : PyData) (v : V), Da K H v d → Da K H' v d
 | .none, _, h => by cases h; exact .non
 | .bool b, _, h => by cases h; exact .bl b
 | .int i, _, h => by cases h; exact .int i
 | .str x, _, h => by cases h; exact .str x
 | .list ds, _, h => by cases h with | lst a b => exact .lst (sql_up e a) (DaL.up e ds _ b)
 | .tuple ds, _, h => by cases h with | tup a b => exact .tup (sqt_up e a) (DaL.up e ds _ b)
 | .dict es, _, h => by cases h with | dct a b => exact .dct (rd_up e a) (DaE.up e es _ b)
theorem DaL.up (e : Same H H') : ∀ (ds : List PyData) (vs : List V), DaL K H vs ds → DaL K H' vs ds
 | [], _, h => by cases h; exact .nil
 | d :: ds, _, h => by cases h with | cons a b => exact .cons (Da.up e d _ a) (DaL.up e ds _ b)
theorem DaE.up (e : Same H H') : ∀ (es : List (PyData × PyData)) (kvs : List (Key × V)), DaE K H kvs es → DaE K H' kvs es
 | [], _, h => by cases h; exact .nil
 | (k, d) :: es, _, h => by cases h with | cons a b => exact .cons (Da.up e d _ a) (DaE.up e es _ b)
end
theorem Da.mono {d : PyData} {v : V} (h : Da K H v d) (e : Same H H') : Da K H' v d := Da.up e d v h
theorem DaL.mono {ds : List PyData} {vs : List V} (h : DaL K H vs ds) (e : Same H H') : DaL K H' vs ds := DaL.up e ds vs h
theorem DaL.len {ds : List PyData} : ∀ {vs : List V}, DaL K H vs ds → vs.length = ds.length := by
 induction ds with
 | nil => intro vs h; cases h; rfl
 | cons d ds ih => intro vs h; cases h with | cons a b => simp [ih b]
theorem DaL.get {ds : List PyData} : ∀ {vs : List V} {i : Nat} {d : PyData}, DaL K H vs ds → ds[i]? = some d → ∃ v, vs[i]? = some v ∧ Da K H v d := by
 induction ds with
 | nil => intro vs i d h e; simp at e
 | cons x ds ih =>
  intro vs i d h e
  cases h with
  | cons a b =>
   cases i with
   | zero => simp at e; subst e; exact ⟨_, rfl, a⟩
   | succ i =>
    obtain ⟨v, q, r⟩ := ih (i := i) b (by simpa using e)
    exact ⟨v, by simpa using q, r⟩
theorem DaL.getV {ds : List PyData} : ∀ {vs : List V} {i : Nat} {v : V}, DaL K H vs ds → vs[i]? = some v → ∃ d, ds[i]? = some d ∧ Da K H v d := by
 induction ds with
 | nil => intro vs i d h e; cases h; simp at e
 | cons x ds ih =>
  intro vs i d h e
  cases h with
  | cons a b =>
   cases i with
   | zero => simp at e; subst e; exact ⟨_, rfl, a⟩
   | succ i =>
    obtain ⟨v, q, r⟩ := ih (i := i) b (by simpa using e)
    exact ⟨v, by simpa using q, r⟩
theorem DaL.app {xs ys : List PyData} : ∀ {us vs : List V}, DaL K H us xs → DaL K H vs ys → DaL K H (us ++ vs) (xs ++ ys) := by
 induction xs with
 | nil => intro us vs h k; cases h; exact k
 | cons x xs ih => intro us vs h k; cases h with | cons a b => exact .cons a (ih b k)
theorem DaL.take {xs : List PyData} : ∀ {us : List V} (n : Nat), DaL K H us xs → DaL K H (us.take n) (xs.take n) := by
 induction xs with
 | nil => intro us n h; cases h; simp; exact .nil
 | cons x xs ih =>
  intro us n h
  cases h with
  | cons a b =>
   cases n with
   | zero => exact .nil
   | succ n => exact .cons a (ih n b)
theorem DaL.drop {xs : List PyData} : ∀ {us : List V} (n : Nat), DaL K H us xs → DaL K H (us.drop n) (xs.drop n) := by
 induction xs with
 | nil => intro us n h; cases h; simp; exact .nil
 | cons x xs ih =>
  intro us n h
  cases h with
  | cons a b =>
   cases n with
   | zero => exact .cons a b
   | succ n => exact ih n b
theorem DaL.rev {xs : List PyData} : ∀ {us : List V}, DaL K H us xs → DaL K H us.reverse xs.reverse := by
 induction xs with
 | nil => intro us h; cases h; exact .nil
 | cons x xs ih =>
  intro us h
  cases h with
  | cons a b =>
   rw [List.reverse_cons, List.reverse_cons]
   exact (ih b).app (.cons a .nil)
def tyN : PyData → String
 | .none => "NoneType"
 | .bool _ => "bool"
 | .int _ => "int"
 | .str _ => "str"
 | .list _ => "list"
 | .tuple _ => "tuple"
 | .dict _ => "dict"
theorem Da.ty {d : PyData} {v : V} (h : Da K H v d) : TyX K H v (.type (tyN d)) := by
 cases h with
 | non => exact .base .non
 | bl b => exact .base (.bl b)
 | int i => exact .base (.int i)
 | str x => exact .base (.str x)
 | lst a _ =>
  rcases a with (a | ⟨o, a⟩) | ⟨o, _, _, a, c, _⟩
  ·exact .base (.lst a)
  ·exact .base (.frz a)
  ·exact .kList a c
 | tup a _ =>
  rcases a with (a | ⟨o, a⟩) | ⟨o, _, _, a, c, _⟩
  ·exact .base (.tup a)
  ·exact .fTuple a
  ·exact .kTuple a c
 | dct a _ =>
  rcases a with a | ⟨o, a⟩
  ·exact .base (.dK a)
  ·exact .fDict a
def isT : PyData → Bool
 | .tuple _ => true
 | _ => false
mutual
theorem Da.dp : ∀ (d : PyData) (v : V), d.canLay0 = true → Da K H v d → Dp K H v d
 | .none, _, _, h => by cases h; exact .non
 | .bool b, _, _, h => by cases h; exact .bl b
 | .int i, _, _, h => by cases h; exact .int i
 | .str x, _, _, h => by cases h; exact .str x
 | .list ds, _, c, h => by cases h with | lst a b => exact .lst a (DaL.dp ds _ (by simpa only [PyData.canLay0] using c) b)
 | .tuple ds, _, c, h => by cases h with | tup a b => exact .tup a (DaL.dp ds _ (by simpa only [PyData.canLay0] using c) b)
 | .dict es, _, c, _ => by simp only [PyData.canLay0] at c; cases c
theorem DaL.dp : ∀ (ds : List PyData) (vs : List V), PyData.canLayAll0 ds = true → DaL K H vs ds → DpAll K H vs ds
 | [], _, _, h => by cases h; exact .nil
 | d :: ds, _, c, h => by
  cases h with
  | cons a b =>
   have c' : PyData.canLay0 d = true ∧ PyData.canLayAll0 ds = true := by simpa only [PyData.canLayAll0, Bool.and_eq_true] using c
   exact .cons (Da.dp d _ c'.1 a) (DaL.dp ds _ c'.2 b)
end
end
section
variable {X : Cx} {pins : List (Addr × Obj)} {σ : L2.St} {H : Hp} {s : Shared}
theorem key_read {P : Program} {w : World} {k : Key} {u : Value} (h : (mixKind P w).is k u = true) (hp : Heap) (hs : (kD k).showable = true) (hz : (kD k).shown.length ≤ sizeLine) :
  Reads hp u (kD k) [] ∧ ReprIs P w u (kD k).shown := by
 rcases keyIs_shape (show keyIs k u = true from h) with ⟨i, t, rfl, rfl⟩ | ⟨x, t, rfl, rfl⟩
 ·refine ⟨Reads.int i t, ?_⟩
  show ReprIs P w _ (PyData.int i).shown
  simp only [PyData.shown]
  exact ReprIs.int t (by simpa [kD, PyData.showable] using hs)
 ·refine ⟨Reads.str x t, ?_⟩
  show ReprIs P w _ (PyData.str x).shown
  simp only [PyData.shown]
  exact ReprIs.str x t (by simpa only [kD, PyData.shown] using hz)
structure Rk (P : Program) (w : World) (h : Heap) (u : Value) (d : PyData) : Prop where
 rd : ∃ as, Reads h u d as
 rp : ∃ bs, ReadAtMost h d.depth bs ∧ ReprK P w bs h d.depth u d.shown
structure RkL (P : Program) (w : World) (h : Heap) (us : List Value) (ds : List PyData) : Prop where
 rd : ∃ as, ReadsAll h us ds as
 rp : ∃ bs, ReadAtMost h (PyData.depthAll ds) bs ∧ ReprAllK P w bs h (PyData.depthAll ds) us (PyData.shownAll ds)
structure RkE (P : Program) (w : World) (h : Heap) (ents : List DictEntry) (es : List (PyData × PyData)) : Prop where
 rk : ∃ as, ReadsAll h (ents.map (·.key)) (es.map (·.1)) as
 rv : ∃ as, ReadsAll h (ents.map (·.val)) (es.map (·.2)) as
 rp : ∃ bs, ReadAtMost h (PyData.depthKv es) bs ∧ ReprEntriesK P w bs h (PyData.depthKv es) ents (PyData.shownKv es)
theorem reK_more {P : Program} {w : World} {h : Heap} {as as' : List Addr} {n m : Nat} (hs : ∀ b ∈ as, b ∈ as') (l : n ≤ m) : ∀ {en : List DictEntry} {ts : List Str}, ReprEntriesK P w as h n en ts → ReprEntriesK P w as' h m en ts
 | _, _, .nil => .nil
 | _, _, .cons a b c => .cons ((a.more hs).level_le l) ((b.more hs).level_le l) (reK_more hs l c)
mutual
theorem rk_of (I : Inv X pins σ H s) : ∀ (d : PyData) (v : V) (u : Value), Da X.K H v d → RelV v u → d.showable = true → d.shown.length ≤ sizeLine → Rk X.prog X.w s.heap u d
 | .none, _, _, h, r, _, _ => by
  cases h
  cases r
  exact ⟨⟨_, Reads.none⟩, [], (fun _ z => nomatch z), by simp only [PyData.shown]; exact .of_is ReprIs.none _ _ _⟩
 | .bool b, _, _, h, r, _, _ => by
  cases h
  cases r
  exact ⟨⟨_, Reads.bool b⟩, [], (fun _ z => nomatch z), by simp only [PyData.shown]; exact .of_is (ReprIs.bool b) _ _ _⟩
 | .int i, _, _, h, r, hs, _ => by
  cases h
  obtain ⟨t, rfl⟩ := r
  exact ⟨⟨_, Reads.int i t⟩, [], (fun _ z => nomatch z), by simp only [PyData.shown]; exact .of_is (ReprIs.int t (by simpa [PyData.showable] using hs)) _ _ _⟩
 | .str x, _, _, h, r, _, hz => by
  cases h
  obtain ⟨t, rfl⟩ := r
  exact ⟨⟨_, Reads.str x t⟩, [], (fun _ z => nomatch z), by simp only [PyData.shown]; exact .of_is (ReprIs.str x t (by simpa only [PyData.shown] using hz)) _ _ _⟩
 | .list ds, _, _, h, r, hs, hz => by
  cases h with
  | lst hq ha =>
   cases r
   obtain ⟨its, rv, ⟨o, n, ho, hc, _, hd⟩, _⟩ := I.list hq
   have hz' : (listText (PyData.shownAll ds)).length ≤ sizeLine := by simpa only [PyData.shown] using hz
   obtain ⟨⟨as, hr⟩, bs, hb, hk⟩ := rkL_of I ds _ its ha rv (by simpa only [PyData.showable] using hs) (fun t ht => Nat.le_trans (listText_mem_le ht) hz')
   have rr := Reads.list ho hc hd hr
   refine ⟨⟨_, rr⟩, _ :: bs, ReadAtMost.cons rr (by simp only [PyData.depth]; omega) hb, ?_⟩
   have hna := not_mem_of_deeper rr (n := PyData.depthAll ds) (by simp only [PyData.depth]; omega) hb
   simp only [PyData.depth, PyData.shown]
   cases its with
   | nil =>
    cases hr
    simp only [PyData.shownAll, listText_nil]
    exact ReprK.listEmpty ho hc hd
   | cons x l => exact ReprK.list ho hc hd hna (by simpa using hk.length_eq) (fun i y e => hk.item i y (by simpa using e))
 | .tuple ds, _, _, h, r, hs, hz => by
  cases h with
  | tup hq ha =>
   cases r
   obtain ⟨its, rv, ⟨o, ho, hc, n, hd⟩, _⟩ := I.tuple hq
   have hz' : (tupleText (PyData.shownAll ds)).length ≤ sizeLine := by simpa only [PyData.shown] using hz
   obtain ⟨⟨as, hr⟩, bs, hb, hk⟩ := rkL_of I ds _ its ha rv (by simpa only [PyData.showable] using hs) (fun t ht => Nat.le_trans (tupleText_mem_le ht) hz')
   have rr := Reads.tuple ho hc hd hr
   refine ⟨⟨_, rr⟩, _ :: bs, ReadAtMost.cons rr (by simp only [PyData.depth]; omega) hb, ?_⟩
   have hna := not_mem_of_deeper rr (n := PyData.depthAll ds) (by simp only [PyData.depth]; omega) hb
   simp only [PyData.depth, PyData.shown]
   exact ReprK.tuple ho hc hd hna hk
 | .dict es, _, _, h, r, hs, hz => by
  cases h with
  | @dct a kvs _ hq ha =>
   cases r
   obtain ⟨_, hsy, vs, rv, o, ents, ep, ho, hc, hd, _, pr, _⟩ := (show ObjOk X.prog X.w H s.heap a (.dK kvs) from hq.ok I.hok)
   have hz' : (dictText (PyData.shownKv es)).length ≤ sizeLine := by simpa only [PyData.shown] using hz
   obtain ⟨⟨as, hrk⟩, ⟨as', hrv⟩, bs, hb, hk⟩ := rkE_of I es kvs vs ents.toList ha rv pr (by simpa only [PyData.showable] using hs) (fun t ht => Nat.le_trans (dictText_mem_le ht) hz')
   have rr := Reads.dict ho hc.1 hd hrk hrv
   refine ⟨⟨_, rr⟩, _ :: bs, ReadAtMost.cons rr (by simp only [PyData.depth]; omega) hb, ?_⟩
   have hna := not_mem_of_deeper rr (n := PyData.depthKv es) (by simp only [PyData.depth]; omega) hb
   simp only [PyData.depth, PyData.shown]
   exact ReprK.dict ho hc.1 hd hsy hna hk
theorem rkL_of (I : Inv X pins σ H s) : ∀ (ds : List PyData) (vs : List V) (us : List Value), DaL X.K H vs ds → Vals vs us → PyData.showableAll ds = true → (∀ t ∈ PyData.shownAll ds, t.length ≤ sizeLine) → RkL X.prog X.w s.heap us ds
 | [], _, _, h, r, _, _ => by
  cases h
  cases r
  exact ⟨⟨_, ReadsAll.nil⟩, [], (fun _ z => nomatch z), by simp only [PyData.shownAll]; exact .nil⟩
 | d :: ds, _, _, h, r, hs, hz => by
  cases h with
  | cons h1 h2 =>
   cases r with
   | cons r1 r2 =>
    have hs' : d.showable = true ∧ PyData.showableAll ds = true := by simpa only [PyData.showableAll, Bool.and_eq_true] using hs
    simp only [PyData.shownAll, List.mem_cons] at hz
    obtain ⟨⟨as, ra⟩, b1, hb1, k1⟩ := rk_of I d _ _ h1 r1 hs'.1 (hz _ (Or.inl rfl))
    obtain ⟨⟨bs, rb⟩, b2, hb2, k2⟩ := rkL_of I ds _ _ h2 r2 hs'.2 fun t ht => hz t (Or.inr ht)
    refine ⟨⟨_, ReadsAll.cons ra rb⟩, b1 ++ b2, ?_, ?_⟩
    ·simp only [PyData.depthAll]
     exact (hb1.mono (Nat.le_max_left _ _)).append (hb2.mono (Nat.le_max_right _ _))
    ·simp only [PyData.depthAll, PyData.shownAll]
     exact .cons ((k1.more fun b hb => List.mem_append_left _ hb).level_le (Nat.le_max_left _ _)) (k2.more_le (fun b hb => List.mem_append_right _ hb) (Nat.le_max_right _ _))
theorem rkE_of (I : Inv X pins σ H s) : ∀ (es : List (PyData × PyData)) (kvs : List (Key × V)) (vs : List (Key × Value)) (ents : List DictEntry), DaE X.K H kvs es → KV kvs vs → Pairs (mixKind X.prog X.w) ents vs → PyData.showableKv es = true →
  (∀ t ∈ PyData.shownKv es, t.length ≤ sizeLine) → RkE X.prog X.w s.heap ents es
 | [], _, _, _, h, r, p, _, _ => by
  cases h
  cases r
  cases p
  exact ⟨⟨_, ReadsAll.nil⟩, ⟨_, ReadsAll.nil⟩, [], (fun _ z => nomatch z), by simp only [PyData.shownKv]; exact .nil⟩
 | (k, d) :: es, _, _, _, h, r, p, hs, hz => by
  cases h with
  | @cons ky v kvs' _ _ h1 h2 =>
   cases r with
   | @cons _ q _ qs r1 r2 =>
    obtain ⟨kq, uq⟩ := q
    cases p with
    | @cons en _ ens _ p1 p2 p3 =>
     have hs' : ((kD ky).showable = true ∧ d.showable = true) ∧ PyData.showableKv es = true := by simpa only [PyData.showableKv, Bool.and_eq_true] using hs
     simp only [PyData.shownKv, List.mem_cons] at hz
     have hz0 := hz _ (Or.inl rfl)
     rw [strLen_append, strLen_append] at hz0
     have e1 : ky = kq := r1.1
     have p1' : (mixKind X.prog X.w).is ky en.key = true := by rw [e1]; exact p1
     have p2' : en.val = uq := p2
     obtain ⟨ka, kb⟩ := key_read p1' s.heap hs'.1.1 (by omega)
     obtain ⟨⟨as, ra⟩, b1, hb1, k1⟩ := rk_of I d v uq h1 r1.2 hs'.1.2 (by omega)
     obtain ⟨⟨as2, ra2⟩, ⟨as3, ra3⟩, b2, hb2, k2⟩ := rkE_of I es _ _ ens h2 r2 p3 hs'.2 fun t ht => hz t (Or.inr ht)
     refine ⟨⟨_, ReadsAll.cons ka ra2⟩, ⟨_, ReadsAll.cons (show Reads s.heap en.val d as by rw [p2']; exact ra) ra3⟩, b1 ++ b2, ?_, ?_⟩
     ·simp only [PyData.depthKv]
      exact (hb1.mono (by omega)).append (hb2.mono (by omega))
     ·simp only [PyData.depthKv, PyData.shownKv]
      refine .cons (.of_is kb _ _ _) ?_ (reK_more (fun b hb => List.mem_append_right _ hb) (by omega) k2)
      rw [p2']
      exact (k1.more fun b hb => List.mem_append_left _ hb).level_le (by omega)
end
def rRepr (K : PySem.W.Frag) : List V → Hp → VK → Prop := fun xs H Q => ∃ v d, xs = [v] ∧ Da K H v d ∧ d.showable = true ∧ d.depth ≤ 60 ∧ d.shown.length ≤ sizeLine ∧ Q (.str d.shown) H
theorem call_repr (hgu : X.A.guards = some []) (hu : X.A.units + 64 < cLine) : CallR X (.builtin "repr") (rRepr X.K) := by
 intro pins s σ H xs us Q I r h
 obtain ⟨v, d, rfl, hD, hs, hdp, hz, q⟩ := h
 obtain ⟨u, rfl, rv⟩ := vals1 r
 have fin : ∀ (h' : Heap) (t : Tok) (tk : Nat), (∀ b o, s.heap.get? b = some o → h'.get? b = some o) → EP X pins σ Q (.str d.shown t) { s with heap := h', toks := tk } := fun h' t tk k => ⟨.str d.shown, H, I.kept (t' := tk) k, ⟨_, rfl⟩, q⟩
 have fin0 : ∀ (t : Tok) (tk : Nat), EP X pins σ Q (.str d.shown t) { s with toks := tk } := fun t tk => ⟨.str d.shown, H, I.tok tk, ⟨_, rfl⟩, q⟩
 cases d with
 | none =>
  cases hD
  cases rv
  have f := fin0 s.toks (s.toks + 1)
  simp only [PyData.shown] at f
  exact PySem.P.repr_of_none f
 | bool b =>
  cases hD
  cases rv
  have f := fin0 s.toks (s.toks + 1)
  simp only [PyData.shown] at f
  exact PySem.P.repr_of_bool f
 | int i =>
  cases hD
  obtain ⟨t, rfl⟩ := rv
  have f := fin0 s.toks (s.toks + 1)
  simp only [PyData.shown] at f
  exact PySem.P.repr_of_int (by simpa [PyData.showable] using hs) f
 | str x =>
  cases hD
  obtain ⟨t, rfl⟩ := rv
  have f := fin0 s.toks (s.toks + 1)
  simp only [PyData.shown] at f
  exact PySem.P.repr_of_str f (by simpa only [PyData.shown] using hz)
 | list ds =>
  cases hD with
  | lst hq ha =>
   cases rv
   obtain ⟨its, rv, ⟨o, n, ho, hc, _, hd⟩, _⟩ := I.list hq
   have hz' : (listText (PyData.shownAll ds)).length ≤ sizeLine := by simpa only [PyData.shown] using hz
   obtain ⟨⟨as, hr⟩, bs, hb, hk⟩ := rkL_of I ds _ its ha rv (by simpa only [PyData.showable] using hs) (fun t ht => Nat.le_trans (listText_mem_le ht) hz')
   have rr := Reads.list ho hc hd hr
   have hna := not_mem_of_deeper rr (n := PyData.depthAll ds) (by simp only [PyData.depth]; omega) hb
   simp only [PyData.depth] at hdp
   simp only [PyData.shown] at fin
   refine call_repr_slot (by omega) ⟨o, ho, hc⟩ F.slot_list_repr.toG ?_
   cases its with
   | nil =>
    cases hr
    simp only [PyData.shownAll, listText_nil] at fin
    exact call_list_repr_empty ⟨o, ho, hc⟩ ho hd ⟨_, _, rfl, fin s.heap _ _ fun _ _ e => e⟩
   | cons x l =>
    exact call_list_reprK ho hc hd hna (by simpa using hk.length_eq) (fun i y e => hk.item i y (by simpa using e)) hgu (fun b _ => Clear.nil b) (by show X.A.units + 1 + _ < cLine; omega) (fun _ _ e => e) (fun h' u tk k => ⟨_, _, rfl, fin h' u tk k⟩) hz'
 | tuple ds =>
  cases hD with
  | tup hq ha =>
   cases rv
   obtain ⟨its, rv, ⟨o, ho, hc, n, hd⟩, _⟩ := I.tuple hq
   have hz' : (tupleText (PyData.shownAll ds)).length ≤ sizeLine := by simpa only [PyData.shown] using hz
   obtain ⟨⟨as, hr⟩, bs, hb, hk⟩ := rkL_of I ds _ its ha rv (by simpa only [PyData.showable] using hs) (fun t ht => Nat.le_trans (tupleText_mem_le ht) hz')
   have rr := Reads.tuple ho hc hd hr
   have hna := not_mem_of_deeper rr (n := PyData.depthAll ds) (by simp only [PyData.depth]; omega) hb
   simp only [PyData.depth] at hdp
   simp only [PyData.shown] at fin
   refine call_repr_slot (by omega) ⟨o, ho, hc⟩ F.slot_tuple_repr ?_
   exact call_tuple_reprK ho hc hd hna hk hgu (fun b _ => Clear.nil b) (by show X.A.units + 1 + _ < cLine; omega) (fun _ _ e => e) (fun h' u tk k => ⟨_, _, rfl, fin h' u tk k⟩) hz'
 | dict es =>
  cases hD with
  | @dct a kvs _ hq ha =>
   cases rv
   obtain ⟨_, hsy, vs, rv, o, ents, ep, ho, hc, hd, _, pr, _⟩ := (show ObjOk X.prog X.w H s.heap a (.dK kvs) from hq.ok I.hok)
   have hz' : (dictText (PyData.shownKv es)).length ≤ sizeLine := by simpa only [PyData.shown] using hz
   obtain ⟨⟨as, hrk⟩, ⟨as', hrv⟩, bs, hb, hk⟩ := rkE_of I es kvs vs ents.toList ha rv pr (by simpa only [PyData.showable] using hs) (fun t ht => Nat.le_trans (dictText_mem_le ht) hz')
   have rr := Reads.dict ho hc.1 hd hrk hrv
   have hna := not_mem_of_deeper rr (n := PyData.depthKv es) (by simp only [PyData.depth]; omega) hb
   simp only [PyData.depth] at hdp
   simp only [PyData.shown] at fin
   refine call_repr_slot (by omega) ⟨o, ho, hc.1⟩ F.slot_dict_repr ?_
   exact call_dict_reprK ho hc.1 hd hsy hna hk hgu (fun b _ => Clear.nil b) (by show X.A.units + 1 + _ < cLine; omega) (fun _ _ e => e) (fun h' u tk k => ⟨_, _, rfl, fin h' u tk k⟩) hz'
end
end G
namespace G
open PySem PySem.Spec PyProof.Rows L2
def Has (K : PySem.W.Frag) (f : Addr) (fd : FuncData) : Prop := ∃ o, K.lookup f = some o ∧ o.data = .func fd
theorem has_of {K : PySem.W.Frag} {x q : Str} {st : Stmt} {f : Addr} {fd : FuncData} (F : Fun K x q st f fd) : Has K f fd := by
 obtain ⟨oc, od, kV, doc, pm, an, cdv, ct, osl, rfl, lk, hcd⟩ := F.ex
 exact ⟨_, lk, rfl⟩
theorem Has.uniq {K : PySem.W.Frag} {f : Addr} {fd fd' : FuncData} (h : Has K f fd) (h' : Has K f fd') : fd = fd' := by
 obtain ⟨o, a, b⟩ := h
 obtain ⟨o', a', b'⟩ := h'
 rw [a] at a'
 cases a'
 rw [b] at b'
 cases b'
 rfl
def Def (K : PySem.W.Frag) (mg : Str → Option Value) (x : Str) (st : Stmt) (ps : List Str) : Prop := ∃ f fd, Fun K x x st f fd ∧ mg x = some (.ref f) ∧ Binds K fd ps []
def Cal (P : Program) (w : World) (K : PySem.W.Frag) (mg : Str → Option Value) (base : Heap) (cx : CXT) (k : Nat) (x : Str) (ps : List Str) (sp : Sp) : Prop :=
 ∃ f fd, FnOk P w K mg base cx k f fd ps sp ∧ mg x = some (.ref f) ∧ PySem.W.keepIn K (.ref f) = true ∧ Binds K fd ps [] ∧ Has K f fd
def CalG (P : Program) (w : World) (K : PySem.W.Frag) (mg : Str → Option Value) (base : Heap) (cx : CXT) (k : Nat) (x : Str) (ps : List Str) (sp : Sp) : Prop :=
 ∃ f fd, FnG P w K mg base cx k f fd ps sp ∧ mg x = some (.ref f) ∧ PySem.W.keepIn K (.ref f) = true ∧ Binds K fd ps [] ∧ Has K f fd
section
variable {P : Program} {w : World} {K : PySem.W.Frag} {mg : Str → Option Value} {base : Heap} {cx : CXT} {k : Nat} {x : Str} {ps N : List Str} {sp : Sp} {st : Stmt}
theorem Cal.up {j : Nat} (c : Cal P w K mg base cx j x ps sp) (h : j ≤ k) : Cal P w K mg base cx k x ps sp := let ⟨f, fd, F, r⟩ := c; ⟨f, fd, F.mono h, r⟩
theorem CalG.up {j : Nat} (c : CalG P w K mg base cx j x ps sp) (h : j ≤ k) : CalG P w K mg base cx k x ps sp := let ⟨f, fd, F, r⟩ := c; ⟨f, fd, F.up h, r⟩
theorem Cal.g (c : Cal P w K mg base cx k x ps sp) : CalG P w K mg base cx k x ps sp := let ⟨f, fd, F, r⟩ := c; ⟨f, fd, FnG.of F, r⟩
theorem Def.ok (D : Def K mg x st ps) (S : FnScope N ps (defScope st)) (ln : ∀ vs H Q E, sp vs H Q E → vs.length = ps.length)
  (bd : ∀ (f : Addr) (cdv : Value) (A : Around) (out : List Env) (s : Shared) (H : Hp) (vs : List V) (Q : VK) (E : XK), Room k (A.deeper (envOfC x (defScope st) s.heap.objs.size f cdv)) → sp vs H Q E →
   ∃ t, PSs (cxOf CX0 P w K mg base N x (defScope st) f cdv A out s H E).nox (defBody st) t ∧ t { nx := fun _ H' => Q .non H', rt := Q } (start N vs) H) : Cal P w K mg base CX0 (k + 1) x ps sp := by
 obtain ⟨f, fd, F, m, b⟩ := D
 exact ⟨f, fd, F.ok S ln fun cdv A out s H vs Q E hr h => bd f cdv A out s H vs Q E hr h, m, F.kp, b, has_of F⟩
theorem Def.okG (D : Def K mg x st ps) (S : FnScope N ps (defScope st)) (ln : ∀ vs H Q E, sp vs H Q E → vs.length = ps.length)
  (bd : ∀ (f : Addr) (cdv : Value) (A : Around) (out : List Env) (s : Shared) (H : Hp) (vs : List V) (Q : VK) (E : XK), A.guards = some [] → Room k (A.deeper (envOfC x (defScope st) s.heap.objs.size f cdv)) → sp vs H Q E →
   ∃ t, PSs (cxOf CX0 P w K mg base N x (defScope st) f cdv A out s H E).nox (defBody st) t ∧ t { nx := fun _ H' => Q .non H', rt := Q } (start N vs) H) : CalG P w K mg base CX0 (k + 1) x ps sp := by
 obtain ⟨f, fd, F, m, b⟩ := D
 exact ⟨f, fd, G.okG F S ln fun cdv A out s H vs Q E hg hr h => bd f cdv A out s H vs Q E hg hr h, m, F.kp, b, has_of F⟩
end
theorem def_mk {K : PySem.W.Frag} {mg : Str → Option Value} {h : Heap} {x : Str} {st : Stmt} {ps : List Str} {f : Addr} {oc : Value} {od an : Option Addr} {osl : Array (Option Value)} {kV doc pm cdv ct : Value} (X : K.In h) (G : h.Ns mainGlobals mg)
  (a : PySem.W.nsIn K mainGlobals x = some (some (.ref f))) (l : K.lookup f = some ⟨oc, od, .func (PySem.W.fnOf x x (defArgs st) (defBody st) (defScope st) .none kV doc pm an cdv ct), osl⟩) (c : PySem.W.codeIn K cdv x = true) (k : PySem.W.keepIn K (.ref f) = true)
  (hb : ∀ (kV doc pm : Value) (an : Option Addr) (cdv ct : Value) (us : List Value), us.length = ps.length → bindArgs (PySem.W.fnOf x x (defArgs st) (defBody st) (defScope st) .none kV doc pm an cdv ct) ⟨us, []⟩ = pure (ps.zip us)) : Def K mg x st ps :=
 have F := fun_mk (st := st) l c k
 ⟨f, _, F, PySem.W.mg_of X G a, F.binds hb⟩
theorem law_end {P : Program} {w : World} {K : PySem.W.Frag} {mg : Str → Option Value} {x p : Str} {st : Stmt} {k : Nat} {sp : Sp} {fa : Addr} {cx : CXT} (D : Def K mg x st [p]) (hfa : mg x = some (.ref fa))
  (hb : ∀ (kV doc pm : Value) (an : Option Addr) (cdv ct v : Value), bindArgs (PySem.W.fnOf x x (defArgs st) (defBody st) (defScope st) .none kV doc pm an cdv ct) ⟨[v], []⟩ = pure [(p, v)]) (F : ∀ base : Heap, K.In base → base.Ns mainGlobals mg → CalG P w K mg base cx k x [p] sp) :
  ∃ fd : FuncData, (∀ (s : Shared) (v : Value), BindsTo s fd ⟨[v], []⟩ [(p, v)]) ∧ ∀ base : Heap, K.In base → base.Ns mainGlobals mg → FnG P w K mg base cx k fa fd [p] sp := by
 obtain ⟨f, fd, fn, m, b⟩ := D
 rw [hfa] at m
 cases m
 refine ⟨fd, fun s v => ?_, fun base kb nb => ?_⟩
 ·obtain ⟨oc, od, kV, doc, pm, an, cdv, ct, osl, rfl, lk, hcd⟩ := fn.ex
  exact .of_eq (hb kV doc pm an cdv ct v)
 obtain ⟨f', fd', G', m', _, _, hs⟩ := F base kb nb
 rw [hfa] at m'
 cases m'
 have e := hs.uniq (has_of fn)
 subst e
 exact G'
section
variable {X : Cx} {cx : CXT} {k : Nat} {ps : List Str} {sp : Sp} {E : XK} {x : Str} {p pos : Pos} {e : Expr} {es : List Expr} {t : TA}
theorem pe_c (c : Cal X.prog X.w X.K X.mg X.base cx k x ps sp) (hr : Room k X.A) (hx : Passes cx X E) (ha : PA X (e :: es) t) (hg : Gl X x := by rfl) (hdb : (x == ("__debug__" : Str)) = false := by decide)
  (he : starEach (e :: es) X.env = (false, eval e X.env) :: starEach es X.env := by rfl) (hpl : (backTo pos (starEach es X.env)).any (·.1) = false := by rfl) : PE X (.Call (.Name x p) (e :: es) [] pos) (tCall sp [] E t) := by
 obtain ⟨f, fd, F, m, kp, b, _⟩ := c
 exact pe_call F hr hg m kp b .nil hx ha hdb he hpl
theorem pe_cG (c : CalG X.prog X.w X.K X.mg X.base cx k x ps sp) (hgu : X.A.guards = some []) (hr : Room k X.A) (hx : Passes cx X E) (ha : PA X (e :: es) t) (hg : Gl X x := by rfl) (hdb : (x == ("__debug__" : Str)) = false := by decide)
  (he : starEach (e :: es) X.env = (false, eval e X.env) :: starEach es X.env := by rfl) (hpl : (backTo pos (starEach es X.env)).any (·.1) = false := by rfl) : PE X (.Call (.Name x p) (e :: es) [] pos) (tCall sp [] E t) := by
 obtain ⟨f, fd, F, m, kp, b, _⟩ := c
 exact pe_callG F hgu hr hg m kp b .nil hx ha hdb he hpl
theorem pe_ty {n : String} (hm : X.mg x = none) (hv : bootBuiltins x = some (.type n)) (hg : Gl X x := by rfl) (hn : x ≠ "__name__" := by decide) (hd : (x == ("__debug__" : Str)) = false := by decide) : PE X (.Name x pos) (tC (.ty n)) :=
 pe_bltn hg hm hv rfl hn hd
theorem pe_gi {i : Int} {tk : Tok} (hm : X.mg x = some (.int i tk)) (hg : Gl X x := by rfl) (hd : (x == ("__debug__" : Str)) = false := by decide) : PE X (.Name x pos) (tC (.int i)) := pe_glob hg hm ⟨_, rfl⟩ hd
def rGetN (K : PySem.W.Frag) : V → V → Hp → VK → Prop := fun o i H Q => ∃ (q : Addr) (xs : List V) (n : Nat) (v : V), o = .ref q ∧ i = .int (n : Int) ∧ SqL K H q xs ∧ xs[n]? = some v ∧ Q v H
theorem get_list : PGet X (rGetN X.K) := by
 intro pins s σ H o i ov iv Q I ro ri h
 obtain ⟨q, xs, n, z, rfl, rfl, hq, he, q⟩ := h
 cases ro
 obtain ⟨t, rfl⟩ := ri
 obtain ⟨its, r, pl, hz⟩ := I.list hq
 obtain ⟨u, eu, ru⟩ := r.get he
 have hn := line63
 have hlt := (List.getElem?_eq_some_iff.mp he).1
 exact wpAny_getItem_list pl.isList (by omega) (by omega) (by simpa using eu) ⟨z, H, I, ru, q⟩
end
structure Blt (mg : Str → Option Value) : Prop where
 len : mg "len" = Option.none
 isinstance : mg "isinstance" = Option.none
 int : mg "int" = Option.none
 bool : mg "bool" = Option.none
 list : mg "list" = Option.none
 tuple : mg "tuple" = Option.none
 str : mg "str" = Option.none
 all : mg "all" = Option.none
 any : mg "any" = Option.none
 zip : mg "zip" = Option.none
 range : mg "range" = Option.none
 abs : mg "abs" = Option.none
 repr : mg "repr" = Option.none
 min : mg "min" = Option.none
 max : mg "max" = Option.none
 sum : mg "sum" = Option.none
 sorted : mg "sorted" = Option.none
 enumerate : mg "enumerate" = Option.none
 reversed : mg "reversed" = Option.none
 set : mg "set" = Option.none
 dict : mg "dict" = Option.none
 ValueError : mg "ValueError" = Option.none
section
variable (K : PySem.W.Frag) {X : Cx}
theorem kixL (h : X.K = K := by rfl) : IxR X (rIxL K) := by subst h; exact ix_list
theorem kixS (h : X.K = K := by rfl) : IxR X (rIx K) := by subst h; exact ix_seq
theorem kslL (h : X.K = K := by rfl) : SlR X (rSlL K) := by subst h; exact sl_list
theorem kisi (h : X.K = K := by rfl) : CallR X (.builtin "isinstance") (rIsi K) := by subst h; exact call_isi
theorem klen (h : X.K = K := by rfl) : CallR X (.builtin "len") (fun xs H Q => ∃ x n, xs = [x] ∧ LenV K x H n ∧ Q (.int n) H) := by subst h; exact call_len
theorem kall (hc : X.calm = true := by rfl) (h : X.K = K := by rfl) : CallR X (.builtin "all") (rAll K) := by subst h; exact cr_all hc
theorem kany (hc : X.calm = true := by rfl) (h : X.K = K := by rfl) : CallR X (.builtin "any") (rAny K) := by subst h; exact cr_any hc
theorem ksum (hc : X.calm = true := by rfl) (h : X.K = K := by rfl) : CallR X (.builtin "sum") (rSum K) := by subst h; exact cr_sum hc
theorem krepr (hgu : X.A.guards = some []) (hu : X.A.units + 64 < cLine) (h : X.K = K := by rfl) : CallR X (.builtin "repr") (rRepr K) := by subst h; exact call_repr hgu hu
theorem keq (hu : X.A.units + 64 < cLine) (h : X.K = K := by rfl) : OpR X (compareOp .Eq) (rEqD K) := by subst h; exact op_eqD hu
theorem kne (hu : X.A.units + 64 < cLine) (h : X.K = K := by rfl) : OpR X (compareOp .NotEq) (rNeD K) := by subst h; exact op_neD hu
theorem kin (h : X.K = K := by rfl) : OpR X (compareOp .In) (rIn K false) := by subst h; exact op_in_seq
theorem ktup (h : X.K = K := by rfl) : CallR X (.type "tuple") (fun xs H Q => ∃ p ys, xs = [.ref p] ∧ ((SqL K H p ys ∧ ∀ l, H l = none → Q (.ref l) (upd H l (.tup ys))) ∨ (SqT K H p ys ∧ Q (.ref p) H))) := by subst h; exact call_tuple_of
theorem klist (h : X.K = K := by rfl) : CallR X (.type "list") (fun xs H Q => ∃ p ys, xs = [.ref p] ∧ (SqL K H p ys ∨ SqT K H p ys) ∧ ∀ l, H l = none → Q (.ref l) (upd H l (.lst ys))) := by subst h; exact call_list_of
end
def hid (b : Addr) (H : Hp) : Hp := fun a => if a = b then none else H a
theorem hid_at {b : Addr} {H : Hp} : hid b H b = none := if_pos rfl
theorem hid_ne {b a : Addr} {H : Hp} (h : a ≠ b) : hid b H a = H a := if_neg h
theorem hid_same {b : Addr} {H H' : Hp} (s : Same H H') : Same (hid b H) (hid b H') := fun a o e => by
 by_cases h : a = b
 ·subst h; rw [hid_at] at e; cases e
 ·rw [hid_ne h] at e ⊢; exact s _ _ e
theorem hid_upd {b : Addr} {H : Hp} {o : HO} : hid b (upd H b o) = hid b H := by
 funext a
 by_cases h : a = b
 ·subst h; rw [hid_at, hid_at]
 ·rw [hid_ne h, hid_ne h, upd_ne h]
theorem same_new {H : Hp} {p : Addr} {o : HO} (h : H p = none) : Same H (upd H p o) := fun a u e => by
 rw [upd_ne (ne_of_none e h)]
 exact e
def BagC (b c : Addr) (H : Hp) : Prop := ∃ (a s k : Int) (cs : List Int), H b = some (.lst [.int a, .int s, .int k, .ref c]) ∧ H c = some (.lst (cs.map V.int)) ∧ c ≠ b ∧ 0 ≤ a ∧ (∀ z ∈ cs, 0 ≤ z) ∧ 0 ≤ s ∧ s < 2147483647 ∧ 0 ≤ k
def BagOk (b : Addr) (H : Hp) : Prop := ∃ c, BagC b c H
structure Go (b : Addr) (H H' : Hp) : Prop where
 bg : ∃ c, BagC b c H ∧ BagC b c H'
 sm : Same (hid b H) (hid b H')
theorem Go.bag {b : Addr} {H H' : Hp} (g : Go b H H') : BagOk b H' := let ⟨c, _, h⟩ := g.bg; ⟨c, h⟩
theorem BagC.up {b c : Addr} {H H' : Hp} (h : BagC b c H) (s : Same H H') : BagC b c H' := by
 obtain ⟨a, z, k, cs, h1, h2, r⟩ := h
 exact ⟨a, z, k, cs, s _ _ h1, s _ _ h2, r⟩
theorem BagC.uniq {b c c' : Addr} {H : Hp} (h : BagC b c H) (h' : BagC b c' H) : c = c' := by
 obtain ⟨a, z, k, cs, h1, _⟩ := h
 obtain ⟨a', z', k', cs', h1', _⟩ := h'
 rw [h1] at h1'
 cases h1'
 rfl
theorem BagOk.up {b : Addr} {H H' : Hp} (h : BagOk b H) (s : Same H H') : BagOk b H' := let ⟨c, q⟩ := h; ⟨c, q.up s⟩
theorem BagOk.ne {b p : Addr} {H : Hp} (h : BagOk b H) (e : H p = none) : p ≠ b := by
 obtain ⟨c, a, z, k, cs, h1, _⟩ := h
 exact fun q => by rw [q, h1] at e; cases e
theorem Go.refl {b : Addr} {H : Hp} (h : BagOk b H) : Go b H H := let ⟨c, q⟩ := h; ⟨⟨c, q, q⟩, Same.refl _⟩
theorem Go.of {b : Addr} {H H' : Hp} (h : BagOk b H) (s : Same H H') : Go b H H' := let ⟨c, q⟩ := h; ⟨⟨c, q, q.up s⟩, hid_same s⟩
theorem Go.trans {b : Addr} {H H1 H2 : Hp} (x : Go b H H1) (y : Go b H1 H2) : Go b H H2 := by
 obtain ⟨c, c1, c2⟩ := x.bg
 obtain ⟨d, d1, d2⟩ := y.bg
 have e := c2.uniq d1
 subst e
 exact ⟨⟨c, c1, d2⟩, x.sm.trans y.sm⟩
theorem Go.mut {b L : Addr} {o : HO} {H H' : Hp} (x : Go b H H') (h : H L = none) : Go b H (upd H' L o) := by
 obtain ⟨c, c1, c2⟩ := x.bg
 refine ⟨⟨c, c1, ?_⟩, fun a u e => ?_⟩
 ·obtain ⟨a, z, k, cs, h1, h2, _⟩ := c1
  obtain ⟨a', z', k', cs', h1', h2', r⟩ := c2
  exact ⟨a', z', k', cs', by rw [upd_ne (ne_of_none h1 h)]; exact h1', by rw [upd_ne (ne_of_none h2 h)]; exact h2', r⟩
 ·by_cases hb : a = b
  ·subst hb; rw [hid_at] at e; cases e
  ·have q := x.sm a u e
   rw [hid_ne hb] at e q ⊢
   rw [upd_ne (ne_of_none e h)]
   exact q
theorem Go.da {K : PySem.W.Frag} {b : Addr} {H H' : Hp} {v : V} {d : PyData} (g : Go b H H') (h : Da K (hid b H) v d) : Da K (hid b H') v d := h.mono g.sm
def sp_take : Sp := fun vs H Q _ => ∃ (b : Addr) (m : Int), vs = [.ref b, .int m] ∧ BagOk b H ∧ 0 < m ∧ m < 2 ^ 200 ∧ ∀ (v : Int) (H' : Hp), 0 ≤ v → v < m → Go b H H' → Q (.int v) H'
def sp_bag (K : PySem.W.Frag) : Sp := fun vs H Q _ => ∃ (a : Addr) (ns : List Int), vs = [.ref a] ∧ SqL K H a (ns.map V.int) ∧ ns.length ≤ 1000 ∧ ∀ (b : Addr) (H' : Hp), H b = none → Same H H' → BagOk b H' → Q (.ref b) H'
end G
namespace G
open PySem PySem.Spec PyProof.Rows L2
theorem cut_map {α : Type} (f : α → V) (ns : List α) (lo hi : Option Int) : ∃ a b, cutV (ns.map f) lo hi = ((ns.drop a).take b).map f := by
 have e : cutV (ns.map f) lo hi = ((ns.map f).drop _).take _ := rfl
 rw [← List.map_drop, ← List.map_take] at e
 exact ⟨_, _, e⟩
theorem lc_map {K : PySem.W.Frag} {a : Addr} {xs ys : List V} {j : Nat} {te : TE} {vs : List Nat} {σ : L2.St} {H1 : Hp} {D : Addr} {Qd : Hp → Prop} (hx : SqL K H1 a xs) (hD : H1 D = none) (hl : ys.length = xs.length) (hz : xs.length ≤ 100000)
  (hw : ∀ x, wipe ((wipe σ vs).set j (some x)) vs = wipe σ vs)
  (hs : ∀ (i : Nat) (x y : V), xs[i]? = some x → ys[i]? = some y → ∀ H, Same H1 H → ∀ Q : VK, (∀ H4, Same H H4 → Q y H4) → te ((wipe σ vs).set j (some x)) H Q)
  (hd : ∀ H, Same H1 H → H D = some (.lst ys) → Qd H) :
  ∃ W : Nat → Nat → Hp → Prop, (∃ m, W 0 m (upd H1 D (.lst []))) ∧ ∀ i m H, W i m H →
   ((Itl K a).stop i H ∧ Qd H) ∨ ((Itl K a).go i H ∧ ∃ Nx : Hp → Prop, (∀ H', Nx H' → ∃ m', m' < m ∧ W (i + 1) m' H') ∧ ∀ x H', (Itl K a).yld i H x H' → gName j x (wipe σ vs) H' fun σ2 H2 => wipe σ2 vs = wipe σ vs ∧ tYes σ2 H2 fun b H3 =>
    if b = true then te σ2 H3 fun y H4 => ∃ acc, H4 D = some (.lst acc) ∧ acc.length < sizeLine ∧ Nx (upd H4 D (.lst (acc ++ [y]))) else Nx H3) := by
 refine lc_list (K := K) (a := a) (xs := xs) (fun i H => Same H1 H ∧ H D = some (.lst (ys.take i))) ⟨same_new hD, upd_same⟩ (fun i H _ p => sql_up p.1 hx) (fun i x H hi p => ?_) (fun H p => hd H p.1 (by rw [p.2, ← hl, List.take_length]))
 have hlt := (List.getElem?_eq_some_iff.mp hi).1
 have hy : ys[i]? = some ys[i] := List.getElem?_eq_getElem (by omega)
 refine ⟨hw x, ?_⟩
 unfold tYes
 refine iteT (hs i x ys[i] hi hy H p.1 _ fun H4 e4 => ⟨ys.take i, e4 _ _ p.2, ?_, ?_, ?_⟩)
 ·rw [List.length_take, sizeLine_eq]; omega
 ·exact fun b o e => by
   rw [upd_ne (ne_of_none e hD)]
   exact e4 _ _ (p.1 _ _ e)
 ·rw [upd_same, List.take_succ, hy]
  rfl
end G
namespace G
open PySem PySem.Spec PyProof.Rows L2
end G
namespace G
open PySem PySem.Spec PyProof.Rows L2
end G
namespace G
open PySem PySem.Spec PyProof.Rows L2
structure Sm (n B : Nat) (d : PyData) : Prop where
 sh : d.showable = true
 dp : d.depth ≤ n
 ln : d.shown.length ≤ B
theorem Sm.up {n m A B : Nat} {d : PyData} (h : Sm n A d) (a : n ≤ m) (b : A ≤ B) : Sm m B d := ⟨h.sh, Nat.le_trans h.dp a, Nat.le_trans h.ln b⟩
theorem Sm.none : Sm 0 5 PyData.none := ⟨rfl, Nat.le_refl _, by decide +kernel⟩
theorem Sm.bool (b : Bool) : Sm 0 5 (PyData.bool b) := by cases b <;> exact ⟨rfl, Nat.le_refl _, by decide +kernel⟩
theorem Sm.int {i : Int} (h : i.natAbs < 10 ^ 45) : Sm 0 46 (PyData.int i) := by
 refine ⟨?_, Nat.le_refl _, ?_⟩
 ·simp only [PyData.showable, decide_eq_true_eq]
  exact Nat.lt_trans (PySem.Flt.log2_lt_of (k := 200) (by decide) (Nat.lt_trans h (by decide))) (by decide)
 ·simp only [PyData.shown]
  have e := int_text_length_le10 (a := i) (k := 45) (by decide) h
  rw [PySem.ofString_length]
  exact e
theorem sm_all {n B : Nat} : ∀ {ds : List PyData}, (∀ d ∈ ds, Sm n B d) → PyData.showableAll ds = true ∧ PyData.depthAll ds ≤ n ∧ ((PyData.shownAll ds).map (·.length)).sum ≤ B * ds.length ∧ (PyData.shownAll ds).length = ds.length
 | [], _ => by simp [PyData.showableAll, PyData.depthAll, PyData.shownAll]
 | d :: ds, h => by
  obtain ⟨a, b, c, e⟩ := sm_all (ds := ds) fun x hx => h x (List.mem_cons_of_mem _ hx)
  have hd := h d List.mem_cons_self
  have h1 := hd.dp
  have h2 := hd.ln
  refine ⟨?_, ?_, ?_, ?_⟩
  ·simp only [PyData.showableAll, hd.sh, a, Bool.and_self]
  ·simp only [PyData.depthAll]
   omega
  ·simp only [PyData.shownAll, List.map_cons, List.sum_cons, List.length_cons, Nat.mul_add, Nat.mul_one]
   omega
  ·simp only [PyData.shownAll, List.length_cons, e]
theorem Sm.list {n B m : Nat} {ds : List PyData} (h : ∀ d ∈ ds, Sm n B d) (hm : ds.length ≤ m) : Sm (n + 1) ((B + 2) * m + 3) (PyData.list ds) := by
 obtain ⟨a, b, c, e⟩ := sm_all h
 refine ⟨by simpa only [PyData.showable] using a, by simp only [PyData.depth]; omega, ?_⟩
 simp only [PyData.shown]
 have q := listText_len_le (PyData.shownAll ds)
 rw [e] at q
 have l1 : B * ds.length ≤ B * m := Nat.mul_le_mul_left _ hm
 have l2 : (B + 2) * m = B * m + 2 * m := Nat.add_mul _ _ _
 omega
theorem Sm.tuple {n B m : Nat} {ds : List PyData} (h : ∀ d ∈ ds, Sm n B d) (hm : ds.length ≤ m) : Sm (n + 1) ((B + 2) * m + 3) (PyData.tuple ds) := by
 obtain ⟨a, b, c, e⟩ := sm_all h
 refine ⟨by simpa only [PyData.showable] using a, by simp only [PyData.depth]; omega, ?_⟩
 simp only [PyData.shown]
 have q := tupleText_len_le (PyData.shownAll ds)
 rw [e] at q
 have l1 : B * ds.length ≤ B * m := Nat.mul_le_mul_left _ hm
 have l2 : (B + 2) * m = B * m + 2 * m := Nat.add_mul _ _ _
 omega
section
variable {X : Cx}
end
end G
namespace G
open PySem PySem.Spec PyProof.Rows L2
end G
namespace G
open PySem PySem.Spec PyProof.Rows L2
end G
namespace G
open PySem PySem.Spec PyProof.Rows L2
theorem Go.get {b p : Addr} {o : HO} {H H' : Hp} (g : Go b H H') (h : H p = some o) (n : p ≠ b) : H' p = some o := by
 have q := g.sm p o (by rw [hid_ne n]; exact h)
 rw [hid_ne n] at q
 exact q
end G
namespace G
open PySem PySem.Spec PyProof.Rows L2
end G
namespace G
open PySem PySem.Spec PyProof.Rows L2
end G
namespace G
open PySem PySem.Spec PyProof.Rows L2
def sp_law (K : PySem.W.Frag) : Sp := fun vs H Q _ => ∃ (a : Addr) (ns : List Int), vs = [.ref a] ∧ SqL K H a (ns.map V.int) ∧ ns.length ≤ 63 ∧ ∀ H', Q (.bl true) H'
theorem Sm.fits {n : Nat} {B : Nat} {d : PyData} (h : Sm n B d) (hB : B ≤ 16777216) : d.shown.length ≤ sizeLine := by
 rw [sizeLine_eq]
 exact Nat.le_trans h.ln hB
end G
namespace G
open PySem PySem.Spec PyProof.Rows L2 PpSet
section
variable {P : Program} {w : World} {A : Around} {E : Value → Shared → Prop} {s : Shared}
theorem setT_add {a x : Addr} {L : List (Addr × List Int)} {es : Array (Int × Value)} {ep : Nat} {t : SetTable} {k : List Int} {Q : Value → Shared → Prop} (R : SetTR P w s.heap a L es ep t) (hx : IsT P w s.heap k x) (hu : A.units + 8 < cLine) (few : L.length + 1 < 64)
  (hQ : ∀ h' tk L', Heap.SameBut a s.heap h' → SetT0 P w h' a L' → (k ∈ L.map (·.2) → L' = L) → (k ∉ L.map (·.2) → L'.Perm ((x, k) :: L)) → Q .none { s with heap := h', toks := tk }) :
  wpAny (model P w) A (call (.builtin "set.add") [.ref a, .ref x]) Q E s := by
 obtain ⟨o, ho, hex, hd⟩ := R.ob
 refine wpAny_call_entry F.slot_set_add (⟨o, ho, hex.1⟩ : s.TypeIs (.ref a) "set") F.entry_set_add ?_ (F.args_set_add_2 _ _)
 unfold Builtin.«set.add» Builtin.Frozenset.oneOther
 simp only [List.isEmpty_nil, bind_assoc]
 unfold Builtin.Frozenset.addrOf setAdd
 refine wpAny_bind (wpAny_pure ?_)
 try dsimp only
 refine wpAny_bind (wpAny_pure ?_)
 try dsimp only
 refine wpAny_bind (wpAny_holding ?_)
 refine wpAny_bind (wpAny_pyHash_tuple (by show A.units + 1 < cLine; omega) hx ?_)
 refine add_at (s := { s with toks := s.toks + (k.length + 1) }) R hx (by show A.units + 1 < cLine; omega) few fun b h' L' es' ep' t' sb r c1 c2 => ?_
 show wpAny _ _ (ret Value.none) _ _ _
 exact wpAny_pure ⟨_, rfl, hQ h' _ L' sb r.t0 c1 c2⟩
end
section
variable {X : Cx} {pins : List (Addr × Obj)} {σ : L2.St} {H : Hp} {s : Shared}
theorem setTO_at {D : Addr} {L : List (Addr × List Int)} (I : Inv X pins σ H s) (h : H D = some (SetTO X.prog X.w D L)) : SetT0 X.prog X.w s.heap D L := (I.hok D _ h).1
theorem addT_ok {E : Value → Shared → Prop} {D x : Addr} {L : List (Addr × List Int)} {k : List Int} {Q : Value → Shared → Prop} (I : Inv X pins σ H s) (hD : H D = some (SetTO X.prog X.w D L)) (hL : ∀ p ∈ L, SqT X.K H p.1 (p.2.map V.int)) (hx : SqT X.K H x (k.map V.int))
  (hu : X.A.units + 8 < cLine) (few : L.length + 1 < 64) (h : ∀ s' L', Inv X pins σ (upd H D (SetTO X.prog X.w D L')) s' → (k ∈ L.map (·.2) → L' = L) → (k ∉ L.map (·.2) → L'.Perm ((x, k) :: L)) → Q .none s') :
  wpAny (model X.prog X.w) X.A (call (.builtin "set.add") [.ref D, .ref x]) Q E s := by
 obtain ⟨es, ep, t, R⟩ := (setTO_at I hD).full fun p hp => I.isT (hL p hp)
 refine setT_add R (I.isT hx) hu few fun h' tk L' sb r c1 c2 => ?_
 obtain ⟨es', ep', t', ⟨o, ho, _⟩, _⟩ := r.ex
 exact h _ L' (I.write (e := D) (t' := tk) (by rw [hD]; trivial) (.inl rfl) (fun b u hb hu => (sb.2 b hb).trans hu) ⟨o, ho⟩ (setTO_new r)) c1 c2
theorem call_lenT (K : PySem.W.Frag) (h : X.K = K := by rfl) : CallR X (.builtin "len") (fun xs H Q => ∃ (a : Addr) (L : List (Addr × List Int)), xs = [.ref a] ∧ H a = some (SetTO X.prog X.w a L) ∧ (∀ p ∈ L, SqT K H p.1 (p.2.map V.int)) ∧ Q (.int (L.length : Int)) H) := by
 subst h
 intro pins s σ H xs us Q I r h
 obtain ⟨a, L, rfl, hD, hL, q⟩ := h
 obtain ⟨u, rfl, ru⟩ := vals1 r
 cases (show u = Value.ref a from ru)
 obtain ⟨es, ep, t, R⟩ := (setTO_at I hD).full fun p hp => I.isT (hL p hp)
 obtain ⟨o, ho, hex, hd⟩ := R.ob
 have hs := R.size
 have hf := R.few
 refine call_len_set ho hex hd R.fits (by omega) ?_
 rw [hs]
 exact ⟨.int _, H, I.tok _, ⟨_, rfl⟩, q⟩
end
section
variable {X : Cx}
def tScT (P : Program) (K : PySem.W.Frag) (w : World) (wi : TI) (g : TG) (tt : TT) (te : TE) (vs : List Nat) : TE := fun σ H Q => wi σ H fun J H1 => ∀ D, H1 D = none → ∃ W : Nat → Nat → Hp → Prop, (∃ m, W 0 m (upd H1 D (SetTO P w D []))) ∧ ∀ i m H, W i m H →
 (J.stop i H ∧ Q (.ref D) H) ∨ (J.go i H ∧ ∃ Nx : Hp → Prop, (∀ H', Nx H' → ∃ m', m' < m ∧ W (i + 1) m' H') ∧ ∀ x H', J.yld i H x H' → g x (wipe σ vs) H' fun σ2 H2 => wipe σ2 vs = wipe σ vs ∧ tt σ2 H2 fun b H3 =>
  if b = true then te σ2 H3 fun y H4 => ∃ (x : Addr) (k : List Int) (L : List (Addr × List Int)), y = .ref x ∧ SqT K H4 x (k.map V.int) ∧ H4 D = some (SetTO P w D L) ∧ (∀ p ∈ L, SqT K H4 p.1 (p.2.map V.int)) ∧ L.length + 1 < 64 ∧
   ∀ L', (k ∈ L.map (·.2) → L' = L) → (k ∉ L.map (·.2) → L'.Perm ((x, k) :: L)) → Nx (upd H4 D (SetTO P w D L')) else Nx H3)
theorem setT_new0 {P : Program} {w : World} {h : Heap} : SetT0 P w (h.push { cls := .type "set", dict := none, data := .set #[] 0 (.fresh 0 0 (!w.params.followText "set-order")) }) h.objs.size [] := (setTR_fresh (Heap.get?_push_size _ rfl)).t0
theorem scT_core {pins : List (Addr × Obj)} {s : Shared} {σ : L2.St} {H : Hp} {Q : VK} {elt tg iter : Expr} {ifs : List Expr} {scope : Scope} {own : List (PySem.Str × Nat)} {pos pos' : Pos} {wi : TI} {g : TG} {tt : TT} {te : TE} {use : Option (Value → Sem Unit)} {Qf : Value → Shared → Prop}
  (hu : X.A.units + 8 < cLine) (calm : X.calm = true) (nodup : X.N.Nodup) (I : Inv X pins σ H s) (hi : PI X tg iter wi) (ok : BlkOk X.N X.env.scope scope own)
  (hg : ∀ (z : Shared) (H : Hp) (C : Addr) (cl : List (PySem.Str × Addr)) (fp : List Addr), PG (X.blk z H scope (compEnvC scope cl C X.env) fp) tg g) (ht : ∀ (z : Shared) (H : Hp) (C : Addr) (cl : List (PySem.Str × Addr)) (fp : List Addr), PTs (X.blk z H scope (compEnvC scope cl C X.env) fp) ifs tt)
  (he : ∀ (z : Shared) (H : Hp) (C : Addr) (cl : List (PySem.Str × Addr)) (fp : List Addr), PE (X.blk z H scope (compEnvC scope cl C X.env) fp) elt te) (fold : ∀ x, foldedSetIterable iter X.env x = pure x)
  (h : tScT X.prog X.K X.w wi g tt te (own.map (·.2)) σ H Q)
  (after : ∀ D C s' m H', Inv X pins σ H' s' → Q (.ref D) H' → s'.heap.Ns C m → FpOk X pins H' C → compPost (model X.prog X.w) X.A X.xe use Qf (.ref D) C (.ok .next) s') :
  wpAny (model X.prog X.w) X.A (comprehension (.SetComp elt [⟨tg, iter, ifs, 0⟩] scope pos) scope X.env pos' (newSet (.type "set")) false (eval iter X.env) use) Qf X.xe s := by
 have captured : ∀ y ∈ scope.names, y.2 = .free → ∃ c, X.env.cells.lookup y.1 = some c := fun y hy e => by
  rcases ok.free y hy e with q | q
  ·exact I.ok.has _ (.inl q)
  ·exact I.ok.has _ (.inr q)
 refine wpAny_comprehension_free (use := use) rfl fold (closure_ok captured) ok.kind (fun y hy e => by rw [ok.uniq y hy, e])
  (thn (hi.run pins s σ H _ I h) fun xv r1 hx => thn hx fun itv r2 h2 => ?_)
 obtain ⟨it, fp, tn, J, H2, e, I2, T, st2, f2, q⟩ := h2
 subst e
 refine newSet_ok (newEnv_comp ?_)
 generalize eD : r2.heap.objs.size = D
 have fresh : H2 D = none := I2.hok.fresh (Nat.le_of_eq eD)
 obtain ⟨W, ⟨m0, w0⟩, turn⟩ := q D fresh
 generalize e3 : ({ r2 with heap := r2.heap.push { cls := .type "set", dict := none, data := .set #[] 0 (.fresh 0 0 (!X.w.params.followText "set-order")) } } : Shared) = r3
 have I3 : Inv X pins σ (upd H2 D (SetTO X.prog X.w D [])) r3 := by
  rw [← e3]
  refine I2.laid (t' := r2.toks) (fun b o e => Heap.get?_push_of_some _ e) (Nat.le_of_eq eD) ?_
  rw [← eD]
  exact setTO_new setT_new0
 have hp3 : r3.heap = r2.heap.push { cls := .type "set", dict := none, data := .set #[] 0 (.fresh 0 0 (!X.w.params.followText "set-order")) } := by rw [← e3]
 have below : ∀ b ∈ fp, b < r2.heap.objs.size := fun b hb => by
  obtain ⟨o, e, _⟩ := T.obj _ _ st2 b hb
  exact Heap.lt_size e
 have f3 : ∀ b ∈ fp, FpOk X pins (upd H2 D (SetTO X.prog X.w D [])) b ∧ b < r3.heap.objs.size := fun b hb => by
  have lt := below b hb
  refine ⟨⟨?_, (f2 b hb).2⟩, by rw [hp3, Heap.size_push]; exact Nat.lt_succ_of_lt lt⟩
  rw [upd_ne (by rw [← eD]; exact Nat.ne_of_lt lt)]
  exact (f2 b hb).1
 have st3 : tn 0 r3.heap := T.keep _ _ _ st2 fun b _ o e => by rw [hp3]; exact Heap.get?_push_of_some _ e
 have I4 := block_start I3 ok nodup f3
 have pgo := hg r3 (upd H2 D (SetTO X.prog X.w D [])) r3.heap.objs.size (cellsFrom (r3.heap.objs.size + 1) scope.names (cloFrom X.env.cells scope.names [])) fp
 have pte := ht r3 (upd H2 D (SetTO X.prog X.w D [])) r3.heap.objs.size (cellsFrom (r3.heap.objs.size + 1) scope.names (cloFrom X.env.cells scope.names [])) fp
 have pel := he r3 (upd H2 D (SetTO X.prog X.w D [])) r3.heap.objs.size (cellsFrom (r3.heap.objs.size + 1) scope.names (cloFrom X.env.cells scope.names [])) fp
 show codeAny _ _ (.compStart (.SetComp elt [⟨tg, iter, ifs, 0⟩] scope pos) 0 (.ref it) (.ref D) (compEnvC scope (cellsFrom (r3.heap.objs.size + 1) scope.names (cloFrom X.env.cells scope.names [])) r3.heap.objs.size X.env)) (compPost (model X.prog X.w) X.A X.xe use Qf (.ref D) r3.heap.objs.size) { r3 with heap := pushCells (r3.heap.push { cls := .type "dict", data := .dict #[] }) scope.names }
 have nfp : ∀ b ∈ fp, (upd H2 D (SetTO X.prog X.w D [])) b = none := fun b hb => (f3 b hb).1.1
 generalize ece : compEnvC scope (cellsFrom (r3.heap.objs.size + 1) scope.names (cloFrom X.env.cells scope.names [])) r3.heap.objs.size X.env = ce at I4 pgo pte pel ⊢
 have eL : ce.locals = r3.heap.objs.size := by subst ece; rfl
 generalize eH3 : upd H2 D (SetTO X.prog X.w D []) = H3 at I3 I4 pgo pte pel w0 nfp f3
 generalize e4 : ({ r3 with heap := pushCells (r3.heap.push { cls := .type "dict", data := .dict #[] }) scope.names } : Shared) = r4 at I4 ⊢
 have st4 : tn 0 r4.heap := T.keep _ _ _ st3 fun b _ o e => by rw [← e4]; exact pushCells_keeps _ _ _ _ (Heap.get?_push_of_some _ e)
 have stat : ∀ {σ' : L2.St} {H' : Hp} {s' : Shared}, Inv (X.blk r3 H3 scope ce fp) [] σ' H' s' → (∀ b ∈ fp, H' b = none) → ∀ b ∈ fp, FpOk (X.blk r3 H3 scope ce fp) [] H' b := by
  intro σ' H' s' I' hn b hb
  exact ⟨hn b hb, (I'.ok.exf b hb).1, I'.ok.exfs b hb, .inl hb, fun x c e => (I'.ok.exf b hb).2 x c e, fun p hp => absurd (show p ∈ ([] : List (Addr × Obj)) ++ [] from hp) (by simp)⟩
 have loop : codeAny (model X.prog X.w) X.A (.compLoop (.SetComp elt [⟨tg, iter, ifs, 0⟩] scope pos) 0 (.ref it) (.ref D) ce) (compPost (model X.prog X.w) X.A X.xe use Qf (.ref D) r3.heap.objs.size) r4 := by
  refine compLoopS_any (fun n s' => ∃ i H', Inv (X.blk r3 H3 scope ce fp) [] (wipe σ (own.map (·.2))) H' s' ∧ tn i s'.heap ∧ (∀ b ∈ fp, H' b = none) ∧ W i n H') ?_ m0 ⟨0, H3, I4, st4, nfp, w0⟩
  rintro n r5 ⟨i, H5, I5, st5, n5, w5⟩
  rcases turn i n H5 w5 with ⟨stop, qq⟩ | ⟨go, Nx, hNx, step⟩
  ·have td := T.done (X.blk r3 H3 scope ce fp) rfl rfl rfl calm i [] r5 _ H5 (fun _ _ => False) I5 (stat I5 n5) st5 stop
   refine thnF td fun r r6 ⟨hr, I6⟩ => ?_
   subst hr
   have I7 : Inv X pins σ H5 r6 := I3.call' (ch := fp) I6.os I6.base I6.hok I6.bare fun b hb => ⟨(f3 b hb).1.2.2.2.1, (f3 b hb).1.2.1, (f3 b hb).1.2.2.2.2.1, (f3 b hb).1.2.2.2.2.2⟩
   have nC : H5 r3.heap.objs.size = none := by
    have z : H5 ce.locals = none := I6.free
    rwa [eL] at z
   obtain ⟨m, hn, _⟩ := I6.loc
   have hn' : r6.heap.Ns ce.locals m := hn
   rw [eL] at hn'
   exact after D r3.heap.objs.size r6 m H5 I7 qq hn' (I3.fpOk (Nat.le_refl _) nC)
  ·have ti := T.item (X.blk r3 H3 scope ce fp) rfl rfl rfl calm i [] r5 _ H5 (fun _ _ => False) I5 (stat I5 n5) st5 go
   refine thnF ti fun r r6 ⟨u, hr, h6⟩ => ?_
   subst hr
   refine thnF h6 fun _ r7 ⟨x, H7, I7, rl7, y7, st7, n7⟩ => ?_
   have I7' := I7.pinned (stat I7 n7) (T.obj _ _ st7)
   refine thnF (pgo.run _ r7 _ H7 x u _ I7' rl7 (step x H7 y7)) fun _ r8 ⟨σ8, H8, I8, hw8, q8⟩ => ?_
   refine thnF (pte.run _ r8 σ8 H8 _ I8 q8) fun b r9 ⟨H9, I9, q9⟩ => ?_
   have fin : ∀ {s' : Shared} {H' : Hp}, Inv (X.blk r3 H3 scope ce fp) ([] ++ pinsAt fp r7.heap) σ8 H' s' → Nx H' → ∃ m, m < n ∧ ∃ i H', Inv (X.blk r3 H3 scope ce fp) [] (wipe σ (own.map (·.2))) H' s' ∧ tn i s'.heap ∧ (∀ b ∈ fp, H' b = none) ∧ W i m H' := by
    intro s' H' I' nx
    obtain ⟨m', hm, w'⟩ := hNx H' nx
    have pin' : ∀ b ∈ fp, ∀ o, r7.heap.get? b = some o → s'.heap.get? b = some o ∧ H' b = none := fun b hb o e =>
     have z := I'.pin (b, o) (List.mem_append_right _ (List.mem_append_right _ (mem_pinsAt hb e)))
     ⟨z.1, z.2.1⟩
    have len : (wipe σ (own.map (·.2))).length = σ8.length := by rw [← hw8, wipe_length]
    refine ⟨m', hm, i + 1, H', (I'.unpinned (pins := [])).weak len (fun j v e => ?_), T.keep _ _ _ st7 fun b hb o e => (pin' b hb o e).1, fun b hb => ?_, w'⟩
    ·rw [← hw8] at e
     exact (wipe_some e).1
    ·obtain ⟨o, e, _⟩ := T.obj _ _ st7 b hb
     exact (pin' b hb o e).2
   cases b with
   | false =>
    simp only [Bool.false_eq_true, if_false] at q9 ⊢
    exact fin I9 q9
   | true =>
    simp only [if_true] at q9 ⊢
    refine thnF (pel.run _ r9 σ8 H9 _ I9 q9) fun z r10 ⟨yv, H10, I10, rl10, xa, k, L, ey, hx10, hD10, hL10, few, nx⟩ => ?_
    subst ey
    cases (show z = Value.ref xa from rl10)
    exact addT_ok (X := X.blk r3 H3 scope ce fp) I10 hD10 hL10 hx10 hu few fun r11 L' I11 c1 c2 => fin I11 (nx L' c1 c2)
 exact codeAny_compStart_set loop (T.self X.A 0 _ _ _ st4 loop)
theorem pe_scT {elt tg iter : Expr} {ifs : List Expr} {scope : Scope} {own : List (PySem.Str × Nat)} {pos : Pos} {wi : TI} {g : TG} {tt : TT} {te : TE} (hu : X.A.units + 8 < cLine) (calm : X.calm = true) (nodup : X.N.Nodup) (hi : PI X tg iter wi) (ok : BlkOk X.N X.env.scope scope own)
  (hg : ∀ (z : Shared) (H : Hp) (C : Addr) (cl : List (PySem.Str × Addr)) (fp : List Addr), PG (X.blk z H scope (compEnvC scope cl C X.env) fp) tg g) (ht : ∀ (z : Shared) (H : Hp) (C : Addr) (cl : List (PySem.Str × Addr)) (fp : List Addr), PTs (X.blk z H scope (compEnvC scope cl C X.env) fp) ifs tt)
  (he : ∀ (z : Shared) (H : Hp) (C : Addr) (cl : List (PySem.Str × Addr)) (fp : List Addr), PE (X.blk z H scope (compEnvC scope cl C X.env) fp) elt te) (fold : ∀ x, foldedSetIterable iter X.env x = pure x := by intro _; rfl) :
  PE X (.SetComp elt [⟨tg, iter, ifs, 0⟩] scope pos) (tScT X.prog X.K X.w wi g tt te (own.map (·.2))) := by
 refine ⟨fun pins s σ H Q I h => ?_⟩
 rw [eval_SetComp]
 refine scT_core hu calm nodup I hi ok hg ht he fold h fun D C s' m H' I' q hn f => ⟨m, hn, fun h'' sb => ?_⟩
 obtain ⟨f0, f1, f2, f3, f4, f5⟩ := f
 exact ⟨.ref D, H', I'.turned (t' := s'.toks) (fun b o hb e => (sb.2 b hb).trans e) f0 f1 f3 f4 f5, rfl, q⟩
end
end G
namespace G
open PySem PySem.Spec PyProof.Rows L2
end G
namespace G
open PySem PySem.Spec PyProof.Rows L2
theorem su {A : Around} {k : Nat} (hr : Room k A) : A.units + 8 < cLine := Nat.lt_of_le_of_lt (Nat.add_le_add_left (by decide : 8 ≤ 64) _) hr.units
end G
namespace G
open PySem PySem.Spec PyProof.Rows L2
end G
namespace G
open PySem PySem.Spec PyProof.Rows L2
section
variable {X : Cx}
variable {o e : Expr} {es : List Expr} {to : TE} {t : TA} {name : Str} {apos cpos : Pos} {T id : String} {r : V → List V → Hp → VK → Prop}
theorem kbm (K : PySem.W.Frag) (pa : PlainAttrs T) (slot : Slot T name id) (hty : typeOf (.builtin id) = pure (.type "method_descriptor")) (hm : MtR X id r) (ho : PE X o to) (ha : PA X (e :: es) t)
  (hK : X.K = K := by rfl) (hbase : attributeBase o name X.env (eval o X.env) = eval o X.env := by rfl)
  (hfew : ((backTo cpos (starEach (e :: es) X.env)).all (fun x => !x.1) && (backToKw cpos (keywordEach [] X.env)).all (fun x => x.1.isSome) && decide ((e :: es).length + ([] : List Keyword).length + (if ([] : List Keyword).isEmpty then 0 else 1) < 30)) = true := by rfl)
  (hline : (apos.endLine == cpos.line) = true := by rfl) (hs : starEach (e :: es) X.env = (false, eval e X.env) :: starEach es X.env := by rfl) (hplain : (backTo cpos (starEach es X.env)).any (·.1) = false := by rfl) :
  PE X (.Call (.Attribute o name apos) (e :: es) [] cpos) (tBM K T r to t) := by
 subst hK
 exact pe_bm pa slot hty hm ho ha hbase hfew hline hs hplain
theorem u65 {A : Around} {k : Nat} (hr : Room k A) : A.units + 65 < cLine := by have := hr.un; omega
end
end G
namespace G
open PySem PySem.Spec PyProof.Rows L2
end G
namespace G
open PySem PySem.Spec PyProof.Rows L2
section
variable {prog : Program} {w : World} {A : Around} {E : Value → Shared → Prop} {s : Shared}
end
section
variable {X : Cx}
end
end G
namespace G
open PySem PySem.Spec PyProof.Rows L2
end G
namespace G
open PySem PySem.Spec PyProof.Rows L2
section
variable {X : Cx}
end
section
variable {K : PySem.W.Frag} {b : Addr} {H : Hp} {x y : V} {dx dy : List PyData} {Q : VK}
end
end G
namespace G
open PySem PySem.Spec PyProof.Rows L2
end G
namespace G
open PySem PySem.Spec PyProof.Rows L2
end G
namespace G
open PySem PySem.Spec PyProof.Rows L2
end G
namespace G
open PySem PySem.Spec PyProof.Rows L2
abbrev Bun := Int × Int × Int
def bkey (t : Bun) : Int × Int := (t.1, t.2.1)
structure BunOk (n : Int) (t : Bun) : Prop where
 f0 : 0 ≤ t.1
 fs : t.1 < t.2.1
 sn : t.2.1 < n
 p1 : 1 ≤ t.2.2
 pm : t.2.2 ≤ 1000000000000000000
structure BunsOk (n : Int) (bs : List Bun) : Prop where
 n2 : 2 ≤ n
 n10 : n ≤ 10
 len : bs.length ≤ 45
 each : ∀ t ∈ bs, BunOk n t
 nd : (bs.map bkey).Nodup
theorem BunsOk.rev {n : Int} {bs : List Bun} (h : BunsOk n bs) : BunsOk n bs.reverse := ⟨h.n2, h.n10, by rw [List.length_reverse]; exact h.len, fun t ht => h.each t (List.mem_reverse.mp ht), by rw [List.map_reverse]; exact (List.pairwise_reverse).mpr (h.nd.imp fun h => Ne.symm h)⟩
structure BunsTo (n i j : Int) (bs : List Bun) : Prop where
 each : ∀ t ∈ bs, BunOk n t
 lt : ∀ t ∈ bs, t.1 < i ∨ (t.1 = i ∧ t.2.1 < j)
 nd : (bs.map bkey).Nodup
theorem BunsTo.nil {n i j : Int} : BunsTo n i j [] := ⟨(fun t ht => (nomatch ht)), (fun t ht => (nomatch ht)), List.nodup_nil⟩
theorem BunsTo.on {n i j i' j' : Int} {bs : List Bun} (h : BunsTo n i j bs) (hl : i < i' ∨ (i = i' ∧ j ≤ j')) : BunsTo n i' j' bs := ⟨h.each, fun t ht => by have := h.lt t ht; omega, h.nd⟩
theorem BunsTo.snoc {n i j j' p : Int} {bs : List Bun} (h : BunsTo n i j bs) (o : BunOk n (i, j, p)) (hj : j < j') : BunsTo n i j' (bs ++ [(i, j, p)]) := by
 refine ⟨fun t ht => ?_, fun t ht => ?_, ?_⟩
 ·rcases List.mem_append.mp ht with ht | ht
  ·exact h.each t ht
  ·rw [List.mem_singleton.mp ht]; exact o
 ·rcases List.mem_append.mp ht with ht | ht
  ·have := h.lt t ht
   omega
  ·rw [List.mem_singleton.mp ht]
   exact Or.inr ⟨rfl, hj⟩
 ·rw [List.map_append, List.nodup_append]
  refine ⟨h.nd, by simp, fun a ha c hc => ?_⟩
  obtain ⟨t, ht, rfl⟩ := List.mem_map.mp ha
  rw [List.map_singleton, List.mem_singleton] at hc
  subst hc
  intro e
  have e1 : t.1 = i := congrArg Prod.fst e
  have e2 : t.2.1 = j := congrArg Prod.snd e
  have := h.lt t ht
  omega
def tri : Nat → Nat
 | 0 => 0
 | i + 1 => tri i + (9 - i)
theorem tri45 : ∀ m, m ≤ 10 → tri m ≤ 45 := by decide
end G
namespace G
open PySem PySem.Spec PyProof.Rows L2
def LT (K : PySem.W.Frag) (t : Bool) (a : Addr) (H : Hp) (xs : List V) : Prop := if t = true then SqT K H a xs else SqL K H a xs
def ItAt (t : Bool) (h : Heap) (j a : Addr) (n : Nat) : Prop := if t = true then h.IsTupleIter j a n else h.IsListIter j a n
def SeqAt (t : Bool) (h : Heap) (a : Addr) (its : Array Value) : Prop := if t = true then h.IsTuple a its else h.IsList a its
theorem drawsLT {P : Program} {w : World} {A : Around} (t : Bool) (hh : A.handled = none) (j a : Addr) (ne : a ≠ j) (its : Array Value) : Draws P w A j [j, a] its.size (fun i v => its[i]? = some v) (fun i h => ItAt t h j a i ∧ SeqAt t h a its) := by
 cases t
 ·exact Draws.list hh j a ne its
 ·exact Draws.tuple hh j a ne its
theorem lt_items {X : Cx} {pins : List (Addr × Obj)} {σ : L2.St} {H : Hp} {s : Shared} {t : Bool} {a : Addr} {xs : List V} (I : Inv X pins σ H s) (h : LT X.K t a H xs) : ∃ its, Vals xs its ∧ SeqAt t s.heap a its.toArray ∧ xs.length ≤ sizeLine := by
 cases t
 ·obtain ⟨its, r, p, z⟩ := I.list (show SqL X.K H a xs from h)
  exact ⟨its, r, p.isList, z⟩
 ·obtain ⟨its, r, p, z⟩ := I.tuple (show SqT X.K H a xs from h)
  exact ⟨its, r, p, z⟩
theorem lt_inj {X : Cx} {pins : List (Addr × Obj)} {σ : L2.St} {H : Hp} {s : Shared} {t : Bool} {a : Addr} {xs ys : List V} (I : Inv X pins σ H s) (h : LT X.K t a H xs) (k : LT X.K t a H ys) : xs = ys := by
 cases t
 ·exact I.list_inj h k
 ·exact I.tuple_inj h k
theorem lt_up {K : PySem.W.Frag} {t : Bool} {a : Addr} {H H' : Hp} {xs : List V} (e : Same H H') (h : LT K t a H xs) : LT K t a H' xs := by
 cases t
 ·exact sql_up e h
 ·exact sqt_up e h
theorem seq_lt {t : Bool} {h : Heap} {a : Addr} {its : Array Value} (x : SeqAt t h a its) : a < h.objs.size := by
 cases t
 ·obtain ⟨o, e, _⟩ := (show h.IsList a its from x)
  exact Heap.lt_size e
 ·obtain ⟨o, e, _⟩ := (show h.IsTuple a its from x)
  exact Heap.lt_size e
end G
namespace G
open PySem PySem.Spec PyProof.Rows L2
def ld1 (acc : List Int) (m : Int) (t : Bun) : List Int := acc.set t.1.toNat (acc.getD t.1.toNat 0 + m)
def ld (acc : List Int) (m : Int) (t : Bun) : List Int := (ld1 acc m t).set t.2.1.toNat ((ld1 acc m t).getD t.2.1.toNat 0 + t.2.2 - m)
def ldAll : List Int → List Int → List Bun → List Int
 | acc, m :: ms, t :: ts => ldAll (ld acc m t) ms ts
 | acc, _, _ => acc
def loadsP (n : Nat) (ms : List Int) (bs : List Bun) : List Int := ldAll (List.replicate n 0) ms bs
theorem ld_len (acc : List Int) (m : Int) (t : Bun) : (ld acc m t).length = acc.length := by
 unfold ld ld1
 rw [List.length_set, List.length_set]
theorem ldAll_len : ∀ (ms : List Int) (bs : List Bun) (acc : List Int), (ldAll acc ms bs).length = acc.length
 | [], _, acc => by rw [ldAll]; intro _ _ _ _ h; cases h
 | _ :: _, [], acc => by rw [ldAll]; intro _ _ _ _ _ h; cases h
 | m :: ms, t :: bs, acc => by rw [ldAll, ldAll_len ms bs, ld_len]
theorem loadsP_len (n : Nat) (ms : List Int) (bs : List Bun) : (loadsP n ms bs).length = n := by rw [loadsP, ldAll_len, List.length_replicate]
theorem ixN_nat {n : Nat} {k : Int} (h0 : 0 ≤ k) (h1 : k < (n : Int)) : ixN n k = some k.toNat := by
 unfold ixN
 rw [if_pos h0, if_pos (by omega)]
end G
namespace G
open PySem PySem.Spec PyProof.Rows L2
abbrev Bnd := Int × Int
structure BndAt (c : Bnd) (x : Int) : Prop where
 lo : 0 ≤ c.1
 le : c.1 ≤ x
 ge : x ≤ c.2
 hi : c.2 ≤ 1000000000000000000000
def BndsAt (cs : List Bnd) (hs : List Int) : Prop := cs.length = hs.length ∧ ∀ (i : Nat) c x, cs[i]? = some c → hs[i]? = some x → BndAt c x
theorem BndsAt.snoc {cs : List Bnd} {hs : List Int} {i : Nat} {c : Bnd} {x : Int} (h : BndsAt cs (hs.take i)) (hx : hs[i]? = some x) (hc : BndAt c x) : BndsAt (cs ++ [c]) (hs.take (i + 1)) := by
 have hi : i < hs.length := (List.getElem?_eq_some_iff.mp hx).1
 have e : hs.take (i + 1) = hs.take i ++ [x] := by rw [List.take_succ, hx]; rfl
 have hl := h.1
 rw [e]
 refine ⟨by simp [hl], fun j d y hd hy => ?_⟩
 by_cases hj : j < cs.length
 ·rw [List.getElem?_append_left hj] at hd
  rw [List.getElem?_append_left (by omega)] at hy
  exact h.2 j d y hd hy
 ·rw [List.getElem?_append_right (by omega)] at hd hy
  rw [hl] at hd
  cases ej : j - (hs.take i).length with
  | zero =>
   rw [ej] at hd hy
   obtain rfl : c = d := Option.some.inj hd
   obtain rfl : x = y := Option.some.inj hy
   exact hc
  | succ m =>
   rw [ej] at hd
   cases hd
end G
namespace G
open PySem PySem.Spec PyProof.Rows L2
theorem getD_in {l : List Int} {i : Nat} {B : Int} (hB : 0 ≤ B) (h : ∀ x ∈ l, 0 ≤ x ∧ x ≤ B) : 0 ≤ l.getD i 0 ∧ l.getD i 0 ≤ B := by
 rw [List.getD_eq_getElem?_getD]
 cases e : l[i]? with
 | none => exact ⟨Int.le_refl _, hB⟩
 | some y => exact h y (List.mem_of_getElem? e)
theorem getD_set_ne {l : List Int} {i j : Nat} {v : Int} (h : i ≠ j) : (l.set i v).getD j 0 = l.getD j 0 := by
 rw [List.getD_eq_getElem?_getD, List.getD_eq_getElem?_getD, List.getElem?_set_ne h]
theorem ld_in {acc : List Int} {m : Int} {t : Bun} {B P : Int} (h : ∀ x ∈ acc, 0 ≤ x ∧ x ≤ B) (hB : 0 ≤ B) (m0 : 0 ≤ m) (mp : m ≤ t.2.2) (hp : t.2.2 ≤ P) (hf : 0 ≤ t.1) (hs : t.1 < t.2.1) : ∀ x ∈ ld acc m t, 0 ≤ x ∧ x ≤ B + P := by
 intro x hx
 unfold ld at hx
 have hn : t.1.toNat ≠ t.2.1.toNat := by omega
 have e : (ld1 acc m t).getD t.2.1.toNat 0 = acc.getD t.2.1.toNat 0 := getD_set_ne hn
 have d1 := getD_in (i := t.2.1.toNat) hB h
 have d2 := getD_in (i := t.1.toNat) hB h
 rcases List.mem_or_eq_of_mem_set hx with hx | hx
 ·unfold ld1 at hx
  rcases List.mem_or_eq_of_mem_set hx with hx | hx
  ·have := h x hx
   omega
  ·omega
 ·rw [e] at hx
  omega
def LeadsOk (ms : List Int) (bs : List Bun) : Prop := ms.length = bs.length ∧ ∀ (i : Nat) m t, ms[i]? = some m → bs[i]? = some t → 0 ≤ m ∧ m ≤ t.2.2
theorem ldAll_in {n P : Int} (hP : 0 ≤ P) : ∀ (ms : List Int) (bs : List Bun) (acc : List Int) (B : Int), (∀ x ∈ acc, 0 ≤ x ∧ x ≤ B) → 0 ≤ B → (∀ t ∈ bs, BunOk n t) → (∀ t ∈ bs, t.2.2 ≤ P) → (∀ (i : Nat) m t, ms[i]? = some m → bs[i]? = some t → 0 ≤ m ∧ m ≤ t.2.2) → ∀ x ∈ ldAll acc ms bs, 0 ≤ x ∧ x ≤ B + P * bs.length
 | [], bs, acc, B, h, hB, _, _, _ => by
  intro x hx
  have := h x (by cases bs <;> exact hx)
  have : 0 ≤ P * bs.length := Int.mul_nonneg hP (Int.natCast_nonneg _)
  omega
 | m :: ms, [], acc, B, h, hB, _, _, _ => by
  intro x hx
  have := h x hx
  simp
  omega
 | m :: ms, t :: bs, acc, B, h, hB, ho, hp, hm => by
  intro x hx
  have o := ho t List.mem_cons_self
  have h0 := hm 0 m t rfl rfl
  have ih := ldAll_in hP ms bs (ld acc m t) (B + P) (ld_in h hB h0.1 h0.2 (hp t List.mem_cons_self) o.f0 o.fs) (by omega) (fun u hu => ho u (List.mem_cons_of_mem _ hu)) (fun u hu => hp u (List.mem_cons_of_mem _ hu)) (fun i m' t' e1 e2 => hm (i + 1) m' t' e1 e2) x hx
  have e : P * ((t :: bs).length : Int) = P * bs.length + P := by
   rw [List.length_cons]
   push_cast
   rw [Int.mul_add, Int.mul_one]
  omega
theorem loads_in {n : Int} {ms : List Int} {bs : List Bun} {k : Nat} (ho : BunsOk n bs) (hm : LeadsOk ms bs) : ∀ x ∈ loadsP k ms bs, 0 ≤ x ∧ x ≤ 100000000000000000000 := by
 intro x hx
 have := ldAll_in (n := n) (P := 1000000000000000000) (by decide) ms bs (List.replicate k 0) 0 (fun x hx => by rw [(List.mem_replicate.mp hx).2]; decide) (by decide) ho.each (fun t ht => (ho.each t ht).pm) hm.2 x hx
 have := ho.len
 omega
theorem LeadsOk.snoc {ms : List Int} {bs : List Bun} {i : Nat} {m : Int} {t : Bun} (h : LeadsOk ms (bs.take i)) (ht : bs[i]? = some t) (h0 : 0 ≤ m) (h1 : m ≤ t.2.2) : LeadsOk (ms ++ [m]) (bs.take (i + 1)) := by
 have e : bs.take (i + 1) = bs.take i ++ [t] := by rw [List.take_succ, ht]; rfl
 have hl := h.1
 rw [e]
 refine ⟨by simp [hl], fun j d y hd hy => ?_⟩
 by_cases hj : j < ms.length
 ·rw [List.getElem?_append_left hj] at hd
  rw [List.getElem?_append_left (by omega)] at hy
  exact h.2 j d y hd hy
 ·rw [List.getElem?_append_right (by omega)] at hd hy
  rw [hl] at hd
  cases ej : j - (bs.take i).length with
  | zero =>
   rw [ej] at hd hy
   obtain rfl : m = d := Option.some.inj hd
   obtain rfl : t = y := Option.some.inj hy
   exact ⟨h0, h1⟩
  | succ k =>
   rw [ej] at hd
   cases hd
structure NetOk (n : Int) (bs : List Bun) (ms : List Int) (cs : List Bnd) : Prop where
 buns : BunsOk n bs
 ne : bs ≠ []
 leads : LeadsOk ms bs
 bnds : BndsAt cs (loadsP n.toNat ms bs)
end G
namespace G
open PySem PySem.Spec PyProof.Rows L2
theorem dT_dictSet {X : Cx} {pins : List (Addr × Obj)} {σ : L2.St} {H : Hp} {s : Shared} {E : Value → Shared → Prop} {D x : Addr} {kvs : List (List Key × V)} {k : List Key} {v : V} {u r : Value} {Q : Unit → Shared → Prop} (hu : X.A.units + 8 < cLine) (I : Inv X pins σ H s) (hD : H D = some (.dT kvs)) (hx : H x = some (.tup (k.map kV))) (few : kvs.length < sizeLine)
  (ry : L2.RelV (.ref x) u) (rv : L2.RelV v r) (h : ∀ s', Inv X pins σ (upd H D (.dT (putK kvs k v))) s' → Q () s') : wpAny (model X.prog X.w) X.A (dictSet D u r) Q E s := by
 cases (show u = Value.ref x from ry)
 obtain ⟨z, hd, xs, rel, dd⟩ := dt_of I.hok hD
 have hz : xs.length ≤ sizeLine := by rw [← Paired.length rel]; exact z
 have more : (putK kvs k v).length ≤ sizeLine := Nat.le_trans (length_putK kvs k v) few
 refine wpAny_dictSet_heap (hsz := hz) (show X.A.units < cLine by omega) (key_of I.hok hx) dd fun g dg sb => h _ ?_
 obtain ⟨q, es, ep, hq, h2, h3, h4, _, h5⟩ := dg
 refine d_write I (by rw [hD]; trivial) sb ⟨q, hq⟩ ⟨more, hd, _, (rel.put k hx rv).keeps fun c ys ec => ?_, q, es, ep, hq, h2, h3, h4, h5⟩
 rw [upd_ne (ne_of ec hD (fun z => nomatch z))]
 exact ec
section
variable {X : Cx}
def tDcT (wi : TI) (g : TG) (tt : TT) (tk tv : TE) (vs : List Nat) : TE := fun σ H Q => wi σ H fun J H1 => ∀ D, H1 D = none → ∃ W : Nat → Nat → Hp → Prop, (∃ m, W 0 m (upd H1 D (.dT []))) ∧ ∀ i m H, W i m H →
 (J.stop i H ∧ Q (.ref D) H) ∨ (J.go i H ∧ ∃ Nx : Hp → Prop, (∀ H', Nx H' → ∃ m', m' < m ∧ W (i + 1) m' H') ∧ ∀ x H', J.yld i H x H' → g x (wipe σ vs) H' fun σ2 H2 => wipe σ2 vs = wipe σ vs ∧ tt σ2 H2 fun b H3 =>
  if b = true then tk σ2 H3 fun y H4 => tv σ2 H4 fun z H5 => ∃ (kvs : List (List Key × V)) (k : List Key) (x : Addr), y = .ref x ∧ H5 x = some (.tup (k.map kV)) ∧ H5 D = some (.dT kvs) ∧ kvs.length < sizeLine ∧ Nx (upd H5 D (.dT (putK kvs k z))) else Nx H3)
theorem dcT_core {pins : List (Addr × Obj)} {s : Shared} {σ : L2.St} {H : Hp} {Q : VK} {kx vx tg iter : Expr} {ifs : List Expr} {scope : Scope} {own : List (PySem.Str × Nat)} {pos pos' : Pos} {wi : TI} {g : TG} {tt : TT} {tk tv : TE} {use : Option (Value → Sem Unit)} {Qf : Value → Shared → Prop}
  (hu : X.A.units + 8 < cLine) (calm : X.calm = true) (nodup : X.N.Nodup) (I : Inv X pins σ H s) (hi : PI X tg iter wi) (ok : BlkOk X.N X.env.scope scope own)
  (hg : ∀ (z : Shared) (H : Hp) (C : Addr) (cl : List (PySem.Str × Addr)) (fp : List Addr), PG (X.blk z H scope (compEnvC scope cl C X.env) fp) tg g) (ht : ∀ (z : Shared) (H : Hp) (C : Addr) (cl : List (PySem.Str × Addr)) (fp : List Addr), PTs (X.blk z H scope (compEnvC scope cl C X.env) fp) ifs tt)
  (hk : ∀ (z : Shared) (H : Hp) (C : Addr) (cl : List (PySem.Str × Addr)) (fp : List Addr), PE (X.blk z H scope (compEnvC scope cl C X.env) fp) kx tk) (he : ∀ (z : Shared) (H : Hp) (C : Addr) (cl : List (PySem.Str × Addr)) (fp : List Addr), PE (X.blk z H scope (compEnvC scope cl C X.env) fp) vx tv) (fold : ∀ x, foldedSetIterable iter X.env x = pure x)
  (h : tDcT wi g tt tk tv (own.map (·.2)) σ H Q)
  (after : ∀ D C s' m H', Inv X pins σ H' s' → Q (.ref D) H' → s'.heap.Ns C m → FpOk X pins H' C → compPost (model X.prog X.w) X.A X.xe use Qf (.ref D) C (.ok .next) s') :
  wpAny (model X.prog X.w) X.A (comprehension (.DictComp kx vx [⟨tg, iter, ifs, 0⟩] scope pos) scope X.env pos' (newDict) false (eval iter X.env) use) Qf X.xe s := by
 have captured : ∀ y ∈ scope.names, y.2 = .free → ∃ c, X.env.cells.lookup y.1 = some c := fun y hy e => by
  rcases ok.free y hy e with q | q
  ·exact I.ok.has _ (.inl q)
  ·exact I.ok.has _ (.inr q)
 refine wpAny_comprehension_free (use := use) rfl fold (closure_ok captured) ok.kind (fun y hy e => by rw [ok.uniq y hy, e])
  (thn (hi.run pins s σ H _ I h) fun xv r1 hx => thn hx fun itv r2 h2 => ?_)
 obtain ⟨it, fp, tn, J, H2, e, I2, T, st2, f2, q⟩ := h2
 subst e
 refine wpAny_newObj_type (newEnv_comp ?_)
 generalize eD : r2.heap.objs.size = D
 have fresh : H2 D = none := I2.hok.fresh (Nat.le_of_eq eD)
 obtain ⟨W, ⟨m0, w0⟩, turn⟩ := q D fresh
 generalize e3 : ({ r2 with heap := r2.heap.push { cls := .type "dict", data := .dict #[] } } : Shared) = r3
 have I3 : Inv X pins σ (upd H2 D (.dT [])) r3 := by
  rw [← e3]
  refine I2.laid (t' := r2.toks) (fun b o e => Heap.get?_push_of_some _ e) (Nat.le_of_eq eD) ?_
  rw [← eD]
  exact dt_empty r2.heap I2.big
 have hp3 : r3.heap = r2.heap.push { cls := .type "dict", data := .dict #[] } := by rw [← e3]
 have below : ∀ b ∈ fp, b < r2.heap.objs.size := fun b hb => by
  obtain ⟨o, e, _⟩ := T.obj _ _ st2 b hb
  exact Heap.lt_size e
 have f3 : ∀ b ∈ fp, FpOk X pins (upd H2 D (.dT [])) b ∧ b < r3.heap.objs.size := fun b hb => by
  have lt := below b hb
  refine ⟨⟨?_, (f2 b hb).2⟩, by rw [hp3, Heap.size_push]; exact Nat.lt_succ_of_lt lt⟩
  rw [upd_ne (by rw [← eD]; exact Nat.ne_of_lt lt)]
  exact (f2 b hb).1
 have st3 : tn 0 r3.heap := T.keep _ _ _ st2 fun b _ o e => by rw [hp3]; exact Heap.get?_push_of_some _ e
 have I4 := block_start I3 ok nodup f3
 have pgo := hg r3 (upd H2 D (.dT [])) r3.heap.objs.size (cellsFrom (r3.heap.objs.size + 1) scope.names (cloFrom X.env.cells scope.names [])) fp
 have pte := ht r3 (upd H2 D (.dT [])) r3.heap.objs.size (cellsFrom (r3.heap.objs.size + 1) scope.names (cloFrom X.env.cells scope.names [])) fp
 have pky := hk r3 (upd H2 D (.dT [])) r3.heap.objs.size (cellsFrom (r3.heap.objs.size + 1) scope.names (cloFrom X.env.cells scope.names [])) fp
 have pel := he r3 (upd H2 D (.dT [])) r3.heap.objs.size (cellsFrom (r3.heap.objs.size + 1) scope.names (cloFrom X.env.cells scope.names [])) fp
 show codeAny _ _ (.compStart (.DictComp kx vx [⟨tg, iter, ifs, 0⟩] scope pos) 0 (.ref it) (.ref D) (compEnvC scope (cellsFrom (r3.heap.objs.size + 1) scope.names (cloFrom X.env.cells scope.names [])) r3.heap.objs.size X.env)) (compPost (model X.prog X.w) X.A X.xe use Qf (.ref D) r3.heap.objs.size) { r3 with heap := pushCells (r3.heap.push { cls := .type "dict", data := .dict #[] }) scope.names }
 have nfp : ∀ b ∈ fp, (upd H2 D (.dT [])) b = none := fun b hb => (f3 b hb).1.1
 generalize ece : compEnvC scope (cellsFrom (r3.heap.objs.size + 1) scope.names (cloFrom X.env.cells scope.names [])) r3.heap.objs.size X.env = ce at I4 pgo pte pky pel ⊢
 have eL : ce.locals = r3.heap.objs.size := by subst ece; rfl
 generalize eH3 : upd H2 D (.dT []) = H3 at I3 I4 pgo pte pky pel w0 nfp f3
 generalize e4 : ({ r3 with heap := pushCells (r3.heap.push { cls := .type "dict", data := .dict #[] }) scope.names } : Shared) = r4 at I4 ⊢
 have st4 : tn 0 r4.heap := T.keep _ _ _ st3 fun b _ o e => by rw [← e4]; exact pushCells_keeps _ _ _ _ (Heap.get?_push_of_some _ e)
 have stat : ∀ {σ' : L2.St} {H' : Hp} {s' : Shared}, Inv (X.blk r3 H3 scope ce fp) [] σ' H' s' → (∀ b ∈ fp, H' b = none) → ∀ b ∈ fp, FpOk (X.blk r3 H3 scope ce fp) [] H' b := by
  intro σ' H' s' I' hn b hb
  exact ⟨hn b hb, (I'.ok.exf b hb).1, I'.ok.exfs b hb, .inl hb, fun x c e => (I'.ok.exf b hb).2 x c e, fun p hp => absurd (show p ∈ ([] : List (Addr × Obj)) ++ [] from hp) (by simp)⟩
 have loop : codeAny (model X.prog X.w) X.A (.compLoop (.DictComp kx vx [⟨tg, iter, ifs, 0⟩] scope pos) 0 (.ref it) (.ref D) ce) (compPost (model X.prog X.w) X.A X.xe use Qf (.ref D) r3.heap.objs.size) r4 := by
  refine compLoop_anyD (fun n s' => ∃ i H', Inv (X.blk r3 H3 scope ce fp) [] (wipe σ (own.map (·.2))) H' s' ∧ tn i s'.heap ∧ (∀ b ∈ fp, H' b = none) ∧ W i n H') ?_ m0 ⟨0, H3, I4, st4, nfp, w0⟩
  rintro n r5 ⟨i, H5, I5, st5, n5, w5⟩
  rcases turn i n H5 w5 with ⟨stop, qq⟩ | ⟨go, Nx, hNx, step⟩
  ·have td := T.done (X.blk r3 H3 scope ce fp) rfl rfl rfl calm i [] r5 _ H5 (fun _ _ => False) I5 (stat I5 n5) st5 stop
   refine thnF td fun r r6 ⟨hr, I6⟩ => ?_
   subst hr
   have I7 : Inv X pins σ H5 r6 := I3.call' (ch := fp) I6.os I6.base I6.hok I6.bare fun b hb => ⟨(f3 b hb).1.2.2.2.1, (f3 b hb).1.2.1, (f3 b hb).1.2.2.2.2.1, (f3 b hb).1.2.2.2.2.2⟩
   have nC : H5 r3.heap.objs.size = none := by
    have z : H5 ce.locals = none := I6.free
    rwa [eL] at z
   obtain ⟨m, hn, _⟩ := I6.loc
   have hn' : r6.heap.Ns ce.locals m := hn
   rw [eL] at hn'
   exact after D r3.heap.objs.size r6 m H5 I7 qq hn' (I3.fpOk (Nat.le_refl _) nC)
  ·have ti := T.item (X.blk r3 H3 scope ce fp) rfl rfl rfl calm i [] r5 _ H5 (fun _ _ => False) I5 (stat I5 n5) st5 go
   refine thnF ti fun r r6 ⟨u, hr, h6⟩ => ?_
   subst hr
   refine thnF h6 fun _ r7 ⟨x, H7, I7, rl7, y7, st7, n7⟩ => ?_
   have I7' := I7.pinned (stat I7 n7) (T.obj _ _ st7)
   refine thnF (pgo.run _ r7 _ H7 x u _ I7' rl7 (step x H7 y7)) fun _ r8 ⟨σ8, H8, I8, hw8, q8⟩ => ?_
   refine thnF (pte.run _ r8 σ8 H8 _ I8 q8) fun b r9 ⟨H9, I9, q9⟩ => ?_
   have fin : ∀ {s' : Shared} {H' : Hp}, Inv (X.blk r3 H3 scope ce fp) ([] ++ pinsAt fp r7.heap) σ8 H' s' → Nx H' → ∃ m, m < n ∧ ∃ i H', Inv (X.blk r3 H3 scope ce fp) [] (wipe σ (own.map (·.2))) H' s' ∧ tn i s'.heap ∧ (∀ b ∈ fp, H' b = none) ∧ W i m H' := by
    intro s' H' I' nx
    obtain ⟨m', hm, w'⟩ := hNx H' nx
    have pin' : ∀ b ∈ fp, ∀ o, r7.heap.get? b = some o → s'.heap.get? b = some o ∧ H' b = none := fun b hb o e =>
     have z := I'.pin (b, o) (List.mem_append_right _ (List.mem_append_right _ (mem_pinsAt hb e)))
     ⟨z.1, z.2.1⟩
    have len : (wipe σ (own.map (·.2))).length = σ8.length := by rw [← hw8, wipe_length]
    refine ⟨m', hm, i + 1, H', (I'.unpinned (pins := [])).weak len (fun j v e => ?_), T.keep _ _ _ st7 fun b hb o e => (pin' b hb o e).1, fun b hb => ?_, w'⟩
    ·rw [← hw8] at e
     exact (wipe_some e).1
    ·obtain ⟨o, e, _⟩ := T.obj _ _ st7 b hb
     exact (pin' b hb o e).2
   cases b with
   | false =>
    simp only [Bool.false_eq_true, if_false] at q9 ⊢
    exact fin I9 q9
   | true =>
    simp only [if_true] at q9 ⊢
    refine thnF (pky.run _ r9 σ8 H9 _ I9 q9) fun z r10 ⟨yk, H10, I10, rl10, q10⟩ => ?_
    refine thnF (pel.run _ r10 σ8 H10 _ I10 q10) fun z2 r11 ⟨yv, H11, I11, rl11, kvs, k, xa, ey, hx11, hD11, few, nx⟩ => ?_
    subst ey
    exact dT_dictSet (X := X.blk r3 H3 scope ce fp) hu I11 hD11 hx11 few rl10 rl11 fun r12 I12 => fin I12 nx
 exact codeAny_compStart_dict loop (T.self X.A 0 _ _ _ st4 loop)
theorem pe_dcT {kx vx tg iter : Expr} {ifs : List Expr} {scope : Scope} {own : List (PySem.Str × Nat)} {pos : Pos} {wi : TI} {g : TG} {tt : TT} {tk tv : TE} (hu : X.A.units + 8 < cLine) (calm : X.calm = true) (nodup : X.N.Nodup) (hi : PI X tg iter wi) (ok : BlkOk X.N X.env.scope scope own)
  (hg : ∀ (z : Shared) (H : Hp) (C : Addr) (cl : List (PySem.Str × Addr)) (fp : List Addr), PG (X.blk z H scope (compEnvC scope cl C X.env) fp) tg g) (ht : ∀ (z : Shared) (H : Hp) (C : Addr) (cl : List (PySem.Str × Addr)) (fp : List Addr), PTs (X.blk z H scope (compEnvC scope cl C X.env) fp) ifs tt)
  (hk : ∀ (z : Shared) (H : Hp) (C : Addr) (cl : List (PySem.Str × Addr)) (fp : List Addr), PE (X.blk z H scope (compEnvC scope cl C X.env) fp) kx tk) (he : ∀ (z : Shared) (H : Hp) (C : Addr) (cl : List (PySem.Str × Addr)) (fp : List Addr), PE (X.blk z H scope (compEnvC scope cl C X.env) fp) vx tv) (fold : ∀ x, foldedSetIterable iter X.env x = pure x := by intro _; rfl) :
  PE X (.DictComp kx vx [⟨tg, iter, ifs, 0⟩] scope pos) (tDcT wi g tt tk tv (own.map (·.2))) := by
 refine ⟨fun pins s σ H Q I h => ?_⟩
 rw [arm_eval_DictComp]
 refine dcT_core hu calm nodup I hi ok hg ht hk he fold h fun D C s' m H' I' q hn f => ⟨m, hn, fun h'' sb => ?_⟩
 obtain ⟨f0, f1, f2, f3, f4, f5⟩ := f
 exact ⟨.ref D, H', I'.turned (t' := s'.toks) (fun b o hb e => (sb.2 b hb).trans e) f0 f1 f3 f4 f5, rfl, q⟩
end
end G
namespace G
open PySem PySem.Spec PyProof.Rows L2
def MDef (K : PySem.W.Frag) (C : Addr) (m q : Str) (st : Stmt) (ps : List Str) : Prop := ∃ f fd, Fun K m q st f fd ∧ Meth K C m f ∧ Binds K fd ps []
def MCal (P : Program) (w : World) (K : PySem.W.Frag) (mg : Str → Option Value) (base : Heap) (cx : CXT) (k : Nat) (C : Addr) (m : Str) (ps : List Str) (sp : Sp) : Prop :=
 ∃ f fd, FnOk P w K mg base cx k f fd ps sp ∧ Meth K C m f ∧ Binds K fd ps []
theorem mdef_mk {K : PySem.W.Frag} {C : Addr} {m q : Str} {st : Stmt} {ps : List Str} {f : Addr} {oc : Value} {od an : Option Addr} {osl : Array (Option Value)} {kV doc pm cdv ct : Value}
  (a : PySem.W.findIn K (.ref C) m = some (some (.ref f))) (i : PySem.W.isFn K (.ref f) = true) (l : K.lookup f = some ⟨oc, od, .func (PySem.W.fnOf m q (defArgs st) (defBody st) (defScope st) .none kV doc pm an cdv ct), osl⟩) (c : PySem.W.codeIn K cdv q = true) (k : PySem.W.keepIn K (.ref f) = true)
  (hb : ∀ (kV doc pm : Value) (an : Option Addr) (cdv ct : Value) (us : List Value), us.length = ps.length → bindArgs (PySem.W.fnOf m q (defArgs st) (defBody st) (defScope st) .none kV doc pm an cdv ct) ⟨us, []⟩ = pure (ps.zip us)) : MDef K C m q st ps :=
 have F := fun_mk (st := st) l c k
 ⟨f, _, F, ⟨a, i, k⟩, F.binds hb⟩
section
variable {P : Program} {w : World} {K : PySem.W.Frag} {mg : Str → Option Value} {base : Heap} {cx : CXT} {k : Nat} {C : Addr} {m q : Str} {ps N : List Str} {sp : Sp} {st : Stmt}
theorem MDef.ok (D : MDef K C m q st ps) (S : FnScope N ps (defScope st)) (ln : ∀ vs H Q E, sp vs H Q E → vs.length = ps.length)
  (bd : ∀ (f : Addr) (cdv : Value) (A : Around) (out : List Env) (s : Shared) (H : Hp) (vs : List V) (Q : VK) (E : XK), Room k (A.deeper (envOfC q (defScope st) s.heap.objs.size f cdv)) → sp vs H Q E →
   ∃ t, PSs (cxOf CX0 P w K mg base N q (defScope st) f cdv A out s H E).nox (defBody st) t ∧ t { nx := fun _ H' => Q .non H', rt := Q } (start N vs) H) : MCal P w K mg base CX0 (k + 1) C m ps sp := by
 obtain ⟨f, fd, F, mt, b⟩ := D
 exact ⟨f, fd, F.ok S ln fun cdv A out s H vs Q E hr h => bd f cdv A out s H vs Q E hr h, mt, b⟩
end
section
variable {X : Cx} {cx : CXT} {k : Nat} {C : Addr} {ps : List Str} {sp : Sp} {E : XK} {m x : Str} {o e : Expr} {es : List Expr} {ta : TE} {t : TA} {p apos pos : Pos}
theorem pe_m0 {pl : Sem Bool} (c : MCal X.prog X.w X.K X.mg X.base cx k C m ps sp) (cl : Cls X.K C) (hr : Room k X.A) (hx : Passes cx X E) (he : PE X o ta)
  (ht : eval (.Call (.Attribute o m apos) [] [] pos) X.env = (do
   let ov ← eval o X.env
   standAt apos.atName
   let (f, first) ← holding [ov] (getMethod ov m pl)
   callWith pos f first (backTo pos (starEach [] X.env)) (backToKw pos (keywordEach [] X.env))) := by rfl) :
  PE X (.Call (.Attribute o m apos) [] [] pos) (tMeth C m sp [] E ta tNil) := by
 obtain ⟨f, fd, F, mt, b⟩ := c
 exact pe_meth0 he cl mt F hr b .nil hx ht
theorem pe_mk (c : MCal X.prog X.w X.K X.mg X.base cx k C "__init__" ps sp) (mk : PySem.W.makesIn X.K C = true) (kc : PySem.W.keepIn X.K (.ref C) = true) (hm : X.mg x = some (.ref C)) (hr : Room (k + 1) X.A) (hx : Passes cx X E) (ha : PA X (e :: es) t) (hg : Gl X x := by rfl)
  (hdb : (x == ("__debug__" : Str)) = false := by decide) (he : starEach (e :: es) X.env = (false, eval e X.env) :: starEach es X.env := by rfl) (hpl : (backTo pos (starEach es X.env)).any (·.1) = false := by rfl) :
  PE X (.Call (.Name x p) (e :: es) [] pos) (tMake C sp [] E t) := by
 obtain ⟨f, fd, F, mt, b⟩ := c
 exact pe_make ⟨mk, mt.at_, mt.fn, kc⟩ F hr hg hm b .nil hx ha hdb he hpl
end
end G
namespace G
open PySem PySem.Spec PyProof.Rows L2
def idx (bs : List Bun) (f s : Int) : Option Nat := bs.findIdx? fun t => t.1 == f && t.2.1 == s
end G
namespace G
open PySem PySem.Spec PyProof.Rows L2
end G
namespace G
open PySem PySem.Spec PyProof.Rows L2
end G
namespace G
open PySem PySem.Spec PyProof.Rows L2
end G
namespace G
open PySem PySem.Spec PyProof.Rows L2
theorem NetOk.size {n : Int} {bs : List Bun} {ms : List Int} {cs : List Bnd} (h : NetOk n bs ms cs) : (cs.length : Int) = n := by
 have e := h.bnds.1
 rw [loadsP_len] at e
 have := h.buns.n2
 omega
end G
namespace G
open PySem PySem.Spec PyProof.Rows L2
section
variable {K : PySem.W.Frag} {G : Hp} {D : Addr} {φ : Heap → Prop}
theorem off_ne {a : Addr} {u : HO} (hD : G D = some (.ext φ)) (n1 : ∀ o, HO.ext φ ≠ .frz o u) (n2 : HO.ext φ ≠ u) (h : Rd G a u) : Rd (hid D G) a u := by
 have ne : a ≠ D := fun e => by
  subst e
  rcases h with h | ⟨o, h⟩
  ·rw [hD] at h; exact n2 (Option.some.inj h)
  ·rw [hD] at h; exact n1 o (Option.some.inj h)
 rcases h with h | ⟨o, h⟩
 ·exact .inl (by rw [hid_ne ne]; exact h)
 ·exact .inr ⟨o, by rw [hid_ne ne]; exact h⟩
theorem off_l {a : Addr} {xs : List V} (hD : G D = some (.ext φ)) (h : SqL K G a xs) : SqL K (hid D G) a xs := h.imp (off_ne hD (fun _ e => nomatch e) (fun e => nomatch e)) id
theorem off_t {a : Addr} {xs : List V} (hD : G D = some (.ext φ)) (h : SqT K G a xs) : SqT K (hid D G) a xs := h.imp (off_ne hD (fun _ e => nomatch e) (fun e => nomatch e)) id
mutual
theorem Da.off (hD : G D = some (.ext φ)) : ∀ (d : PyData) (v : V), Da K G v d → Da K (hid D G) v d
 | .none, _, h => by cases h; exact .non
 | .bool b, _, h => by cases h; exact .bl b
 | .int i, _, h => by cases h; exact .int i
 | .str x, _, h => by cases h; exact .str x
 | .list ds, _, h => by
  cases h with
  | lst a b => exact .lst (off_l hD a) (DaL.off hD ds _ b)
 | .tuple ds, _, h => by
  cases h with
  | tup a b => exact .tup (off_t hD a) (DaL.off hD ds _ b)
 | .dict es, _, h => by
  cases h with
  | @dct p kvs _ a b =>
   refine .dct ?_ (DaE.off hD es _ b)
   rcases a with a | ⟨o, a⟩
   ·exact .inl (by rw [hid_ne (fun e => by subst e; rw [hD] at a; cases a)]; exact a)
   ·exact .inr ⟨o, by rw [hid_ne (fun e => by subst e; rw [hD] at a; cases a)]; exact a⟩
theorem DaL.off (hD : G D = some (.ext φ)) : ∀ (ds : List PyData) (vs : List V), DaL K G vs ds → DaL K (hid D G) vs ds
 | [], _, h => by cases h; exact .nil
 | d :: ds, _, h => by
  cases h with
  | cons a b => exact .cons (Da.off hD d _ a) (DaL.off hD ds _ b)
theorem DaE.off (hD : G D = some (.ext φ)) : ∀ (es : List (PyData × PyData)) (kvs : List (Key × V)), DaE K G kvs es → DaE K (hid D G) kvs es
 | [], _, h => by cases h; exact .nil
 | (k, d) :: es, _, h => by
  cases h with
  | cons a b => exact .cons (Da.off hD d _ a) (DaE.off hD es _ b)
end
end
end G
namespace G
open PySem PySem.Spec PyProof.Rows L2
end G
namespace G
open PySem PySem.Spec PyProof.Rows L2
theorem u1 {A : Around} {k : Nat} (hr : Room k A) : A.units + 1 < cLine := Nat.lt_of_le_of_lt (Nat.add_le_add_left (by decide : 1 ≤ 64) _) hr.units
end G
namespace G
open PySem PySem.Spec PyProof.Rows L2
end G
namespace G
open PySem PySem.Spec PyProof.Rows L2
end G
namespace G
open PySem PySem.Spec PyProof.Rows L2
end G
namespace R
open PySem PySem.Spec PyProof.Rows L2 G
inductive W where
 | v (x : V)
 | lst (ws : List W)
 | tup (ws : List W)
 | dic (ks : List Key) (ws : List W)
 | dit (ks : List (List Key)) (ws : List W)
 | obj (C : Addr) (fs : List Str) (ws : List W)
 | set (S : Int → Bool) (n : Nat)
 | bag
abbrev W.int (i : Int) : W := .v (.int i)
abbrev W.bl (b : Bool) : W := .v (.bl b)
abbrev W.non : W := .v .non
abbrev W.str (s : Str) : W := .v (.str s)
mutual
/-- v stands for w in the part F of the heap; the bag is at b -/
inductive Rep (K : PySem.W.Frag) (b : Addr) (F : Hp) : V → W → Prop
 | v (x : V) : Rep K b F x (.v x)
 | lst {a us ws} : F a = some (.lst us) → RepL K b F us ws → Rep K b F (.ref a) (.lst ws)
 | tup {a us ws} : F a = some (.tup us) → RepL K b F us ws → Rep K b F (.ref a) (.tup ws)
 | dic {a ks us ws} : Rd F a (.dK (ks.zip us)) → us.length = ks.length → RepL K b F us ws → Rep K b F (.ref a) (.dic ks ws)
 | dit {a ks us ws} : Rd F a (.dT (ks.zip us)) → us.length = ks.length → RepL K b F us ws → Rep K b F (.ref a) (.dit ks ws)
 | obj {a C dx fs us ws} : F a = some (.ins C dx (fs.zip us)) → us.length = fs.length → RepL K b F us ws → Rep K b F (.ref a) (.obj C fs ws)
 | set {a S n} : F a = some (.set S n) → Rep K b F (.ref a) (.set S n)
 | bag : Rep K b F (.ref b) .bag
inductive RepL (K : PySem.W.Frag) (b : Addr) (F : Hp) : List V → List W → Prop
 | nil : RepL K b F [] []
 | cons {v w vs ws} : Rep K b F v w → RepL K b F vs ws → RepL K b F (v :: vs) (w :: ws)
end
section
variable {K : PySem.W.Frag} {b : Addr} {F F' : Hp}
structure Ld (F F' : Hp) : Prop where
 l : ∀ a us, F a = some (.lst us) → F' a = some (.lst us)
 t : ∀ a us, F a = some (.tup us) → F' a = some (.tup us)
 o : ∀ a C dx fs, F a = some (.ins C dx fs) → F' a = some (.ins C dx fs)
 s : ∀ a S n, F a = some (.set S n) → F' a = some (.set S n)
 k : ∀ a kvs, Rd F a (.dK kvs) → Rd F' a (.dK kvs)
 d : ∀ a kvs, Rd F a (.dT kvs) → Rd F' a (.dT kvs)
theorem same_ld {F F' : Hp} (e : Same F F') : Ld F F' := ⟨fun a us h => e _ _ h, fun a us h => e _ _ h, fun a C dx fs h => e _ _ h, fun a S n h => e _ _ h, fun a kvs h => rd_up e h, fun a kvs h => rd_up e h⟩
mutual
theorem Rep.upL (e : Ld F F') : ∀ (w : W) (v : V), Rep K b F v w → Rep K b F' v w
 | .v x, _, h => by cases h; exact .v x
 | .lst ws, _, h => by cases h with | lst a r => exact .lst (e.l _ _ a) (RepL.upL e ws _ r)
 | .tup ws, _, h => by cases h with | tup a r => exact .tup (e.t _ _ a) (RepL.upL e ws _ r)
 | .dic ks ws, _, h => by cases h with | dic a l r => exact .dic (e.k _ _ a) l (RepL.upL e ws _ r)
 | .dit ks ws, _, h => by cases h with | dit a l r => exact .dit (e.d _ _ a) l (RepL.upL e ws _ r)
 | .obj C fs ws, _, h => by cases h with | obj a l r => exact .obj (e.o _ _ _ _ a) l (RepL.upL e ws _ r)
 | .set S n, _, h => by cases h with | set a => exact .set (e.s _ _ _ a)
 | .bag, _, h => by cases h; exact .bag
theorem RepL.upL (e : Ld F F') : ∀ (ws : List W) (vs : List V), RepL K b F vs ws → RepL K b F' vs ws
 | [], _, h => by cases h; exact .nil
 | w :: ws, _, h => by cases h with | cons a r => exact .cons (Rep.upL e w _ a) (RepL.upL e ws _ r)
end
theorem Rep.up (e : Same F F') (w : W) (v : V) (h : Rep K b F v w) : Rep K b F' v w := Rep.upL (same_ld e) w v h
theorem RepL.up (e : Same F F') (ws : List W) (vs : List V) (h : RepL K b F vs ws) : RepL K b F' vs ws := RepL.upL (same_ld e) ws vs h
theorem Rep.mono {v : V} {w : W} (h : Rep K b F v w) (e : Same F F') : Rep K b F' v w := Rep.up e w v h
theorem RepL.mono {vs : List V} {ws : List W} (h : RepL K b F vs ws) (e : Same F F') : RepL K b F' vs ws := RepL.up e ws vs h
theorem RepL.len : ∀ {ws : List W} {vs : List V}, RepL K b F vs ws → vs.length = ws.length
 | [], _, h => by cases h; rfl
 | w :: ws, _, h => by cases h with | cons a r => rw [List.length_cons, List.length_cons, r.len]
theorem RepL.get : ∀ {ws : List W} {vs : List V} {i : Nat} {w : W}, RepL K b F vs ws → ws[i]? = some w → ∃ v, vs[i]? = some v ∧ Rep K b F v w
 | [], _, _, _, _, e => by cases e
 | w :: ws, _, 0, _, h, e => by cases h with | cons a r => obtain rfl : w = _ := Option.some.inj e; exact ⟨_, rfl, a⟩
 | w :: ws, _, i + 1, _, h, e => by cases h with | cons a r => obtain ⟨v, q, z⟩ := r.get (i := i) e; exact ⟨v, q, z⟩
theorem RepL.getV : ∀ {ws : List W} {vs : List V} {i : Nat} {v : V}, RepL K b F vs ws → vs[i]? = some v → ∃ w, ws[i]? = some w ∧ Rep K b F v w
 | [], _, _, _, h, e => by cases h; cases e
 | w :: ws, _, 0, _, h, e => by cases h with | cons a r => cases Option.some.inj e; exact ⟨_, rfl, a⟩
 | w :: ws, _, i + 1, _, h, e => by cases h with | cons a r => obtain ⟨v, q, z⟩ := r.getV (i := i) e; exact ⟨v, q, z⟩
theorem RepL.app : ∀ {ws xs : List W} {vs us : List V}, RepL K b F vs ws → RepL K b F us xs → RepL K b F (vs ++ us) (ws ++ xs)
 | [], _, _, _, h, q => by cases h; exact q
 | w :: ws, _, _, _, h, q => by cases h with | cons a r => exact .cons a (r.app q)
theorem RepL.take : ∀ {ws : List W} {vs : List V} (n : Nat), RepL K b F vs ws → RepL K b F (vs.take n) (ws.take n)
 | _, _, 0, _ => .nil
 | [], _, n + 1, h => by cases h; exact .nil
 | w :: ws, _, n + 1, h => by cases h with | cons a r => exact .cons a (r.take n)
theorem RepL.drop : ∀ {ws : List W} {vs : List V} (n : Nat), RepL K b F vs ws → RepL K b F (vs.drop n) (ws.drop n)
 | _, _, 0, h => h
 | [], _, n + 1, h => by cases h; exact .nil
 | w :: ws, _, n + 1, h => by cases h with | cons a r => exact r.drop n
theorem RepL.rev : ∀ {ws : List W} {vs : List V}, RepL K b F vs ws → RepL K b F vs.reverse ws.reverse
 | [], _, h => by cases h; exact .nil
 | w :: ws, _, h => by cases h with | cons a r => rw [List.reverse_cons, List.reverse_cons]; exact r.rev.app (.cons a .nil)
theorem RepL.set : ∀ {ws : List W} {vs : List V} (i : Nat) {w : W} {v : V}, RepL K b F vs ws → Rep K b F v w → RepL K b F (vs.set i v) (ws.set i w)
 | [], _, _, _, _, h, _ => by cases h; exact .nil
 | w :: ws, _, 0, _, _, h, q => by cases h with | cons a r => exact .cons q r
 | w :: ws, _, i + 1, _, _, h, q => by cases h with | cons a r => exact .cons a (r.set i q)
theorem RepL.erase : ∀ {ws : List W} {vs : List V} (i : Nat), RepL K b F vs ws → RepL K b F (vs.eraseIdx i) (ws.eraseIdx i)
 | [], _, _, h => by cases h; exact .nil
 | w :: ws, _, 0, h => by cases h with | cons a r => exact r
 | w :: ws, _, i + 1, h => by cases h with | cons a r => exact .cons a (r.erase i)
theorem RepL.flatrep {ws : List W} {vs : List V} (h : RepL K b F vs ws) : ∀ n, RepL K b F (List.replicate n vs).flatten (List.replicate n ws).flatten
 | 0 => .nil
 | n + 1 => h.app (RepL.flatrep h n)
theorem RepL.unv : ∀ {xs : List V} {us : List V}, RepL K b F us (xs.map W.v) → us = xs
 | [], _, h => by cases h; rfl
 | x :: xs, _, h => by cases h with | cons a r => cases a; rw [RepL.unv r]
theorem RepL.unf {α : Type} {f : α → V} {xs : List α} {us : List V} (h : RepL K b F us (xs.map fun x => W.v (f x))) : us = xs.map f := by
 have e : (xs.map fun x => W.v (f x)) = (xs.map f).map W.v := by rw [List.map_map]; rfl
 rw [e] at h
 exact h.unv
theorem Rep.flat {v x : V} (h : Rep K b F v (.v x)) : v = x := by cases h; rfl
end
inductive D where
 | sh (w : W)
 | lst (ws : List W)
 | dic (ks : List Key) (ws : List W)
 | dit (ks : List (List Key)) (ws : List W)
 | obj (C : Addr) (fs : List Str) (ws : List W)
 | set (S : Int → Bool) (n : Nat)
 | ntup (ds : List D)
 | nlst (ds : List D)
 | nobj (p : Addr) (C : Addr) (fs : List Str) (ds : List D)
 | lstP (p : Addr) (ws : List W)
 | ditP (p : Addr) (ks : List (List Key)) (ws : List W)
 | kt (ks : List Key)
 | mobj (C : Addr) (fs : List Str) (ws : List W)
 | raw (o : HO)
 | un
abbrev D.int (i : Int) : D := .sh (.v (.int i))
abbrev D.bl (b : Bool) : D := .sh (.v (.bl b))
abbrev D.non : D := .sh (.v .non)
abbrev D.str (s : Str) : D := .sh (.v (.str s))
def D.fz : D → Option W
 | .sh w => some w
 | .lst ws => some (.lst ws)
 | .dic ks ws => some (.dic ks ws)
 | .dit ks ws => some (.dit ks ws)
 | .obj C fs ws => some (.obj C fs ws)
 | .set S n => some (.set S n)
 | .lstP _ ws => some (.lst ws)
 | .ditP _ ks ws => some (.dit ks ws)
 | _ => none
structure Cx (K : PySem.W.Frag) where
 b : Addr
 M : Addr → Prop
 F0 : Hp
 H0 : Hp
 /-- the first name holds an own thing of the caller's, which is given back -/
 sf : Bool
 /-- small tuples of the heap as it began may be at hand as they are -/
 pk : Bool
inductive Ow {K : PySem.W.Frag} (c : Cx K) (F H : Hp) : (Addr → Prop) → V → D → Prop
 | sh {S v w} : Rep K c.b F v w → Ow c F H S v (.sh w)
 | lst {S a us ws} : S a → ¬ c.M a → H a = some (.lst us) → RepL K c.b F us ws → Ow c F H S (.ref a) (.lst ws)
 | dic {S a ks us ws} : S a → ¬ c.M a → H a = some (.dK (ks.zip us)) → us.length = ks.length → RepL K c.b F us ws → Ow c F H S (.ref a) (.dic ks ws)
 | dit {S a ks us ws} : S a → ¬ c.M a → H a = some (.dT (ks.zip us)) → us.length = ks.length → RepL K c.b F us ws → Ow c F H S (.ref a) (.dit ks ws)
 | obj {S a C dx fs us ws} : S a → ¬ c.M a → H a = some (.ins C dx (fs.zip us)) → us.length = fs.length → RepL K c.b F us ws → Ow c F H S (.ref a) (.obj C fs ws)
 | set {S a T n} : S a → ¬ c.M a → H a = some (.set T n) → Ow c F H S (.ref a) (.set T n)
 | ntup {S a us ds} (cm : Addr → Nat) : S a → ¬ c.M a → H a = some (.tup us) → us.length = ds.length → (∀ (j : Nat) v d, us[j]? = some v → ds[j]? = some d → Ow c F H (fun x => S x ∧ x ≠ a ∧ cm x = j) v d) → Ow c F H S (.ref a) (.ntup ds)
 | nlst {S a us ds} (cm : Addr → Nat) : S a → ¬ c.M a → H a = some (.lst us) → us.length = ds.length → (∀ (j : Nat) v d, us[j]? = some v → ds[j]? = some d → Ow c F H (fun x => S x ∧ x ≠ a ∧ cm x = j) v d) → Ow c F H S (.ref a) (.nlst ds)
 | nobj {S a C dx fs us ds} (cm : Addr → Nat) : S a → ¬ c.M a → H a = some (.ins C dx (fs.zip us)) → us.length = fs.length → us.length = ds.length → (∀ (j : Nat) v d, us[j]? = some v → ds[j]? = some d → Ow c F H (fun x => S x ∧ x ≠ a ∧ cm x = j) v d) → Ow c F H S (.ref a) (.nobj a C fs ds)
 | kt {S q ks} : c.pk = true → c.H0 q = some (.tup (ks.map kV)) → Ow c F H S (.ref q) (.kt ks)
 | lstP {S a us ws} : S a → ¬ c.M a → H a = some (.lst us) → RepL K c.b F us ws → Ow c F H S (.ref a) (.lstP a ws)
 | ditP {S a ks us ws} : S a → ¬ c.M a → H a = some (.dT (ks.zip us)) → us.length = ks.length → RepL K c.b F us ws → Ow c F H S (.ref a) (.ditP a ks ws)
 | mobj {S a C dx fs us ws} : S a → c.M a → H a = some (.ins C dx (fs.zip us)) → us.length = fs.length → RepL K c.b F us ws → Ow c F H S (.ref a) (.mobj C fs ws)
 | raw {S a o} : S a → ¬ c.M a → H a = some o → Ow c F H S (.ref a) (.raw o)
 | un {S v} : Ow c F H S v .un
theorem Ow.mono {K : PySem.W.Frag} {c : Cx K} {F H F' H' : Hp} (e : Same F F') {S : Addr → Prop} {v : V} {d : D} (h : Ow c F H S v d) : ∀ {S' : Addr → Prop}, (∀ a o, S a → H a = some o → H' a = some o) → (∀ a, S a → S' a) → Ow c F' H' S' v d := by
 induction h with
 | sh r => intro S' k s; exact .sh (r.mono e)
 | lst s0 m h r => intro S' k s; exact .lst (s _ s0) m (k _ _ s0 h) (r.mono e)
 | dic s0 m h l r => intro S' k s; exact .dic (s _ s0) m (k _ _ s0 h) l (r.mono e)
 | dit s0 m h l r => intro S' k s; exact .dit (s _ s0) m (k _ _ s0 h) l (r.mono e)
 | obj s0 m h l r => intro S' k s; exact .obj (s _ s0) m (k _ _ s0 h) l (r.mono e)
 | set s0 m h => intro S' k s; exact .set (s _ s0) m (k _ _ s0 h)
 | ntup cm s0 m h l _ ih =>
  intro S' k s
  exact .ntup cm (s _ s0) m (k _ _ s0 h) l fun j v d hv hd => ih j v d hv hd (fun a o q => k a o q.1) fun a q => ⟨s a q.1, q.2⟩
 | nlst cm s0 m h l _ ih =>
  intro S' k s
  exact .nlst cm (s _ s0) m (k _ _ s0 h) l fun j v d hv hd => ih j v d hv hd (fun a o q => k a o q.1) fun a q => ⟨s a q.1, q.2⟩
 | nobj cm s0 m h l l2 _ ih =>
  intro S' k s
  exact .nobj cm (s _ s0) m (k _ _ s0 h) l l2 fun j v d hv hd => ih j v d hv hd (fun a o q => k a o q.1) fun a q => ⟨s a q.1, q.2⟩
 | kt p h => intro S' k s; exact .kt p h
 | lstP s0 m h r => intro S' k s; exact .lstP (s _ s0) m (k _ _ s0 h) (r.mono e)
 | ditP s0 m h l r => intro S' k s; exact .ditP (s _ s0) m (k _ _ s0 h) l (r.mono e)
 | mobj s0 m h l r => intro S' k s; exact .mobj (s _ s0) m (k _ _ s0 h) l (r.mono e)
 | raw s0 m h => intro S' k s; exact .raw (s _ s0) m (k _ _ s0 h)
 | un => intro S' k s; exact .un
theorem Ow.frz {K : PySem.W.Frag} {c : Cx K} {F H : Hp} {S : Addr → Prop} {v : V} {d : D} {w : W} (h : Ow c F H S v d) (hw : d.fz = some w) (hF : ∀ a, S a → F a = none) : ∃ F', Same F F' ∧ (∀ a o, F' a = some o → F a = some o ∨ (S a ∧ ¬ c.M a ∧ H a = some o)) ∧ Rep K c.b F' v w := by
 have one : ∀ {a : Addr} {o : HO}, S a → ¬ c.M a → H a = some o → Same F (upd F a o) ∧ (∀ x u, upd F a o x = some u → F x = some u ∨ (S x ∧ ¬ c.M x ∧ H x = some u)) := fun {a o} s0 m h => by
  refine ⟨same_new (hF a s0), fun x u q => ?_⟩
  by_cases e : x = a
  ·subst e; rw [upd_same] at q; cases q; exact .inr ⟨s0, m, h⟩
  ·rw [upd_ne e] at q; exact .inl q
 cases h with
 | sh r => cases hw; exact ⟨F, Same.refl _, fun a o q => .inl q, r⟩
 | lst s0 m h r => cases hw; obtain ⟨e, k⟩ := one s0 m h; exact ⟨_, e, k, .lst upd_same (r.mono e)⟩
 | dic s0 m h l r => cases hw; obtain ⟨e, k⟩ := one s0 m h; exact ⟨_, e, k, .dic (.inl upd_same) l (r.mono e)⟩
 | dit s0 m h l r => cases hw; obtain ⟨e, k⟩ := one s0 m h; exact ⟨_, e, k, .dit (.inl upd_same) l (r.mono e)⟩
 | lstP s0 m h r => cases hw; obtain ⟨e, k⟩ := one s0 m h; exact ⟨_, e, k, .lst upd_same (r.mono e)⟩
 | ditP s0 m h l r => cases hw; obtain ⟨e, k⟩ := one s0 m h; exact ⟨_, e, k, .dit (.inl upd_same) l (r.mono e)⟩
 | obj s0 m h l r => cases hw; obtain ⟨e, k⟩ := one s0 m h; exact ⟨_, e, k, .obj upd_same l (r.mono e)⟩
 | set s0 m h => cases hw; obtain ⟨e, k⟩ := one s0 m h; exact ⟨_, e, k, .set upd_same⟩
 | ntup cm s0 m h l r => cases hw
 | nlst cm s0 m h l r => cases hw
 | nobj cm s0 m h l l2 r => cases hw
 | kt p h => cases hw
 | mobj s0 m h l r => cases hw
 | raw s0 m h => cases hw
 | un => cases hw
abbrev Om := Addr → Option (Sum Nat Nat)
def SlOk {K : PySem.W.Frag} (c : Cx K) (F H : Hp) (om : Om) (i : Nat) (o : Option (Option V)) (d : D) : Prop := d = .un ∨ ∃ v, o = some (some v) ∧ Ow c F H (fun a => om a = some (.inl i)) v d
def TsOk {K : PySem.W.Frag} (c : Cx K) (F H : Hp) (om : Om) : List (V × D) → Prop
 | [] => True
 | t :: ts => Ow c F H (fun a => om a = some (.inr ts.length)) t.1 t.2 ∧ TsOk c F H om ts
structure Fr {K : PySem.W.Frag} (c : Cx K) (F H : Hp) : Prop where
 bg : ∃ x, BagC c.b x c.H0 ∧ BagC c.b x H ∧ ¬ c.M x
 fb : F c.b = none
 ff : Same c.F0 F
 fh : Same F H
 nw : ∀ a, c.F0 a = none → c.H0 a ≠ none → F a = none
 kp : ∀ a o, c.H0 a = some o → a ≠ c.b → ¬ c.M a → H a = some o
 al : ∀ a, c.H0 a ≠ none → H a ≠ none
 nm : ∀ {a}, c.H0 a = none → ¬ c.M a
structure OmOk {K : PySem.W.Frag} (c : Cx K) (F H : Hp) (om : Om) : Prop where
 nb : ∀ a i, om a = some i → a ≠ c.b
 nf : ∀ a i, om a = some i → F a = none
 th : ∀ a i, om a = some i → H a ≠ none
 mn : ∀ a i, om a = some i → c.H0 a = none ∨ c.M a
structure Rel {K : PySem.W.Frag} (c : Cx K) (F H : Hp) (σ : L2.St) (ρ : List D) (ts : List (V × D)) : Prop where
 fr : Fr c F H
 len : σ.length = ρ.length
 ex : ∃ om : Om, OmOk c F H om ∧ (∀ i d, ρ[i]? = some d → SlOk c F H om i σ[i]? d) ∧ TsOk c F H om ts
section
variable {K : PySem.W.Frag} {c : Cx K} {F H F' H' : Hp} {σ : L2.St} {ρ : List D} {ts : List (V × D)} {om : Om}
theorem SlOk.mono {i : Nat} {o : Option (Option V)} {d : D} {om' : Om} (h : SlOk c F H om i o d) (e : Same F F') (k : ∀ a o, om a = some (.inl i) → H a = some o → H' a = some o) (q : ∀ a, om a = some (.inl i) → om' a = some (.inl i)) : SlOk c F' H' om' i o d := by
 rcases h with h | ⟨v, h1, h2⟩
 ·exact .inl h
 ·exact .inr ⟨v, h1, h2.mono e k q⟩
theorem TsOk.mono {om' : Om} (e : Same F F') : ∀ {ts : List (V × D)}, TsOk c F H om ts → (∀ a (j : Nat) o, j < ts.length → om a = some (.inr j) → H a = some o → H' a = some o) → (∀ a (j : Nat), j < ts.length → om a = some (.inr j) → om' a = some (.inr j)) → TsOk c F' H' om' ts
 | [], _, _, _ => trivial
 | t :: ts, h, k, q => ⟨h.1.mono e (fun a o z => k a _ o (Nat.lt_succ_self _) z) fun a z => q a _ (Nat.lt_succ_self _) z, h.2.mono e (fun a j o l => k a j o (Nat.lt_succ_of_lt l)) fun a j l => q a j (Nat.lt_succ_of_lt l)⟩
theorem BagC.ne {b x a : Addr} {H : Hp} (h : BagC b x H) (e : H a = none) : a ≠ b ∧ a ≠ x := by
 obtain ⟨_, _, _, _, h1, h2, _⟩ := h
 exact ⟨(fun q => by rw [q, h1] at e; cases e), (fun q => by rw [q, h2] at e; cases e)⟩
theorem Fr.h0 (f : Fr c F H) {a : Addr} (h : H a = none) : c.H0 a = none := Classical.byContradiction fun q => f.al a q h
theorem Fr.newS (f : Fr c F H) {p : Addr} {o : HO} (hp : H p = none) : Fr c (upd F p o) (upd H p o) := by
 obtain ⟨x, b0, b1, nm⟩ := f.bg
 have fp : F p = none := f.fh.free hp
 have np := (BagC.ne b1 hp)
 refine ⟨⟨x, b0, b1.up (same_new hp), nm⟩, by rw [upd_ne np.1.symm]; exact f.fb, f.ff.trans (same_new fp), fun a u e => ?_, fun a h1 h2 => ?_, fun a u h1 h2 h3 => same_new hp _ _ (f.kp a u h1 h2 h3), fun a h1 => ?_, f.nm⟩
 ·by_cases q : a = p
  ·subst q; rw [upd_same] at e ⊢; exact e
  ·rw [upd_ne q] at e ⊢; exact f.fh _ _ e
 ·have q : a ≠ p := fun z => h2 (by rw [z]; exact f.h0 hp)
  rw [upd_ne q]; exact f.nw a h1 h2
 ·have q : a ≠ p := fun z => h1 (by rw [z]; exact f.h0 hp)
  rw [upd_ne q]; exact f.al a h1
theorem Fr.newO (f : Fr c F H) {p : Addr} {o : HO} (hp : H p = none) : Fr c F (upd H p o) := by
 obtain ⟨x, b0, b1, nm⟩ := f.bg
 refine ⟨⟨x, b0, b1.up (same_new hp), nm⟩, f.fb, f.ff, f.fh.trans (same_new hp), f.nw, fun a u h1 h2 h3 => same_new hp _ _ (f.kp a u h1 h2 h3), fun a h1 => ?_, f.nm⟩
 have q : a ≠ p := fun z => h1 (by rw [z]; exact f.h0 hp)
 rw [upd_ne q]; exact f.al a h1
theorem Fr.mut (f : Fr c F H) {p : Addr} {o : HO} (ho : OmOk c F H om) {i : Sum Nat Nat} (hp : om p = some i) : Fr c F (upd H p o) := by
 obtain ⟨x, b0, b1, nm⟩ := f.bg
 have nb := ho.nb p i hp
 have nf := ho.nf p i hp
 have nx : x ≠ p := fun z => by
  rcases ho.mn p i hp with h | h
  ·exact (BagC.ne b0 h).2 z.symm
  ·exact nm (by rw [z]; exact h)
 refine ⟨⟨x, b0, ?_, nm⟩, f.fb, f.ff, fun a u e => by rw [upd_ne (ne_of_none e nf)]; exact f.fh _ _ e, f.nw, fun a u h1 h2 h3 => ?_, fun a h1 => ?_, f.nm⟩
 ·obtain ⟨q1, q2, q3, cs, h1, h2, r⟩ := b1
  exact ⟨q1, q2, q3, cs, by rw [upd_ne nb.symm]; exact h1, by rw [upd_ne nx]; exact h2, r⟩
 ·have q : a ≠ p := fun z => by
   rcases ho.mn p i hp with h | h
   ·rw [z, h] at h1; cases h1
   ·exact h3 (by rw [z]; exact h)
  rw [upd_ne q]; exact f.kp a u h1 h2 h3
 ·by_cases q : a = p
  ·rw [q, upd_same]; exact fun z => nomatch z
  ·rw [upd_ne q]; exact f.al a h1
theorem Rel.pushS (r : Rel c F H σ ρ ts) {v : V} {w : W} (h : Rep K c.b F v w) : Rel c F H σ ρ ((v, .sh w) :: ts) := by
 obtain ⟨om, o, s, t⟩ := r.ex
 exact ⟨r.fr, r.len, om, o, s, .sh h, t⟩
theorem Rel.newS (r : Rel c F H σ ρ ts) {p : Addr} {o : HO} (hp : H p = none) : Rel c (upd F p o) (upd H p o) σ ρ ts := by
 obtain ⟨om, k, s, t⟩ := r.ex
 have fp : F p = none := r.fr.fh.free hp
 have np : ∀ a i, om a = some i → a ≠ p := fun a i h z => k.th a i h (by rw [z]; exact hp)
 refine ⟨r.fr.newS hp, r.len, om, ⟨k.nb, fun a i h => by rw [upd_ne (np a i h)]; exact k.nf a i h, fun a i h => by rw [upd_ne (np a i h)]; exact k.th a i h, k.mn⟩, fun i d h => (s i d h).mono (same_new fp) (fun a u _ e => same_new hp _ _ e) fun a z => z, t.mono (same_new fp) (fun a j u _ _ e => same_new hp _ _ e) fun a j _ z => z⟩
theorem Rel.newO (r : Rel c F H σ ρ ts) {p : Addr} {o : HO} {d : D} (hp : H p = none) (h : ∀ S : Addr → Prop, S p → ¬ c.M p → Ow c F (upd H p o) S (.ref p) d) : Rel c F (upd H p o) σ ρ ((.ref p, d) :: ts) := by
 obtain ⟨om, k, s, t⟩ := r.ex
 have np : ∀ a i, om a = some i → a ≠ p := fun a i h z => k.th a i h (by rw [z]; exact hp)
 have nb : p ≠ c.b := by obtain ⟨x, _, b1, _⟩ := r.fr.bg; exact (BagC.ne b1 hp).1
 refine ⟨r.fr.newO hp, r.len, fun a => if a = p then some (.inr ts.length) else om a, ⟨fun a i h => ?_, fun a i h => ?_, fun a i h => ?_, fun a i h => ?_⟩, fun i d h => (s i d h).mono (Same.refl _) (fun a u _ e => same_new hp _ _ e) fun a z => ?_, h _ (if_pos rfl) (r.fr.nm (r.fr.h0 hp)), t.mono (Same.refl _) (fun a j u _ _ e => same_new hp _ _ e) fun a j _ z => ?_⟩
 ·by_cases q : a = p
  ·rw [q]; exact nb
  ·rw [if_neg q] at h; exact k.nb a i h
 ·by_cases q : a = p
  ·rw [q]; exact r.fr.fh.free hp
  ·rw [if_neg q] at h; exact k.nf a i h
 ·by_cases q : a = p
  ·rw [q, upd_same]; exact fun z => nomatch z
  ·rw [if_neg q] at h; rw [upd_ne q]; exact k.th a i h
 ·by_cases q : a = p
  ·rw [q]; exact .inl (r.fr.h0 hp)
  ·rw [if_neg q] at h; exact k.mn a i h
 ·show (if a = p then _ else _) = _
  rw [if_neg (np a _ z)]; exact z
 ·show (if a = p then _ else _) = _
  rw [if_neg (np a _ z)]; exact z
theorem Rel.pop {t : V × D} (r : Rel c F H σ ρ (t :: ts)) : Rel c F H σ ρ ts := by
 obtain ⟨om, o, s, t⟩ := r.ex
 exact ⟨r.fr, r.len, om, o, s, t.2⟩
theorem Rel.pop2 {t u : V × D} (r : Rel c F H σ ρ (t :: u :: ts)) : Rel c F H σ ρ (t :: ts) := by
 obtain ⟨om, o, s, ht, hu, hr⟩ := r.ex
 refine ⟨r.fr, r.len, fun a => if om a = some (.inr (ts.length + 1)) then some (.inr ts.length) else if om a = some (.inr ts.length) then none else om a, ⟨fun a i h => ?_, fun a i h => ?_, fun a i h => ?_, fun a i h => ?_⟩, fun i d h => (s i d h).mono (Same.refl _) (fun a u _ e => e) fun a z => ?_, ht.mono (Same.refl _) (fun a u _ e => e) fun a z => ?_, hr.mono (Same.refl _) (fun a j u _ _ e => e) fun a j l z => ?_⟩
 ·try dsimp only at h
  split at h
  next q => exact o.nb a _ q
  next q =>
       split at h
       next z => cases h
       next z => exact o.nb a i h
 ·try dsimp only at h
  split at h
  next q => exact o.nf a _ q
  next q =>
       split at h
       next z => cases h
       next z => exact o.nf a i h
 ·try dsimp only at h
  split at h
  next q => exact o.th a _ q
  next q =>
       split at h
       next z => cases h
       next z => exact o.th a i h
 ·try dsimp only at h
  split at h
  next q => exact o.mn a _ q
  next q =>
       split at h
       next z => cases h
       next z => exact o.mn a i h
 ·try dsimp only
  rw [z, if_neg (fun q => nomatch q), if_neg (fun q => nomatch q)]
 ·try dsimp only
  rw [show om a = some (.inr (ts.length + 1)) from z, if_pos rfl]
 ·try dsimp only
  rw [z, if_neg (fun q => by cases q; omega), if_neg (fun q => by cases q; omega)]
theorem Rel.top {v : V} {d : D} (r : Rel c F H σ ρ ((v, d) :: ts)) : ∃ S : Addr → Prop, Ow c F H S v d := by
 obtain ⟨om, o, s, t⟩ := r.ex
 exact ⟨_, t.1⟩
theorem Rel.topS {v : V} {w : W} (r : Rel c F H σ ρ ((v, .sh w) :: ts)) : Rep K c.b F v w := by
 obtain ⟨S, h⟩ := r.top
 cases h with | sh h => exact h
theorem Fr.frz (f : Fr c F H) (ho : OmOk c F H om) {i : Sum Nat Nat} (e : Same F F') (k : ∀ a o, F' a = some o → F a = some o ∨ (om a = some i ∧ ¬ c.M a ∧ H a = some o)) : Fr c F' H := by
 refine ⟨f.bg, ?_, f.ff.trans e, fun a o q => ?_, fun a h1 h2 => ?_, f.kp, f.al, f.nm⟩
 ·cases q : F' c.b with
  | none => rfl
  | some o =>
   rcases k _ _ q with z | z
   ·rw [f.fb] at z; cases z
   ·exact absurd rfl (ho.nb _ _ z.1)
 ·rcases k _ _ q with z | z
  ·exact f.fh _ _ z
  ·exact z.2.2
 ·cases q : F' a with
  | none => rfl
  | some o =>
   rcases k _ _ q with z | z
   ·rw [f.nw a h1 h2] at z; cases z
   ·rcases ho.mn a i z.1 with w | w
    ·exact absurd w h2
    ·exact absurd w z.2.1
def Om.off (om : Om) (i : Sum Nat Nat) : Om := fun a => if om a = some i then none else om a
theorem Om.off_ne {i j : Sum Nat Nat} {a : Addr} (h : om a = some j) (n : j ≠ i) : om.off i a = some j := by
 unfold Om.off
 rw [h, if_neg (fun q => n (Option.some.inj q))]
theorem Om.of_off {i j : Sum Nat Nat} {a : Addr} (h : om.off i a = some j) : om a = some j ∧ j ≠ i := by
 unfold Om.off at h
 split at h
 next => cases h
 next q => exact ⟨h, fun z => q (by rw [h, z])⟩
theorem OmOk.frz (ho : OmOk c F H om) {i : Sum Nat Nat} (k : ∀ a o, F' a = some o → F a = some o ∨ (om a = some i ∧ ¬ c.M a ∧ H a = some o)) : OmOk c F' H (om.off i) := by
 refine ⟨fun a j h => ho.nb a j (Om.of_off h).1, fun a j h => ?_, fun a j h => ho.th a j (Om.of_off h).1, fun a j h => ho.mn a j (Om.of_off h).1⟩
 obtain ⟨h1, h2⟩ := Om.of_off h
 cases q : F' a with
 | none => rfl
 | some o =>
  rcases k _ _ q with z | z
  ·rw [ho.nf a j h1] at z; cases z
  ·rw [h1] at z; exact absurd (Option.some.inj z.1) h2
theorem Rel.frzT {v : V} {d : D} {w : W} (r : Rel c F H σ ρ ((v, d) :: ts)) (hw : d.fz = some w) : ∃ F', Same F F' ∧ Rel c F' H σ ρ ((v, .sh w) :: ts) := by
 obtain ⟨om, o, s, t⟩ := r.ex
 obtain ⟨F', e, k, q⟩ := t.1.frz hw fun a h => o.nf a _ h
 exact ⟨F', e, r.fr.frz o e k, r.len, om.off (.inr ts.length), o.frz k, fun i d h => (s i d h).mono e (fun a u _ z => z) (fun a z => Om.off_ne z (fun y => nomatch y)), .sh q, t.2.mono e (fun a j u _ _ z => z) fun a j l z => Om.off_ne z fun y => by cases y; omega⟩
theorem Rel.frzS {i : Nat} {d : D} {w : W} (r : Rel c F H σ ρ ts) (hi : ρ[i]? = some d) (hw : d.fz = some w) : ∃ F' v, Same F F' ∧ σ[i]? = some (some v) ∧ Rep K c.b F' v w ∧ Rel c F' H σ (ρ.set i (.sh w)) ts := by
 obtain ⟨om, o, s, t⟩ := r.ex
 rcases s i d hi with h | ⟨v, h1, h2⟩
 ·rw [h] at hw; cases hw
 obtain ⟨F', e, k, q⟩ := h2.frz hw fun a h => o.nf a _ h
 refine ⟨F', v, e, h1, q, r.fr.frz o e k, by rw [List.length_set]; exact r.len, om.off (.inl i), o.frz k, fun j d h => ?_, t.mono e (fun a j u _ _ z => z) fun a j l z => Om.off_ne z fun y => nomatch y⟩
 by_cases hj : i = j
 ·subst hj
  rw [List.getElem?_set_self (List.getElem?_eq_some_iff.mp hi).1] at h
  cases h
  exact .inr ⟨v, h1, .sh q⟩
 ·rw [List.getElem?_set_ne hj] at h
  exact (s j d h).mono e (fun a u _ z => z) (fun a z => Om.off_ne z (fun y => hj (by cases y; rfl)))
theorem Rel.store {v : V} {d : D} (r : Rel c F H σ ρ ((v, d) :: ts)) (i : Nat) : Rel c F H (σ.set i (some v)) (ρ.set i d) ts := by
 obtain ⟨om, o, s, t⟩ := r.ex
 refine ⟨r.fr, by rw [List.length_set, List.length_set]; exact r.len, fun a => if om a = some (.inr ts.length) then some (.inl i) else om.off (.inl i) a, ⟨fun a j h => ?_, fun a j h => ?_, fun a j h => ?_, fun a j h => ?_⟩, fun j d' h => ?_, t.2.mono (Same.refl _) (fun a j u _ _ z => z) fun a j l z => ?_⟩
 ·try dsimp only at h
  split at h
  next q => exact o.nb a _ q
  next q => exact o.nb a _ (Om.of_off h).1
 ·try dsimp only at h
  split at h
  next q => exact o.nf a _ q
  next q => exact o.nf a _ (Om.of_off h).1
 ·try dsimp only at h
  split at h
  next q => exact o.th a _ q
  next q => exact o.th a _ (Om.of_off h).1
 ·try dsimp only at h
  split at h
  next q => exact o.mn a _ q
  next q => exact o.mn a _ (Om.of_off h).1
 ·by_cases hj : i = j
  ·subst hj
   have hi : i < ρ.length := by
    have := (List.getElem?_eq_some_iff.mp h).1
    rwa [List.length_set] at this
   rw [List.getElem?_set_self hi] at h
   cases h
   refine .inr ⟨v, List.getElem?_set_self (by rw [r.len]; exact hi), t.1.mono (Same.refl _) (fun a u _ z => z) fun a z => ?_⟩
   try dsimp only at z ⊢
   rw [if_pos z]
  ·rw [List.getElem?_set_ne hj] at h ⊢
   refine (s j d' h).mono (Same.refl _) (fun a u _ z => z) fun a z => ?_
   try dsimp only
   rw [if_neg (by rw [z]; exact fun q => nomatch q)]
   exact Om.off_ne z (fun y => hj (by cases y; rfl))
 ·try dsimp only
  rw [if_neg (by rw [z]; exact fun q => by cases q; omega)]
  exact Om.off_ne z fun y => nomatch y
theorem Rel.forget (r : Rel c F H σ ρ ts) (i : Nat) (o : Option V) : Rel c F H (σ.set i o) (ρ.set i .un) ts := by
 obtain ⟨om, k, s, t⟩ := r.ex
 refine ⟨r.fr, by rw [List.length_set, List.length_set]; exact r.len, om, k, fun j d h => ?_, t⟩
 by_cases hj : i = j
 ·subst hj
  have hi : i < ρ.length := by
   have := (List.getElem?_eq_some_iff.mp h).1
   rwa [List.length_set] at this
  rw [List.getElem?_set_self hi] at h
  cases h
  exact .inl rfl
 ·rw [List.getElem?_set_ne hj] at h ⊢
  exact s j d h
theorem Rel.take {i : Nat} {d : D} (r : Rel c F H σ ρ ts) (hi : ρ[i]? = some d) (hd : d ≠ .un) : ∃ v, σ[i]? = some (some v) ∧ Rel c F H σ (ρ.set i .un) ((v, d) :: ts) := by
 obtain ⟨om, o, s, t⟩ := r.ex
 rcases s i d hi with h | ⟨v, h1, h2⟩
 ·exact absurd h hd
 refine ⟨v, h1, r.fr, by rw [List.length_set]; exact r.len, fun a => if om a = some (.inl i) then some (.inr ts.length) else om.off (.inr ts.length) a, ⟨fun a j h => ?_, fun a j h => ?_, fun a j h => ?_, fun a j h => ?_⟩, fun j d' h => ?_, h2.mono (Same.refl _) (fun a u _ z => z) (fun a z => ?_), t.mono (Same.refl _) (fun a j u _ _ z => z) fun a j l z => ?_⟩
 ·try dsimp only at h
  split at h
  next q => exact o.nb a _ q
  next q => exact o.nb a _ (Om.of_off h).1
 ·try dsimp only at h
  split at h
  next q => exact o.nf a _ q
  next q => exact o.nf a _ (Om.of_off h).1
 ·try dsimp only at h
  split at h
  next q => exact o.th a _ q
  next q => exact o.th a _ (Om.of_off h).1
 ·try dsimp only at h
  split at h
  next q => exact o.mn a _ q
  next q => exact o.mn a _ (Om.of_off h).1
 ·by_cases hj : i = j
  ·subst hj
   have hi : i < ρ.length := by
    have := (List.getElem?_eq_some_iff.mp h).1
    rwa [List.length_set] at this
   rw [List.getElem?_set_self hi] at h
   cases h
   exact .inl rfl
  ·rw [List.getElem?_set_ne hj] at h
   refine (s j d' h).mono (Same.refl _) (fun a u _ z => z) fun a z => ?_
   try dsimp only
   rw [if_neg (by rw [z]; exact fun q => hj (by cases q; rfl))]
   exact Om.off_ne z fun y => nomatch y
 ·try dsimp only at z ⊢
  rw [if_pos z]
 ·try dsimp only
  rw [if_neg (by rw [z]; exact fun q => nomatch q)]
  exact Om.off_ne z fun y => by cases y; omega
theorem Rel.mutT {v : V} {d d' : D} {p : Addr} {o : HO} (r : Rel c F H σ ρ ((v, d) :: ts)) (h : ∀ S : Addr → Prop, Ow c F H S v d → S p ∧ Ow c F (upd H p o) S v d') : Rel c F (upd H p o) σ ρ ((v, d') :: ts) := by
 obtain ⟨om, k, s, t⟩ := r.ex
 obtain ⟨h1, h2⟩ := h _ t.1
 refine ⟨r.fr.mut k h1, r.len, om, ⟨k.nb, k.nf, fun a i z => ?_, k.mn⟩, fun i d z => (s i d z).mono (Same.refl _) (fun a u q e => ?_) (fun a z => z), h2, t.2.mono (Same.refl _) (fun a j u l q e => ?_) fun a j _ z => z⟩
 ·by_cases q : a = p
  ·rw [q, upd_same]; exact fun z => nomatch z
  ·rw [upd_ne q]; exact k.th a i z
 ·rw [upd_ne (fun y => by rw [y, h1] at q; cases q)]; exact e
 ·rw [upd_ne (fun y => by rw [y, h1] at q; cases q; omega)]; exact e
theorem Rel.mutS {v : V} {d d' : D} {i : Nat} {p : Addr} {o : HO} (r : Rel c F H σ ρ ts) (hi : ρ[i]? = some d) (hd : d ≠ .un) (hv : σ[i]? = some (some v)) (h : ∀ S : Addr → Prop, Ow c F H S v d → S p ∧ Ow c F (upd H p o) S v d') : Rel c F (upd H p o) σ (ρ.set i d') ts := by
 obtain ⟨om, k, s, t⟩ := r.ex
 rcases s i d hi with h0 | ⟨v', h1, h2⟩
 ·exact absurd h0 hd
 rw [hv] at h1
 cases h1
 obtain ⟨h3, h4⟩ := h _ h2
 refine ⟨r.fr.mut k h3, by rw [List.length_set]; exact r.len, om, ⟨k.nb, k.nf, fun a i z => ?_, k.mn⟩, fun j d2 z => ?_, t.mono (Same.refl _) (fun a j u l q e => ?_) fun a j _ z => z⟩
 ·by_cases q : a = p
  ·rw [q, upd_same]; exact fun z => nomatch z
  ·rw [upd_ne q]; exact k.th a i z
 ·by_cases hj : i = j
  ·subst hj
   rw [List.getElem?_set_self (List.getElem?_eq_some_iff.mp hi).1] at z
   cases z
   exact .inr ⟨v, hv, h4⟩
  ·rw [List.getElem?_set_ne hj] at z
   exact (s j d2 z).mono (Same.refl _) (fun a u q e => by rw [upd_ne (fun y => by rw [y, h3] at q; cases q; exact hj rfl)]; exact e) (fun a z => z)
 ·rw [upd_ne (fun y => by rw [y, h3] at q; cases q)]; exact e
theorem Rel.slot {i : Nat} {d : D} (r : Rel c F H σ ρ ts) (hi : ρ[i]? = some d) (hd : d ≠ .un) : ∃ v S, σ[i]? = some (some v) ∧ Ow c F H S v d := by
 obtain ⟨om, o, s, t⟩ := r.ex
 rcases s i d hi with h | ⟨v, h1, h2⟩
 ·exact absurd h hd
 ·exact ⟨v, _, h1, h2⟩
theorem Rel.slotS {i : Nat} {w : W} (r : Rel c F H σ ρ ts) (hi : ρ[i]? = some (.sh w)) : ∃ v, σ[i]? = some (some v) ∧ Rep K c.b F v w := by
 obtain ⟨v, S, h1, h2⟩ := r.slot hi (fun z => nomatch z)
 cases h2 with | sh h => exact ⟨v, h1, h⟩
end
end R
namespace R
open PySem PySem.Spec PyProof.Rows L2 G
abbrev PV := Sum Nat W
abbrev KQ := List D → D → Prop
abbrev TQ := List D → KQ → Prop
abbrev TVQ := List D → (List D → PV → Prop) → Prop
abbrev TTQ := List D → (List D → Bool → Prop) → Prop
abbrev TAQ := List D → (List D → List W → Prop) → Prop
abbrev TVAQ := List D → (List D → List PV → Prop) → Prop
abbrev TOQ := List D → (List D → Option Int → Prop) → Prop
def lookD (d : D) (k : W → Prop) : Prop := match d.fz with
 | some w => k w
 | none => False
def look (ρ : List D) (p : PV) (k : W → Prop) : Prop := match p with
 | .inr w => k w
 | .inl i => match ρ[i]? with
  | some d => lookD d k
  | none => False
def lookL (ρ : List D) : List PV → (List W → Prop) → Prop
 | [], k => k []
 | p :: ps, k => look ρ p fun w => lookL ρ ps fun ws => k (w :: ws)
theorem lookD_ex {d : D} {k : W → Prop} (h : lookD d k) : ∃ w, d.fz = some w ∧ k w := by
 unfold lookD at h
 split at h
 next w e => exact ⟨w, e, h⟩
 next => exact h.elim
def Vw {K : PySem.W.Frag} (c : Cx K) (F H : Hp) (v : V) (w : W) : Prop := ∃ S d, Ow c F H S v d ∧ d.fz = some w
def VwL {K : PySem.W.Frag} (c : Cx K) (F H : Hp) : List V → List W → Prop
 | [], [] => True
 | v :: vs, w :: ws => Vw c F H v w ∧ VwL c F H vs ws
 | _, _ => False
inductive PvOk (σ : L2.St) (ts : List (V × D)) : V → PV → List (V × D) → Prop
 | slot {i v} : σ[i]? = some (some v) → PvOk σ ts v (.inl i) ts
 | val {v w} : PvOk σ ts v (.inr w) ((v, .sh w) :: ts)
inductive PvsOk (σ : L2.St) : List (V × D) → List V → List PV → List (V × D) → Prop
 | nil {ts} : PvsOk σ ts [] [] ts
 | cons {ts v p ts1 vs ps ts2} : PvOk σ ts v p ts1 → PvsOk σ ts1 vs ps ts2 → PvsOk σ ts (v :: vs) (p :: ps) ts2
section
variable {K : PySem.W.Frag} {c : Cx K} {F H F' H' : Hp} {σ : L2.St} {ρ : List D} {ts ts' : List (V × D)}
theorem Vw.of {v : V} {w : W} (h : Rep K c.b F v w) : Vw c F H v w := ⟨fun _ => True, .sh w, .sh h, rfl⟩
theorem Vw.flat {v x : V} (h : Vw c F H v (.v x)) : v = x := by
 obtain ⟨S, d, o, e⟩ := h
 cases o with
 | sh r => cases e; exact r.flat
 | _ => cases e
theorem Vw.lst {v : V} {ws : List W} (h : Vw c F H v (.lst ws)) (e : Same F H) : ∃ a us, v = .ref a ∧ H a = some (.lst us) ∧ RepL K c.b F us ws := by
 obtain ⟨S, d, o, q⟩ := h
 cases o with
 | sh r => cases q; cases r with | lst a r => exact ⟨_, _, rfl, e _ _ a, r⟩
 | lst s m h r => cases q; exact ⟨_, _, rfl, h, r⟩
 | lstP s m h r => cases q; exact ⟨_, _, rfl, h, r⟩
 | _ => cases q
theorem Vw.tup {v : V} {ws : List W} (h : Vw c F H v (.tup ws)) (e : Same F H) : ∃ a us, v = .ref a ∧ F a = some (.tup us) ∧ H a = some (.tup us) ∧ RepL K c.b F us ws := by
 obtain ⟨S, d, o, q⟩ := h
 cases o with
 | sh r => cases q; cases r with | tup a r => exact ⟨_, _, rfl, a, e _ _ a, r⟩
 | _ => cases q
theorem Vw.dic {v : V} {ks : List Key} {ws : List W} (h : Vw c F H v (.dic ks ws)) (e : Same F H) : ∃ a us, v = .ref a ∧ Rd H a (.dK (ks.zip us)) ∧ us.length = ks.length ∧ RepL K c.b F us ws := by
 obtain ⟨S, d, o, q⟩ := h
 cases o with
 | sh r => cases q; cases r with | dic a l r => exact ⟨_, _, rfl, rd_up e a, l, r⟩
 | dic s m h l r => cases q; exact ⟨_, _, rfl, .inl h, l, r⟩
 | _ => cases q
theorem Vw.dit {v : V} {ks : List (List Key)} {ws : List W} (h : Vw c F H v (.dit ks ws)) (e : Same F H) : ∃ a us, v = .ref a ∧ Rd H a (.dT (ks.zip us)) ∧ us.length = ks.length ∧ RepL K c.b F us ws := by
 obtain ⟨S, d, o, q⟩ := h
 cases o with
 | sh r => cases q; cases r with | dit a l r => exact ⟨_, _, rfl, rd_up e a, l, r⟩
 | dit s m h l r => cases q; exact ⟨_, _, rfl, .inl h, l, r⟩
 | ditP s m h l r => cases q; exact ⟨_, _, rfl, .inl h, l, r⟩
 | _ => cases q
theorem Vw.obj {v : V} {C : Addr} {fs : List Str} {ws : List W} (h : Vw c F H v (.obj C fs ws)) (e : Same F H) : ∃ a dx us, v = .ref a ∧ H a = some (.ins C dx (fs.zip us)) ∧ us.length = fs.length ∧ RepL K c.b F us ws := by
 obtain ⟨S, d, o, q⟩ := h
 cases o with
 | sh r => cases q; cases r with | obj a l r => exact ⟨_, _, _, rfl, e _ _ a, l, r⟩
 | obj s m h l r => cases q; exact ⟨_, _, _, rfl, h, l, r⟩
 | _ => cases q
theorem Vw.set {v : V} {T : Int → Bool} {n : Nat} (h : Vw c F H v (.set T n)) (e : Same F H) : ∃ a, v = .ref a ∧ H a = some (.set T n) := by
 obtain ⟨S, d, o, q⟩ := h
 cases o with
 | sh r => cases q; cases r with | set a => exact ⟨_, rfl, e _ _ a⟩
 | set s m h => cases q; exact ⟨_, rfl, h⟩
 | _ => cases q
theorem TsOk.mem {om : Om} : ∀ {ts : List (V × D)}, TsOk c F H om ts → ∀ {v w}, (v, D.sh w) ∈ ts → Rep K c.b F v w
 | t :: ts, h, v, w, m => by
  rcases List.mem_cons.mp m with e | m
  ·have h1 := h.1
   rw [← e] at h1
   cases h1 with | sh r => exact r
  ·exact h.2.mem m
theorem Rel.mem (r : Rel c F H σ ρ ts) {v : V} {w : W} (m : (v, D.sh w) ∈ ts) : Rep K c.b F v w := by
 obtain ⟨om, o, s, t⟩ := r.ex
 exact t.mem m
def Has1 (σ : L2.St) (ts : List (V × D)) (v : V) : PV → Prop
 | .inl i => σ[i]? = some (some v)
 | .inr w => (v, D.sh w) ∈ ts
theorem PvOk.has {v : V} {p : PV} (h : PvOk σ ts v p ts') : Has1 σ ts' v p ∧ ∀ t ∈ ts, t ∈ ts' := by
 cases h with
 | slot e => exact ⟨e, fun t h => h⟩
 | val => exact ⟨List.mem_cons_self, fun t h => List.mem_cons_of_mem _ h⟩
theorem Has1.up {v : V} {p : PV} (h : Has1 σ ts v p) (k : ∀ t ∈ ts, t ∈ ts') : Has1 σ ts' v p := by
 cases p with
 | inl i => exact h
 | inr w => exact k _ h
theorem Rel.see (r : Rel c F H σ ρ ts) {v : V} {p : PV} {k : W → Prop} (h : Has1 σ ts v p) (q : look ρ p k) : ∃ w, Vw c F H v w ∧ k w := by
 cases p with
 | inr w => exact ⟨w, .of (r.mem h), q⟩
 | inl i =>
  unfold look at q
  dsimp only at q
  split at q
  next d e =>
   obtain ⟨w, hw, q⟩ := lookD_ex q
   obtain ⟨v', S, h1, h2⟩ := r.slot e (fun z => by rw [z] at hw; cases hw)
   rw [show σ[i]? = some (some v) from h] at h1
   cases h1
   exact ⟨w, ⟨S, d, h2, hw⟩, q⟩
  next => exact q.elim
theorem PvsOk.sub {vs : List V} {ps : List PV} (h : PvsOk σ ts vs ps ts') : ∀ t ∈ ts, t ∈ ts' := by
 induction h with
 | nil => exact fun t h => h
 | cons a _ ih => exact fun t h => ih t (a.has.2 t h)
theorem Rel.seeL (r : Rel c F H σ ρ ts') : ∀ {ts : List (V × D)} {vs : List V} {ps : List PV} {k : List W → Prop}, PvsOk σ ts vs ps ts' → lookL ρ ps k → ∃ ws, VwL c F H vs ws ∧ k ws
 | _, _, _, k, .nil, q => ⟨[], trivial, q⟩
 | _, _, _, k, .cons a b, q => by
  obtain ⟨w, h1, q⟩ := r.see (a.has.1.up b.sub) q
  obtain ⟨ws, h2, q⟩ := r.seeL b q
  exact ⟨w :: ws, ⟨h1, h2⟩, q⟩
theorem PvOk.back {v : V} {p : PV} {x : V × D} (h : PvOk σ ts v p ts') (r : Rel c F H σ ρ (x :: ts')) : Rel c F H σ ρ (x :: ts) := by
 cases h with
 | slot e => exact r
 | val => exact r.pop2
theorem PvOk.back0 {v : V} {p : PV} (h : PvOk σ ts v p ts') (r : Rel c F H σ ρ ts') : Rel c F H σ ρ ts := by
 cases h with
 | slot e => exact r
 | val => exact r.pop
theorem PvsOk.back {vs : List V} {ps : List PV} {x : V × D} (h : PvsOk σ ts vs ps ts') : Rel c F H σ ρ (x :: ts') → Rel c F H σ ρ (x :: ts) := by
 induction h with
 | nil => exact fun r => r
 | cons a _ ih => exact fun r => a.back (ih r)
theorem PvsOk.back0 {vs : List V} {ps : List PV} (h : PvsOk σ ts vs ps ts') : Rel c F H σ ρ ts' → Rel c F H σ ρ ts := by
 induction h with
 | nil => exact fun r => r
 | cons a _ ih => exact fun r => a.back0 (ih r)
end
abbrev ContE {K : PySem.W.Frag} (c : Cx K) (σ : L2.St) (ts : List (V × D)) (Qp : KQ) (Q : VK) : Prop := ∀ v d ρ' F' H', Rel c F' H' σ ρ' ((v, d) :: ts) → Qp ρ' d → Q v H'
class SE {K : PySem.W.Frag} (c : Cx K) (t : TE) (τ : outParam TQ) : Prop where
 sim : ∀ {F H : Hp} {σ : L2.St} {ρ : List D} {ts : List (V × D)} {Q : VK} {Qp : KQ}, Rel c F H σ ρ ts → τ ρ Qp → ContE c σ ts Qp Q → t σ H Q
class SV {K : PySem.W.Frag} (c : Cx K) (t : TE) (τ : outParam TVQ) : Prop where
 sim : ∀ {F H : Hp} {σ : L2.St} {ρ : List D} {ts : List (V × D)} {Q : VK} {Qp : List D → PV → Prop}, Rel c F H σ ρ ts → τ ρ Qp → (∀ v p ρ' F' H' ts', PvOk σ ts v p ts' → Rel c F' H' σ ρ' ts' → Qp ρ' p → Q v H') → t σ H Q
class SVA {K : PySem.W.Frag} (c : Cx K) (t : TA) (τ : outParam TVAQ) : Prop where
 sim : ∀ {F H : Hp} {σ : L2.St} {ρ : List D} {ts : List (V × D)} {Q : List V → Hp → Prop} {Qp : List D → List PV → Prop}, Rel c F H σ ρ ts → τ ρ Qp → (∀ vs ps ρ' F' H' ts', PvsOk σ ts vs ps ts' → Rel c F' H' σ ρ' ts' → Qp ρ' ps → Q vs H') → t σ H Q
class SA {K : PySem.W.Frag} (c : Cx K) (t : TA) (n : outParam Nat) (τ : outParam TAQ) : Prop where
 sim : ∀ {F H : Hp} {σ : L2.St} {ρ : List D} {ts : List (V × D)} {Q : List V → Hp → Prop} {Qp : List D → List W → Prop}, Rel c F H σ ρ ts → τ ρ Qp → (∀ vs ws ρ' F' H', vs.length = n → Rel c F' H' σ ρ' ts → RepL K c.b F' vs ws → Qp ρ' ws → Q vs H') → t σ H Q
class SmN (k n : Nat) : Prop where
 le : n ≤ k
instance {k : Nat} : SmN k 0 := ⟨Nat.zero_le _⟩
instance {k n : Nat} [h : SmN k n] : SmN (k + 1) (n + 1) := ⟨Nat.succ_le_succ h.le⟩
class ST {K : PySem.W.Frag} (c : Cx K) (t : TT) (τ : outParam TTQ) : Prop where
 sim : ∀ {F H : Hp} {σ : L2.St} {ρ : List D} {ts : List (V × D)} {Q : Bool → Hp → Prop} {Qp : List D → Bool → Prop}, Rel c F H σ ρ ts → τ ρ Qp → (∀ k ρ' F' H', Rel c F' H' σ ρ' ts → Qp ρ' k → Q k H') → t σ H Q
class SO {K : PySem.W.Frag} (c : Cx K) (t : TO) (τ : outParam TOQ) : Prop where
 sim : ∀ {F H : Hp} {σ : L2.St} {ρ : List D} {ts : List (V × D)} {Q : Option Int → Hp → Prop} {Qp : List D → Option Int → Prop}, Rel c F H σ ρ ts → τ ρ Qp → (∀ k ρ' F' H', Rel c F' H' σ ρ' ts → Qp ρ' k → Q k H') → t σ H Q
abbrev ContD {K : PySem.W.Frag} (c : Cx K) (σ : L2.St) (ρ : List D) (ts : List (V × D)) (Qp : D → Prop) (Q : VK) : Prop := ∀ v d F' H', Rel c F' H' σ ρ ((v, d) :: ts) → Qp d → Q v H'
class SOp {K : PySem.W.Frag} (c : Cx K) (r : R2) (ω : outParam (W → W → (D → Prop) → Prop)) : Prop where
 sim : ∀ {F H : Hp} {σ : L2.St} {ρ : List D} {ts : List (V × D)} {x y : V} {w u : W} {Q : VK} {Qp : D → Prop}, Rel c F H σ ρ ts → Vw c F H x w → Vw c F H y u → ω w u Qp → ContD c σ ρ ts Qp Q → r x y H Q
class SC {K : PySem.W.Frag} (c : Cx K) (r : List V → Hp → VK → Prop) (ω : outParam (List W → (D → Prop) → Prop)) : Prop where
 sim : ∀ {F H : Hp} {σ : L2.St} {ρ : List D} {ts : List (V × D)} {xs : List V} {ws : List W} {Q : VK} {Qp : D → Prop}, Rel c F H σ ρ ts → VwL c F H xs ws → ω ws Qp → ContD c σ ρ ts Qp Q → r xs H Q
section
variable {K : PySem.W.Frag} {c : Cx K}
def qVar (i : Nat) : TQ := fun ρ Q => match ρ[i]? with
 | some (.sh w) => Q ρ (.sh w)
 | some d => lookD d fun w => Q (ρ.set i (.sh w)) (.sh w)
 | none => False
instance {i : Nat} : SE c (tVar i) (qVar i) where
 sim {F H σ ρ ts Q Qp} r h k := by
  unfold qVar at h
  split at h
  next w e =>
   obtain ⟨v, h1, h2⟩ := r.slotS e
   exact ⟨v, h1, k _ _ _ _ _ (r.pushS h2) h⟩
  next d _ e =>
   obtain ⟨w, hw, h⟩ := lookD_ex h
   obtain ⟨F', v, e1, h1, h2, r2⟩ := r.frzS e hw
   exact ⟨v, h1, k _ _ _ _ _ (r2.pushS h2) h⟩
  next => exact h.elim
def vVar (i : Nat) : TVQ := fun ρ Q => match ρ[i]? with
 | some .un => False
 | some _ => Q ρ (.inl i)
 | none => False
instance (priority := 2000) {i : Nat} : SV c (tVar i) (vVar i) where
 sim {F H σ ρ ts Q Qp} r h k := by
  unfold vVar at h
  split at h
  next => exact h.elim
  next d n e =>
   obtain ⟨v, S, h1, h2⟩ := r.slot e (fun z => n z)
   exact ⟨v, h1, k _ _ _ _ _ _ (.slot h1) r h⟩
  next => exact h.elim
def qC (v : V) : TQ := fun ρ Q => Q ρ (.sh (.v v))
instance {v : V} : SE c (tC v) (qC v) where
 sim {F H σ ρ ts Q Qp} r h k := k _ _ _ _ _ (r.pushS (.v v)) h
def vE (τ : TQ) : TVQ := fun ρ Q => τ ρ fun ρ' d => lookD d fun w => Q ρ' (.inr w)
instance (priority := 100) {t : TE} {τ : TQ} [SE c t τ] : SV c t (vE τ) where
 sim {F H σ ρ ts Q Qp} r h k := SE.sim (t := t) r h fun v d ρ' F' H' r' q => by
  obtain ⟨w, hw, q⟩ := lookD_ex q
  obtain ⟨F2, e, r2⟩ := r'.frzT hw
  exact k _ _ _ _ _ _ .val r2 q
theorem SE.simW {t : TE} {τ : TQ} [SE c t τ] {F H : Hp} {σ : L2.St} {ρ : List D} {ts : List (V × D)} {Q : VK} {Qp : List D → W → Prop} (r : Rel c F H σ ρ ts) (h : τ ρ fun ρ' d => lookD d fun w => Qp ρ' w)
  (k : ∀ v w ρ' F' H', Rel c F' H' σ ρ' ((v, .sh w) :: ts) → Qp ρ' w → Q v H') : t σ H Q :=
 SE.sim (t := t) r h fun v d ρ' F' H' r' q => by
  obtain ⟨w, hw, q⟩ := lookD_ex q
  obtain ⟨F2, e, r2⟩ := r'.frzT hw
  exact k _ _ _ _ _ r2 q
def qOp (ω : W → W → (D → Prop) → Prop) (ta tb : TVQ) : TQ := fun ρ Q => ta ρ fun ρ1 p => tb ρ1 fun ρ2 q => look ρ2 p fun x => look ρ2 q fun y => ω x y fun d => Q ρ2 d
instance {r : R2} {ω : W → W → (D → Prop) → Prop} {ta tb : TE} {τa τb : TVQ} [SV c ta τa] [SV c tb τb] [SOp c r ω] : SE c (tOp r ta tb) (qOp ω τa τb) where
 sim {F H σ ρ ts Q Qp} rl h k := SV.sim (t := ta) rl h fun v p ρ1 F1 H1 ts1 p1 r1 q1 => SV.sim (t := tb) r1 q1 fun u q ρ2 F2 H2 ts2 p2 r2 q2 => by
  obtain ⟨w, h1, q3⟩ := r2.see (p1.has.1.up p2.has.2) q2
  obtain ⟨w', h2, q4⟩ := r2.see p2.has.1 q3
  exact SOp.sim (r := r) r2 h1 h2 q4 fun v d F' H' r' q => k _ _ _ _ _ (p1.back (p2.back r')) q
def vNil : TVAQ := fun ρ Q => Q ρ []
def vCons (a : TVQ) (t : TVAQ) : TVAQ := fun ρ Q => a ρ fun ρ1 p => t ρ1 fun ρ2 ps => Q ρ2 (p :: ps)
instance : SVA c tNil vNil where
 sim {F H σ ρ ts Q Qp} rl h k := k _ _ _ _ _ _ .nil rl h
instance {ta : TE} {t : TA} {τa : TVQ} {τ : TVAQ} [SV c ta τa] [SVA c t τ] : SVA c (tCons ta t) (vCons τa τ) where
 sim {F H σ ρ ts Q Qp} rl h k := SV.sim (t := ta) rl h fun v p ρ1 F1 H1 ts1 p1 r1 q1 => SVA.sim (t := t) r1 q1 fun vs ps ρ2 F2 H2 ts2 p2 r2 q2 => k _ _ _ _ _ _ (.cons p1 p2) r2 q2
def qCB (ω : List W → (D → Prop) → Prop) (t : TVAQ) : TQ := fun ρ Q => t ρ fun ρ1 ps => lookL ρ1 ps fun ws => ω ws fun d => Q ρ1 d
instance {r : List V → Hp → VK → Prop} {ω : List W → (D → Prop) → Prop} {t : TA} {τ : TVAQ} [SVA c t τ] [SC c r ω] : SE c (tCB r t) (qCB ω τ) where
 sim {F H σ ρ ts Q Qp} rl h k := SVA.sim (t := t) rl h fun vs ps ρ1 F1 H1 ts1 p1 r1 q1 => by
  obtain ⟨ws, h1, q3⟩ := r1.seeL p1 q1
  exact SC.sim (r := r) r1 h1 q3 fun v d F' H' r' q => k _ _ _ _ _ (p1.back r') q
def aNil : TAQ := fun ρ Q => Q ρ []
def aCons (a : TQ) (t : TAQ) : TAQ := fun ρ Q => a ρ fun ρ1 d => lookD d fun w => t ρ1 fun ρ2 ws => Q ρ2 (w :: ws)
instance : SA c tNil 0 aNil where
 sim {F H σ ρ ts Q Qp} rl h k := k _ _ _ _ _ rfl rl .nil h
instance {ta : TE} {t : TA} {n : Nat} {τa : TQ} {τ : TAQ} [SE c ta τa] [SA c t n τ] : SA c (tCons ta t) (n + 1) (aCons τa τ) where
 sim {F H σ ρ ts Q Qp} rl h k := SE.simW (t := ta) rl h fun v w ρ1 F1 H1 r1 q1 => SA.sim (t := t) r1 q1 fun vs ws ρ2 F2 H2 hl r2 rs q2 => k _ _ _ _ _ (by rw [List.length_cons, hl]) r2.pop (.cons r2.topS rs) q2
def qTup (t : TAQ) : TQ := fun ρ Q => t ρ fun ρ1 ws => Q ρ1 (.sh (.tup ws))
def qLst (t : TAQ) : TQ := fun ρ Q => t ρ fun ρ1 ws => Q ρ1 (.lst ws)
theorem own_lst {F H : Hp} {p : Addr} {vs : List V} {ws : List W} (r : RepL K c.b F vs ws) (S : Addr → Prop) (s : S p) (m : ¬ c.M p) : Ow c F (upd H p (.lst vs)) S (.ref p) (.lst ws) := .lst s m upd_same r
theorem le_line {n k : Nat} (h : n ≤ k) (hk : k ≤ 100000) : n ≤ sizeLine := Nat.le_trans h (Nat.le_trans hk (by rw [sizeLine_eq]; decide))
instance {t : TA} {n : Nat} {τ : TAQ} [SA c t n τ] [z : SmN 60 n] : SE c (tTup t) (qTup τ) where
 sim {F H σ ρ ts Q Qp} rl h k := SA.sim (t := t) rl h fun vs ws ρ1 F1 H1 hl r1 rs q1 => ⟨le_line (by rw [hl]; exact z.le) (by decide), fun p hp => k _ _ _ _ _ ((r1.newS (o := .tup vs) hp).pushS (.tup upd_same (rs.mono (same_new (r1.fr.fh.free hp))))) q1⟩
instance {t : TA} {n : Nat} {τ : TAQ} [SA c t n τ] [z : SmN 60 n] : SE c (tLst t) (qLst τ) where
 sim {F H σ ρ ts Q Qp} rl h k := SA.sim (t := t) rl h fun vs ws ρ1 F1 H1 hl r1 rs q1 => ⟨le_line (by rw [hl]; exact z.le) (by decide), fun p hp => k _ _ _ _ _ (r1.newO (o := .lst vs) hp (own_lst rs)) q1⟩
def toB (Q : List D → Bool → Prop) : List D → W → Prop := fun ρ w => match w with
 | .v (.bl c) => Q ρ c
 | _ => False
theorem toB_of {ρ : List D} {F : Hp} {v : V} {w : W} {Q : List D → Bool → Prop} (h : toB Q ρ w) (r : Rep K c.b F v w) : ∃ c, v = .bl c ∧ Q ρ c := by
 unfold toB at h
 split at h
 next c => cases r; exact ⟨c, rfl, h⟩
 next => exact h.elim
def qB (τ : TQ) : TTQ := fun ρ Q => τ ρ fun ρ1 d => lookD d fun w => toB Q ρ1 w
instance {t : TE} {τ : TQ} [SE c t τ] : ST c (tB t) (qB τ) where
 sim {F H σ ρ ts Q Qp} rl h k := SE.simW (t := t) (Qp := toB Qp) rl h fun v w ρ1 F1 H1 r1 q1 => by
  obtain ⟨c, rfl, q⟩ := toB_of q1 r1.topS
  exact ⟨c, rfl, k _ _ _ _ r1.pop q⟩
instance {t : TE} {τ : TQ} [SE c t τ] : ST c (tTest t) (qB τ) where
 sim {F H σ ρ ts Q Qp} rl h k := SE.simW (t := t) (Qp := toB Qp) rl h fun v w ρ1 F1 H1 r1 q1 => by
  obtain ⟨c, rfl, q⟩ := toB_of q1 r1.topS
  exact ⟨c, rfl, k _ _ _ _ r1.pop q⟩
def qAnd (a b : TTQ) : TTQ := fun ρ Q => a ρ fun ρ1 c => if c = true then b ρ1 Q else Q ρ1 false
def qOr (a b : TTQ) : TTQ := fun ρ Q => a ρ fun ρ1 c => if c = true then Q ρ1 true else b ρ1 Q
def qNot (a : TTQ) : TTQ := fun ρ Q => a ρ fun ρ1 c => Q ρ1 (!c)
def qYes : TTQ := fun ρ Q => Q ρ true
instance {ta tb : TT} {τa τb : TTQ} [ST c ta τa] [ST c tb τb] : ST c (tAnd ta tb) (qAnd τa τb) where
 sim {F H σ ρ ts Q Qp} rl h k := ST.sim (t := ta) (τ := τa) rl h fun b ρ1 F1 H1 r1 q1 => by
  cases b with
  | true => exact ST.sim (t := tb) r1 q1 k
  | false => exact k _ _ _ _ r1 q1
instance {ta tb : TT} {τa τb : TTQ} [ST c ta τa] [ST c tb τb] : ST c (tOr ta tb) (qOr τa τb) where
 sim {F H σ ρ ts Q Qp} rl h k := ST.sim (t := ta) (τ := τa) rl h fun b ρ1 F1 H1 r1 q1 => by
  cases b with
  | true => exact k _ _ _ _ r1 q1
  | false => exact ST.sim (t := tb) r1 q1 k
instance {ta : TT} {τa : TTQ} [ST c ta τa] : ST c (tNot ta) (qNot τa) where
 sim {F H σ ρ ts Q Qp} rl h k := ST.sim (t := ta) (τ := τa) rl h fun b ρ1 F1 H1 r1 q1 => k _ _ _ _ r1 q1
instance : ST c tYes qYes where
 sim {F H σ ρ ts Q Qp} rl h k := k _ _ _ _ rl h
def qAndV (a t : TQ) : TQ := fun ρ Q => a ρ fun ρ1 d => lookD d fun w => toB (fun ρ1 k => if k = true then t ρ1 Q else Q ρ1 (.bl false)) ρ1 w
def qNotV (a : TQ) : TQ := fun ρ Q => a ρ fun ρ1 d => lookD d fun w => toB (fun ρ1 k => Q ρ1 (.bl (!k))) ρ1 w
instance {ta tb : TE} {τa τb : TQ} [SE c ta τa] [SE c tb τb] : SE c (tAndV ta tb) (qAndV τa τb) where
 sim {F H σ ρ ts Q Qp} rl h k := SE.simW (t := ta) (Qp := fun ρ1 w => toB (fun ρ1 k => if k = true then τb ρ1 Qp else Qp ρ1 (.bl false)) ρ1 w) rl h fun v w ρ1 F1 H1 r1 q1 => by
  obtain ⟨b, rfl, q⟩ := toB_of q1 r1.topS
  refine ⟨b, rfl, ?_⟩
  cases b with
  | true => exact SE.sim (t := tb) r1.pop q k
  | false => exact k _ _ _ _ _ (r1.pop.pushS (.v _)) q
instance {ta : TE} {τa : TQ} [SE c ta τa] : SE c (tNotV ta) (qNotV τa) where
 sim {F H σ ρ ts Q Qp} rl h k := SE.simW (t := ta) (Qp := fun ρ1 w => toB (fun ρ1 k => Qp ρ1 (.bl (!k))) ρ1 w) rl h fun v w ρ1 F1 H1 r1 q1 => by
  obtain ⟨b, rfl, q⟩ := toB_of q1 r1.topS
  exact ⟨b, rfl, k _ _ _ _ _ (r1.pop.pushS (.v _)) q⟩
def qIf (t : TTQ) (a b : TQ) : TQ := fun ρ Q => t ρ fun ρ1 k => if k = true then a ρ1 Q else b ρ1 Q
instance {tt : TT} {ta tb : TE} {τt : TTQ} {τa τb : TQ} [ST c tt τt] [SE c ta τa] [SE c tb τb] : SE c (tIf tt ta tb) (qIf τt τa τb) where
 sim {F H σ ρ ts Q Qp} rl h k := ST.sim (t := tt) rl h fun b ρ1 F1 H1 r1 q1 => by
  cases b with
  | true => exact SE.sim (t := ta) r1 q1 k
  | false => exact SE.sim (t := tb) r1 q1 k
def qChain (ω ω' : W → W → (D → Prop) → Prop) (ta tb tc : TVQ) : TQ := fun ρ Q => ta ρ fun ρ1 p => tb ρ1 fun ρ2 q => look ρ2 p fun x => look ρ2 q fun y => ω x y fun d => lookD d fun w => toB (fun ρ2 k => if k = true then tc ρ2 fun ρ3 s => look ρ3 q fun y => look ρ3 s fun z => ω' y z fun d => Q ρ3 d else Q ρ2 (.bl false)) ρ2 w
instance {r r' : R2} {ω ω' : W → W → (D → Prop) → Prop} {ta tb tc : TE} {τa τb τc : TVQ} [SV c ta τa] [SV c tb τb] [SV c tc τc] [SOp c r ω] [SOp c r' ω'] : SE c (tChain r r' ta tb tc) (qChain ω ω' τa τb τc) where
 sim {F H σ ρ ts Q Qp} rl h k := SV.sim (t := ta) rl h fun v p ρ1 F1 H1 ts1 p1 r1 q1 => SV.sim (t := tb) r1 q1 fun u q ρ2 F2 H2 ts2 p2 r2 q2 => by
  obtain ⟨w, h1, q3⟩ := r2.see (p1.has.1.up p2.has.2) q2
  obtain ⟨w', h2, q4⟩ := r2.see p2.has.1 q3
  refine SOp.sim (r := r) r2 h1 h2 q4 fun v d F' H' rr q5 => ?_
  obtain ⟨w5, hw, q5⟩ := lookD_ex q5
  obtain ⟨F6, e6, r6⟩ := rr.frzT hw
  obtain ⟨b, rfl, q7⟩ := toB_of q5 r6.topS
  refine ⟨b, rfl, ?_⟩
  cases b with
  | true =>
   refine SV.sim (t := tc) r6.pop q7 fun v3 p3 ρ3 F3 H3 ts3 pp3 r3 q8 => ?_
   obtain ⟨w8, h8, q9⟩ := r3.see (p2.has.1.up pp3.has.2) q8
   obtain ⟨w9, h9, q10⟩ := r3.see pp3.has.1 q9
   exact SOp.sim (r := r') r3 h8 h9 q10 fun v d F' H' rr q => k _ _ _ _ _ (p1.back (p2.back (pp3.back rr))) q
  | false => exact k _ _ _ _ _ ((p1.back0 (p2.back0 r6.pop)).pushS (.v _)) q7
end
end R
namespace R
open PySem PySem.Spec PyProof.Rows L2 G
def vDat : V → PyData
 | .non => .none
 | .bl b => .bool b
 | .int i => .int i
 | .str s => .str s
 | _ => .none
mutual
def W.dat : W → PyData
 | .v x => vDat x
 | .lst ws => .list (W.datL ws)
 | .tup ws => .tuple (W.datL ws)
 | .dic _ _ => .none
 | .dit _ _ => .none
 | .obj _ _ _ => .none
 | .set _ _ => .none
 | .bag => .none
def W.datL : List W → List PyData
 | [] => []
 | w :: ws => w.dat :: W.datL ws
end
def vOk : V → Bool
 | .non => true
 | .bl _ => true
 | .int _ => true
 | .str s => PyData.strOk s
 | _ => false
mutual
/-- data of at most n levels -/
def W.ok : W → Nat → Bool
 | .v x, _ => vOk x
 | .lst ws, n + 1 => W.okL ws n
 | .tup ws, n + 1 => W.okL ws n
 | _, _ => false
def W.okL : List W → Nat → Bool
 | [], _ => true
 | w :: ws, n => w.ok n && W.okL ws n
end
def W.eq (x y : W) : Bool := PyData.eqv x.dat y.dat
def W.eqL (x y : List W) : Bool := PyData.eqvAll (W.datL x) (W.datL y)
@[simp] theorem eq_int (i j : Int) : W.eq (.v (.int i)) (.v (.int j)) = decide (i = j) := by
 show PyData.eqv (.int i) (.int j) = _
 rw [PyData.eqv]; exact (by rw [Bool.eq_iff_iff]; simp)
@[simp] theorem eq_bl (i j : Bool) : W.eq (.v (.bl i)) (.v (.bl j)) = (i == j) := by
 show PyData.eqv (.bool i) (.bool j) = _
 rw [PyData.eqv]
@[simp] theorem eq_str (i j : Str) : W.eq (.v (.str i)) (.v (.str j)) = decide (i = j) := by
 show PyData.eqv (.str i) (.str j) = _
 rw [PyData.eqv]; exact (by rw [Bool.eq_iff_iff]; simp)
@[simp] theorem eq_lst (i j : List W) : W.eq (.lst i) (.lst j) = W.eqL i j := by
 simp only [W.eq, W.dat, PyData.eqv, W.eqL]
@[simp] theorem eq_tup (i j : List W) : W.eq (.tup i) (.tup j) = W.eqL i j := by
 simp only [W.eq, W.dat, PyData.eqv, W.eqL]
@[simp] theorem eq_int_non (i : Int) : W.eq (.v (.int i)) (.v .non) = false := by simp [W.eq, W.dat, vDat, PyData.eqv]
@[simp] theorem eq_non_int (i : Int) : W.eq (.v .non) (.v (.int i)) = false := by simp [W.eq, W.dat, vDat, PyData.eqv]
@[simp] theorem eq_non : W.eq (.v .non) (.v .non) = true := by simp [W.eq, W.dat, vDat, PyData.eqv]
@[simp] theorem eqL_nil : W.eqL [] [] = true := by simp [W.eqL, W.datL, PyData.eqvAll]
@[simp] theorem eqL_nc (x : W) (xs : List W) : W.eqL [] (x :: xs) = false := by simp [W.eqL, W.datL, PyData.eqvAll]
@[simp] theorem eqL_cn (x : W) (xs : List W) : W.eqL (x :: xs) [] = false := by simp [W.eqL, W.datL, PyData.eqvAll]
@[simp] theorem eqL_cons (x y : W) (xs ys : List W) : W.eqL (x :: xs) (y :: ys) = (W.eq x y && W.eqL xs ys) := by simp [W.eqL, W.eq, W.datL, PyData.eqvAll]
theorem datL_map : ∀ ws : List W, W.datL ws = ws.map W.dat
 | [] => by rw [W.datL]; rfl
 | w :: ws => by rw [W.datL, datL_map ws]; rfl
theorem okL_all : ∀ (ws : List W) (n : Nat), W.okL ws n = ws.all fun w => w.ok n
 | [], n => by rw [W.okL]; rfl
 | w :: ws, n => by rw [W.okL, okL_all ws n]; rfl
@[simp] theorem ok_v (x : V) (n : Nat) : (W.v x).ok n = vOk x := by simp [W.ok]
@[simp] theorem ok_lst (ws : List W) (n : Nat) : (W.lst ws).ok (n + 1) = ws.all fun w => w.ok n := by rw [W.ok, okL_all]
@[simp] theorem ok_tup (ws : List W) (n : Nat) : (W.tup ws).ok (n + 1) = ws.all fun w => w.ok n := by rw [W.ok, okL_all]
mutual
theorem W.ok_up : ∀ (w : W) (n m : Nat), w.ok n = true → n ≤ m → w.ok m = true
 | .v x, n, m, h, _ => by simpa using h
 | .lst ws, 0, m, h, _ => by simp [W.ok] at h
 | .lst ws, n + 1, 0, h, l => by omega
 | .lst ws, n + 1, m + 1, h, l => by rw [W.ok] at h ⊢; exact W.okL_up ws n m h (by omega)
 | .tup ws, 0, m, h, _ => by simp [W.ok] at h
 | .tup ws, n + 1, 0, h, l => by omega
 | .tup ws, n + 1, m + 1, h, l => by rw [W.ok] at h ⊢; exact W.okL_up ws n m h (by omega)
 | .dic _ _, n, _, h, _ => by simp [W.ok] at h
 | .dit _ _, n, _, h, _ => by simp [W.ok] at h
 | .obj _ _ _, n, _, h, _ => by simp [W.ok] at h
 | .set _ _, n, _, h, _ => by simp [W.ok] at h
 | .bag, n, _, h, _ => by simp [W.ok] at h
theorem W.okL_up : ∀ (ws : List W) (n m : Nat), W.okL ws n = true → n ≤ m → W.okL ws m = true
 | [], n, m, _, _ => by rw [W.okL]
 | w :: ws, n, m, h, l => by
  rw [W.okL, Bool.and_eq_true] at h
  rw [W.okL, W.ok_up w n m h.1 l, W.okL_up ws n m h.2 l]; rfl
end
mutual
theorem W.lay : ∀ (w : W) (n : Nat), w.ok n = true → w.dat.canLay0 = true ∧ w.dat.depth ≤ n
 | .v x, n, h => by
  rw [ok_v] at h
  cases x with
  | str s => exact ⟨by simpa [W.dat, vDat, PyData.canLay0, vOk] using h, by simp [W.dat, vDat, PyData.depth]⟩
  | non => exact ⟨by simp [W.dat, vDat, PyData.canLay0], by simp [W.dat, vDat, PyData.depth]⟩
  | bl b => exact ⟨by simp [W.dat, vDat, PyData.canLay0], by simp [W.dat, vDat, PyData.depth]⟩
  | int b => exact ⟨by simp [W.dat, vDat, PyData.canLay0], by simp [W.dat, vDat, PyData.depth]⟩
  | _ => simp [vOk] at h
 | .lst ws, 0, h => by simp [W.ok] at h
 | .lst ws, n + 1, h => by
  rw [W.ok] at h
  obtain ⟨h1, h2⟩ := W.layL ws n h
  exact ⟨by simpa [W.dat, PyData.canLay0] using h1, by simp [W.dat, PyData.depth]; omega⟩
 | .tup ws, 0, h => by simp [W.ok] at h
 | .tup ws, n + 1, h => by
  rw [W.ok] at h
  obtain ⟨h1, h2⟩ := W.layL ws n h
  exact ⟨by simpa [W.dat, PyData.canLay0] using h1, by simp [W.dat, PyData.depth]; omega⟩
 | .dic _ _, n, h => by simp [W.ok] at h
 | .dit _ _, n, h => by simp [W.ok] at h
 | .obj _ _ _, n, h => by simp [W.ok] at h
 | .set _ _, n, h => by simp [W.ok] at h
 | .bag, n, h => by simp [W.ok] at h
theorem W.layL : ∀ (ws : List W) (n : Nat), W.okL ws n = true → PyData.canLayAll0 (W.datL ws) = true ∧ PyData.depthAll (W.datL ws) ≤ n
 | [], n, _ => ⟨by simp [W.datL, PyData.canLayAll0], by simp [W.datL, PyData.depthAll]⟩
 | w :: ws, n, h => by
  rw [W.okL, Bool.and_eq_true] at h
  obtain ⟨h1, h2⟩ := W.lay w n h.1
  obtain ⟨h3, h4⟩ := W.layL ws n h.2
  exact ⟨by simp [W.datL, PyData.canLayAll0, h1, h3], by simp [W.datL, PyData.depthAll]; omega⟩
end
theorem W.shaped {w : W} {n : Nat} (h : w.ok n = true) (hn : n ≤ 64) : SeqAt.shaped w.dat = true := by
 obtain ⟨h1, h2⟩ := W.lay w n h
 unfold SeqAt.shaped
 rw [h1, Bool.true_and]
 exact decide_eq_true (by omega)
section
variable {K : PySem.W.Frag} {b : Addr} {F : Hp}
mutual
theorem Rep.dp : ∀ (w : W) (n : Nat) (v : V), w.ok n = true → Rep K b F v w → Dp K F v w.dat
 | .v x, n, v, h, r => by
  cases r
  rw [ok_v] at h
  cases x with
  | str s => exact .str s
  | non => exact .non
  | bl b => exact .bl b
  | int b => exact .int b
  | _ => simp [vOk] at h
 | .lst ws, 0, v, h, _ => by simp [W.ok] at h
 | .lst ws, n + 1, v, h, r => by
  cases r with | lst a r => rw [W.ok] at h; rw [W.dat]; exact .lst (SqL.of a) (RepL.dp ws n _ h r)
 | .tup ws, 0, v, h, _ => by simp [W.ok] at h
 | .tup ws, n + 1, v, h, r => by
  cases r with | tup a r => rw [W.ok] at h; rw [W.dat]; exact .tup (SqT.of a) (RepL.dp ws n _ h r)
 | .dic _ _, n, _, h, _ => by simp [W.ok] at h
 | .dit _ _, n, _, h, _ => by simp [W.ok] at h
 | .obj _ _ _, n, _, h, _ => by simp [W.ok] at h
 | .set _ _, n, _, h, _ => by simp [W.ok] at h
 | .bag, n, _, h, _ => by simp [W.ok] at h
theorem RepL.dp : ∀ (ws : List W) (n : Nat) (vs : List V), W.okL ws n = true → RepL K b F vs ws → DpAll K F vs (W.datL ws)
 | [], n, vs, _, r => by cases r; rw [W.datL]; exact .nil
 | w :: ws, n, vs, h, r => by
  rw [W.okL, Bool.and_eq_true] at h
  cases r with | cons a r => rw [W.datL]; exact .cons (Rep.dp w n _ h.1 a) (RepL.dp ws n _ h.2 r)
end
mutual
theorem Dp.up {H H' : Hp} (e : Same H H') : ∀ {d : PyData} {v : V}, Dp K H v d → Dp K H' v d
 | _, _, .non => .non
 | _, _, .bl b => .bl b
 | _, _, .int i => .int i
 | _, _, .str x => .str x
 | _, _, .lst a r => .lst (sql_up e a) (DpAll.up e r)
 | _, _, .tup a r => .tup (sqt_up e a) (DpAll.up e r)
theorem DpAll.up {H H' : Hp} (e : Same H H') : ∀ {d : List PyData} {v : List V}, DpAll K H v d → DpAll K H' v d
 | _, _, .nil => .nil
 | _, _, .cons a r => .cons (Dp.up e a) (DpAll.up e r)
end
theorem Vw.dp {c : Cx K} {F H : Hp} {v : V} {w : W} {n : Nat} (h : Vw c F H v w) (e : Same F H) (k : w.ok n = true) : Dp K H v w.dat := by
 cases w with
 | lst ws =>
  obtain ⟨a, us, rfl, h1, r⟩ := h.lst e
  cases n with
  | zero => simp [W.ok] at k
  | succ n => rw [W.ok] at k; rw [W.dat]; exact .lst (SqL.of h1) (DpAll.up e (RepL.dp ws n _ k r))
 | tup ws =>
  obtain ⟨a, us, rfl, h0, h1, r⟩ := h.tup e
  cases n with
  | zero => simp [W.ok] at k
  | succ n => rw [W.ok] at k; rw [W.dat]; exact .tup (SqT.of h1) (DpAll.up e (RepL.dp ws n _ k r))
 | v x =>
  cases h.flat
  exact Rep.dp (b := c.b) (.v v) n v k (.v v)
 | _ => simp [W.ok] at k
end
theorem OpR.or {X : L2.Cx} {f : Value → Value → Sem Value} {r r' : R2} (h : OpR X f r) (h' : OpR X f r') : OpR X f (fun x y H Q => r x y H Q ∨ r' x y H Q) :=
 fun pins s σ H x y v u Q I rx ry q => q.elim (h pins s σ H x y v u Q I rx ry) (h' pins s σ H x y v u Q I rx ry)
theorem CallR.or {X : L2.Cx} {f : Value} {r r' : List V → Hp → VK → Prop} (h : CallR X f r) (h' : CallR X f r') : CallR X f (fun xs H Q => r xs H Q ∨ r' xs H Q) :=
 fun pins s σ H xs us Q I r q => q.elim (h pins s σ H xs us Q I r) (h' pins s σ H xs us Q I r)
section
variable {K : PySem.W.Frag} {c : Cx K}
def oI (C : Int → Int → Prop) (g : Int → Int → V) : W → W → (D → Prop) → Prop := fun x y k => match x, y with
 | .v (.int i), .v (.int j) => C i j ∧ k (.sh (.v (g i j)))
 | _, _ => False
def oI0 (g : Int → Int → V) : W → W → (D → Prop) → Prop := fun x y k => match x, y with
 | .v (.int i), .v (.int j) => k (.sh (.v (g i j)))
 | _, _ => False
instance {C : Int → Int → Prop} {g : Int → Int → V} : SOp c (rI C g) (oI C g) where
 sim {F H σ ρ ts x y w u Q Qp} rl hx hy h k := by
  unfold oI at h
  split at h
  next i j => exact ⟨i, j, hx.flat, hy.flat, h.1, k _ _ _ _ (rl.pushS (.v _)) h.2⟩
  next => exact h.elim
instance {g : Int → Int → V} : SOp c (rI0 g) (oI0 g) where
 sim {F H σ ρ ts x y w u Q Qp} rl hx hy h k := by
  unfold oI0 at h
  split at h
  next i j => exact ⟨i, j, hx.flat, hy.flat, k _ _ _ _ (rl.pushS (.v _)) h⟩
  next => exact h.elim
def rPlus (K : PySem.W.Frag) : R2 := fun x y H Q => rI0 (fun i j => .int (i + j)) x y H Q ∨ (rCat x y H Q ∨ (rCatA K x y H Q ∨ ∃ i j, x = .str i ∧ y = .str j ∧ i.length + j.length ≤ sizeLine ∧ Q (.str (i ++ j)) H))
theorem kplus (K : PySem.W.Frag) {X : L2.Cx} (h : X.K = K := by rfl) : OpR X (binaryOp .Add) (rPlus K) := by subst h; exact op_add.or (op_cat.or (op_catA.or op_add_str))
def oPlus : W → W → (D → Prop) → Prop := fun x y k => match x, y with
 | .v (.int i), .v (.int j) => k (.int (i + j))
 | .lst a, .lst b => a.length + b.length ≤ 100000 ∧ k (.lst (a ++ b))
 | .tup a, .tup b => a.length + b.length ≤ 100000 ∧ k (.sh (.tup (a ++ b)))
 | .v (.str a), .v (.str b) => a.length + b.length ≤ 100000 ∧ k (.str (a ++ b))
 | _, _ => False
instance : SOp c (rPlus K) oPlus where
 sim {F H σ ρ ts x y w u Q Qp} rl hx hy h k := by
  have e := rl.fr.fh
  unfold oPlus at h
  split at h
  next i j => exact .inl ⟨i, j, hx.flat, hy.flat, k _ _ _ _ (rl.pushS (.v _)) h⟩
  next a b =>
   obtain ⟨l, us, rfl, h1, r1⟩ := hx.lst e
   obtain ⟨m, vs, rfl, h2, r2⟩ := hy.lst e
   refine .inr (.inl ⟨l, m, us, vs, rfl, rfl, h1, h2, le_line (by rw [r1.len, r2.len]; exact h.1) (by decide), fun p hp => ?_⟩)
   exact k _ _ _ _ (rl.newO (o := .lst (us ++ vs)) hp (own_lst (r1.app r2))) h.2
  next a b =>
   obtain ⟨l, us, rfl, g1, h1, r1⟩ := hx.tup e
   obtain ⟨m, vs, rfl, g2, h2, r2⟩ := hy.tup e
   refine .inr (.inr (.inl ⟨l, m, us, vs, rfl, rfl, SqT.of h1, SqT.of h2, le_line (by rw [r1.len, r2.len]; exact h.1) (by decide), fun z => ?_, fun z y => ?_, fun _ _ p hp => ?_⟩))
   ·subst z
    cases r1
    exact k _ _ _ _ (rl.pushS (.tup g2 r2)) h.2
   ·subst y
    cases r2
    have q := h.2
    rw [List.append_nil] at q
    exact k _ _ _ _ (rl.pushS (.tup g1 r1)) q
   ·exact k _ _ _ _ ((rl.newS (o := .tup (us ++ vs)) hp).pushS (.tup upd_same ((r1.app r2).mono (same_new (e.free hp))))) h.2
  next a b =>
   exact .inr (.inr (.inr ⟨a, b, hx.flat, hy.flat, le_line h.1 (by decide), k _ _ _ _ (rl.pushS (.v _)) h.2⟩))
  next => exact h.elim
def rTimes : R2 := fun x y H Q => rI CMulW (fun i j => .int (i * j)) x y H Q ∨ rRep x y H Q
theorem ktimes {X : L2.Cx} : OpR X (binaryOp .Mult) rTimes := op_mulW.or op_rep
def oTimes : W → W → (D → Prop) → Prop := fun x y k => match x, y with
 | .v (.int i), .v (.int j) => CMulW i j ∧ k (.int (i * j))
 | .lst a, .v (.int j) => (-100000 ≤ j ∧ j ≤ 100000 ∧ a.length * j.toNat ≤ 100000) ∧ k (.lst (List.replicate j.toNat a).flatten)
 | _, _ => False
instance : SOp c rTimes oTimes where
 sim {F H σ ρ ts x y w u Q Qp} rl hx hy h k := by
  have e := rl.fr.fh
  unfold oTimes at h
  split at h
  next i j => exact .inl ⟨i, j, hx.flat, hy.flat, h.1, k _ _ _ _ (rl.pushS (.v _)) h.2⟩
  next a j =>
   obtain ⟨l, us, rfl, h1, r1⟩ := hx.lst e
   obtain ⟨⟨h0, h9, hz⟩, q⟩ := h
   have hl := r1.len
   refine .inr ⟨l, j, us, rfl, hy.flat, h1, by omega, by omega, le_line (by rw [hl]; exact hz) (by decide), fun p hp => ?_⟩
   ·exact k _ _ _ _ (rl.newO (o := .lst (List.replicate j.toNat us).flatten) hp (own_lst (r1.flatrep _))) q
  next => exact h.elim
def oEq (neg : Bool) : W → W → (D → Prop) → Prop := fun x y k => (x.ok 20 = true ∧ y.ok 20 = true) ∧ k (.bl (neg != W.eq x y))
instance : SOp c (rEqD K) (oEq false) where
 sim {F H σ ρ ts x y w u Q Qp} rl hx hy h k := by
  refine ⟨_, _, hx.dp rl.fr.fh h.1.1, hy.dp rl.fr.fh h.1.2, W.shaped h.1.1 (by decide), W.shaped h.1.2 (by decide), k _ _ _ _ (rl.pushS (.v _)) ?_⟩
  have q := h.2
  rw [Bool.false_bne] at q
  exact q
instance : SOp c (rNeD K) (oEq true) where
 sim {F H σ ρ ts x y w u Q Qp} rl hx hy h k := by
  refine ⟨_, _, hx.dp rl.fr.fh h.1.1, hy.dp rl.fr.fh h.1.2, W.shaped h.1.1 (by decide), W.shaped h.1.2 (by decide), k _ _ _ _ (rl.pushS (.v _)) ?_⟩
  have q := h.2
  rw [Bool.true_bne] at q
  exact q
def rInD (K : PySem.W.Frag) (neg : Bool) : R2 := fun x y H Q => ∃ d ds, (Dp K H y (.list ds) ∨ Dp K H y (.tuple ds)) ∧ Dp K H x d ∧ SeqAt.shaped (.list ds) = true ∧ SeqAt.shaped d = true ∧ Q (.bl (neg != ds.any fun z => PyData.eqv z d)) H
theorem kinD (K : PySem.W.Frag) {X : L2.Cx} (hu : X.A.units + 65 < cLine) (h : X.K = K := by rfl) : OpR X (compareOp .In) (rInD K false) := by
 subst h
 intro pins s σ H x y v u Q I rx ry h
 obtain ⟨d, ds, hy, hx, sl, sd, q⟩ := h
 rw [Bool.false_bne] at q
 obtain ⟨bs, r2⟩ := Dp.reads I d x v hx rx
 have lay : PyData.canLayAll0 ds = true := SeqAt.canLay_of_shaped sl
 have dep := SeqAt.depth_of_shaped sd
 rcases hy with hy | hy
 ·obtain ⟨as, r1⟩ := Dp.reads I _ y u hy ry
  exact SeqAt.in_list_reads r1 r2 lay (SeqAt.canLay_of_shaped sd) (by omega) ⟨.bl _, H, I, rfl, q⟩
 ·obtain ⟨as, r1⟩ := Dp.reads I _ y u hy ry
  exact SeqAt.in_tuple_reads r1 r2 lay (SeqAt.canLay_of_shaped sd) (by omega) ⟨.bl _, H, I, rfl, q⟩
def oIn (neg : Bool) : W → W → (D → Prop) → Prop := fun x y k => match y with
 | .lst ws => (x.ok 20 = true ∧ (W.lst ws).ok 20 = true) ∧ k (.bl (neg != ws.any fun z => W.eq z x))
 | .tup ws => (x.ok 20 = true ∧ (W.lst ws).ok 20 = true) ∧ k (.bl (neg != ws.any fun z => W.eq z x))
 | _ => False
theorem any_dat (x : W) : ∀ ws : List W, (W.datL ws).any (fun z => PyData.eqv z x.dat) = ws.any fun z => W.eq z x
 | [] => by rw [W.datL]; rfl
 | w :: ws => by rw [W.datL, List.any_cons, List.any_cons, any_dat x ws]; rfl
instance {neg : Bool} : SOp c (rInD K neg) (oIn neg) where
 sim {F H σ ρ ts x y w u Q Qp} rl hx hy h k := by
  unfold oIn at h
  split at h
  next ws =>
   have h2 := hy.dp rl.fr.fh h.1.2
   have h3 := W.shaped h.1.2 (by decide)
   rw [W.dat] at h2 h3
   refine ⟨w.dat, W.datL ws, .inl h2, hx.dp rl.fr.fh h.1.1, h3, W.shaped h.1.1 (by decide), k _ _ _ _ (rl.pushS (.v _)) ?_⟩
   rw [any_dat]; exact h.2
  next ws =>
   have h1 : (W.tup ws).ok 20 = true := by have q := h.1.2; rw [ok_lst] at q; rw [ok_tup]; exact q
   have h2 := hy.dp rl.fr.fh h1
   have h3 := W.shaped h.1.2 (by decide)
   rw [W.dat] at h2
   rw [W.dat] at h3
   refine ⟨w.dat, W.datL ws, .inr h2, hx.dp rl.fr.fh h.1.1, h3, W.shaped h.1.1 (by decide), k _ _ _ _ (rl.pushS (.v _)) ?_⟩
   rw [any_dat]; exact h.2
  next => exact h.elim
end
end R
namespace R
open PySem PySem.Spec PyProof.Rows L2 G
def rIsN : R2 := fun x y H Q => y = .non ∧ Q (.bl (decide (x = .non))) H
theorem kisN {X : L2.Cx} : OpR X (compareOp .Is) rIsN := op_isN
def isNon : W → Bool
 | .v .non => true
 | _ => false
@[simp] theorem isNon_non : isNon (.v .non) = true := rfl
@[simp] theorem isNon_int (i : Int) : isNon (.v (.int i)) = false := rfl
@[simp] theorem isNon_str (i : Str) : isNon (.v (.str i)) = false := rfl
@[simp] theorem isNon_lst (i : List W) : isNon (.lst i) = false := rfl
@[simp] theorem isNon_tup (i : List W) : isNon (.tup i) = false := rfl
@[simp] theorem isNon_obj (C : Addr) (fs : List Str) (i : List W) : isNon (.obj C fs i) = false := rfl
section
variable {K : PySem.W.Frag} {c : Cx K}
theorem Vw.isN {F H : Hp} {v : V} {w : W} (h : Vw c F H v w) : decide (v = .non) = isNon w := by
 obtain ⟨S, d, o, e⟩ := h
 cases o with
 | sh r =>
  cases e
  cases r with
  | v => cases v <;> rfl
  | _ => rfl
 | lst => cases e; rfl
 | dic => cases e; rfl
 | dit => cases e; rfl
 | obj => cases e; rfl
 | set => cases e; rfl
 | ntup => cases e
 | nlst => cases e
 | nobj => cases e
 | lstP => cases e; rfl
 | kt => cases e
 | ditP => cases e; rfl
 | mobj => cases e
 | raw => cases e
 | un => cases e
def oIsN (neg : Bool) : W → W → (D → Prop) → Prop := fun x y k => match y with
 | .v .non => k (.bl (neg != isNon x))
 | _ => False
instance : SOp c rIsN (oIsN false) where
 sim {F H σ ρ ts x y w u Q Qp} rl hx hy h k := by
  unfold oIsN at h
  split at h
  next => rw [Bool.false_bne, ← hx.isN] at h; exact ⟨hy.flat, k _ _ _ _ (rl.pushS (.v _)) h⟩
  next => exact h.elim
def oIx : W → W → (D → Prop) → Prop := fun x y k => match x, y with
 | .lst ws, .v (.int i) => match atI ws i with
  | some w => k (.sh w)
  | none => False
 | .tup ws, .v (.int i) => match atI ws i with
  | some w => k (.sh w)
  | none => False
 | .v (.str z), .v (.int i) => z.length ≤ 100000 ∧ match atI z.cps.toList i with
  | some ch => k (.str ⟨#[ch]⟩)
  | none => False
 | _, _ => False
theorem RepL.atI {b : Addr} {F : Hp} {us : List V} {ws : List W} {i : Int} {w : W} (r : RepL K b F us ws) (h : L2.atI ws i = some w) : ∃ v, L2.atI us i = some v ∧ Rep K b F v w := by
 unfold L2.atI at h ⊢
 rw [r.len]
 cases e : ixN ws.length i with
 | none => rw [e] at h; cases h
 | some j => rw [e] at h; exact r.get h
instance : SOp c (rIx K) oIx where
 sim {F H σ ρ ts x y w u Q Qp} rl hx hy h k := by
  have e := rl.fr.fh
  unfold oIx at h
  split at h
  next ws i =>
   split at h
   next w hw =>
    obtain ⟨a, us, rfl, h1, r⟩ := hx.lst e
    obtain ⟨v, hv, rv⟩ := r.atI hw
    exact .inl ⟨a, us, i, v, rfl, hy.flat, SqL.of h1, hv, k _ _ _ _ (rl.pushS rv) h⟩
   next => exact h.elim
  next ws i =>
   split at h
   next w hw =>
    obtain ⟨a, us, rfl, g1, h1, r⟩ := hx.tup e
    obtain ⟨v, hv, rv⟩ := r.atI hw
    exact .inr (.inl ⟨a, us, i, v, rfl, hy.flat, SqT.of h1, hv, k _ _ _ _ (rl.pushS rv) h⟩)
   next => exact h.elim
  next z i =>
   obtain ⟨hz, h⟩ := h
   split at h
   next ch hch => exact .inr (.inr ⟨z, i, ch, hx.flat, hy.flat, le_line hz (by decide), hch, k _ _ _ _ (rl.pushS (.v _)) h⟩)
   next => exact h.elim
  next => exact h.elim
def oNone : TOQ := fun ρ Q => Q ρ none
def oPart (t : TQ) : TOQ := fun ρ Q => t ρ fun ρ1 d => match d with
 | .sh (.v (.int i)) => Q ρ1 (some i)
 | _ => False
instance : SO c tNoPart oNone where
 sim {F H σ ρ ts Q Qp} rl h k := k _ _ _ _ rl h
instance {t : TE} {τ : TQ} [SE c t τ] : SO c (tPart t) (oPart τ) where
 sim {F H σ ρ ts Q Qp} rl h k := SE.sim (t := t) rl h fun v d ρ1 F1 H1 r1 q1 => by
  split at q1
  next i =>
   have e := r1.topS.flat
   exact ⟨i, e, k _ _ _ _ r1.pop q1⟩
  next => exact q1.elim
def cutW {α : Type} (xs : List α) (lo hi : Option Int) : List α := (xs.drop (HT.sIx xs.length 0 lo)).take (HT.sIx xs.length xs.length hi - HT.sIx xs.length 0 lo)
def rSlice (K : PySem.W.Frag) : V → Option Int → Option Int → Hp → VK → Prop := fun x lo hi H Q => rSlL K x lo hi H Q ∨ rSlA K x lo hi H Q
theorem kslice (K : PySem.W.Frag) {X : L2.Cx} (h : X.K = K := by rfl) : SlR X (rSlice K) := by subst h; exact sl_list.or sl_tupA
theorem RepL.cut {b : Addr} {F : Hp} {us : List V} {ws : List W} (r : RepL K b F us ws) (lo hi : Option Int) : RepL K b F (cutV us lo hi) (cutW ws lo hi) := by
 unfold cutV cutW
 rw [r.len]
 exact (r.drop _).take _
def qSl (ta : TVQ) (tl th : TOQ) : TQ := fun ρ Q => ta ρ fun ρ1 p => tl ρ1 fun ρ2 lo => th ρ2 fun ρ3 hi => look ρ3 p fun w => match w with
 | .lst ws => Q ρ3 (.lst (cutW ws lo hi))
 | .tup ws => Q ρ3 (.sh (.tup (cutW ws lo hi)))
 | _ => False
theorem cutW_all {α : Type} {ws : List α} {lo hi : Option Int} (h : HT.sIx ws.length 0 lo = 0 ∧ HT.sIx ws.length ws.length hi = ws.length) : cutW ws lo hi = ws := by
 unfold cutW
 rw [h.1, h.2, List.drop_zero, Nat.sub_zero, List.take_length]
instance {ta : TE} {tl th : TO} {τa : TVQ} {τl τh : TOQ} [SV c ta τa] [SO c tl τl] [SO c th τh] : SE c (tSl (rSlice K) ta tl th) (qSl τa τl τh) where
 sim {F H σ ρ ts Q Qp} rl h k := SV.sim (t := ta) rl h fun v p ρ1 F1 H1 ts1 p1 r1 q1 => SO.sim (t := tl) r1 q1 fun lo ρ2 F2 H2 r2 q2 => SO.sim (t := th) r2 q2 fun hi ρ3 F3 H3 r3 q3 => by
  obtain ⟨w, hw, q⟩ := r3.see p1.has.1 q3
  have e := r3.fr.fh
  split at q
  next ws =>
   obtain ⟨a, us, rfl, h1, r⟩ := hw.lst e
   exact .inl ⟨a, us, rfl, SqL.of h1, fun x hx => k _ _ _ _ _ (p1.back (r3.newO (o := .lst (cutV us lo hi)) hx (own_lst (r.cut lo hi)))) q⟩
  next ws =>
   obtain ⟨a, us, rfl, g1, h1, r⟩ := hw.tup e
   refine .inr ⟨a, us, rfl, SqT.of h1, fun z => ?_, fun _ x hx => ?_⟩
   ·rw [r.len] at z
    rw [cutW_all z] at q
    exact k _ _ _ _ _ (p1.back (r3.pushS (.tup g1 r))) q
   ·exact k _ _ _ _ _ (p1.back ((r3.newS (o := .tup (cutV us lo hi)) hx).pushS (.tup upd_same ((r.cut lo hi).mono (same_new (e.free hx)))))) q
  next => exact q.elim
def qRev (ta : TVQ) : TQ := fun ρ Q => ta ρ fun ρ1 p => look ρ1 p fun w => match w with
 | .lst ws => Q ρ1 (.lst ws.reverse)
 | _ => False
instance {ta : TE} {τa : TVQ} [SV c ta τa] : SE c (tRevL K ta) (qRev τa) where
 sim {F H σ ρ ts Q Qp} rl h k := SV.sim (t := ta) rl h fun v p ρ1 F1 H1 ts1 p1 r1 q1 => by
  obtain ⟨w, hw, q⟩ := r1.see p1.has.1 q1
  split at q
  next ws =>
   obtain ⟨a, us, rfl, h1, r⟩ := hw.lst r1.fr.fh
   exact ⟨a, us, rfl, SqL.of h1, fun x hx => k _ _ _ _ _ (p1.back (r1.newO (o := .lst us.reverse) hx (own_lst r.rev))) q⟩
  next => exact q.elim
class FldOk (K : PySem.W.Frag) (C : Addr) (f : Str) : Prop where
 cl : Cls K C
 na : NoAttr K C f
def qFld (C : Addr) (f : Str) (ta : TVQ) : TQ := fun ρ Q => ta ρ fun ρ1 p => look ρ1 p fun w => match w with
 | .obj C' fs ws => C' = C ∧ match (fs.zip ws).lookup f with
  | some w => Q ρ1 (.sh w)
  | none => False
 | _ => False
theorem lookup_rep {b : Addr} {F : Hp} {f : Str} {w : W} : ∀ {fs : List Str} {vs : List V} {us : List W}, RepL K b F vs us → (fs.zip us).lookup f = some w → ∃ v, (fs.zip vs).lookup f = some v ∧ Rep K b F v w
 | [], _, _, _, e => by cases e
 | a :: fs, _, [], _, e => by cases e
 | a :: fs, _, u :: us, h, e => by
  cases h with
  | @cons v _ vs _ x r =>
   rw [List.zip_cons_cons, List.lookup_cons] at e ⊢
   cases q : (f == a) with
   | true => rw [q] at e; cases e; exact ⟨v, rfl, x⟩
   | false => rw [q] at e; exact lookup_rep r e
def tFldC (C : Addr) (K : PySem.W.Frag) (ta : TE) (f : Str) : TE := tFld K ta f
instance {C : Addr} {f : Str} {ta : TE} {τa : TVQ} [SV c ta τa] [o : FldOk K C f] : SE c (tFldC C K ta f) (qFld C f τa) where
 sim {F H σ ρ ts Q Qp} rl h k := SV.sim (t := ta) rl h fun v p ρ1 F1 H1 ts1 p1 r1 q1 => by
  obtain ⟨w, hw, q⟩ := r1.see p1.has.1 q1
  split at q
  next C' fs ws =>
   obtain ⟨rfl, q⟩ := q
   split at q
   next w' hl =>
    obtain ⟨a, dx, us, rfl, h1, l, r⟩ := hw.obj r1.fr.fh
    obtain ⟨v', hv, rv⟩ := lookup_rep r hl
    exact ⟨a, _, dx, _, v', rfl, h1, o.cl, o.na, hv, k _ _ _ _ _ (p1.back (r1.pushS rv)) q⟩
   next => exact q.elim
  next => exact q.elim
def rLen (K : PySem.W.Frag) : List V → Hp → VK → Prop := fun xs H Q => ∃ x n, xs = [x] ∧ LenV K x H n ∧ Q (.int n) H
theorem klen' (K : PySem.W.Frag) {X : L2.Cx} (h : X.K = K := by rfl) : CallR X (.builtin "len") (rLen K) := klen K h
def bLen : List W → (D → Prop) → Prop := fun xs k => match xs with
 | [.lst ws] => k (.int (ws.length : Int))
 | [.tup ws] => k (.int (ws.length : Int))
 | [.v (.str z)] => z.length ≤ 100000 ∧ k (.int (z.length : Int))
 | _ => False
theorem VwL.one {F H : Hp} {xs : List V} {w : W} (h : VwL c F H xs [w]) : ∃ x, xs = [x] ∧ Vw c F H x w := by
 match xs, h with
 | [x], h => exact ⟨x, rfl, h.1⟩
theorem VwL.two {F H : Hp} {xs : List V} {w u : W} (h : VwL c F H xs [w, u]) : ∃ x y, xs = [x, y] ∧ Vw c F H x w ∧ Vw c F H y u := by
 match xs, h with
 | [x, y], h => exact ⟨x, y, rfl, h.1, h.2.1⟩
instance : SC c (rLen K) bLen where
 sim {F H σ ρ ts xs ws Q Qp} rl hx h k := by
  unfold bLen at h
  split at h
  next ws =>
   obtain ⟨x, rfl, hv⟩ := hx.one
   obtain ⟨a, us, rfl, h1, r⟩ := hv.lst rl.fr.fh
   rw [← r.len] at h
   exact ⟨_, us.length, rfl, .inl ⟨us, SqL.of h1, rfl⟩, k _ _ _ _ (rl.pushS (.v _)) h⟩
  next ws =>
   obtain ⟨x, rfl, hv⟩ := hx.one
   obtain ⟨a, us, rfl, g1, h1, r⟩ := hv.tup rl.fr.fh
   rw [← r.len] at h
   exact ⟨_, us.length, rfl, .inr ⟨us, SqT.of h1, rfl⟩, k _ _ _ _ (rl.pushS (.v _)) h⟩
  next z =>
   obtain ⟨x, rfl, hv⟩ := hx.one
   cases hv.flat
   exact ⟨_, z.length, rfl, ⟨le_line h.1 (by decide), rfl⟩, k _ _ _ _ (rl.pushS (.v _)) h.2⟩
  next => exact h.elim
def asI (k : List Int → Prop) : List W → Prop := fun ws => ∃ ns : List Int, ws = ns.map (fun n => W.v (.int n)) ∧ k ns
def asB (k : List Bool → Prop) : List W → Prop := fun ws => ∃ ns : List Bool, ws = ns.map (fun n => W.v (.bl n)) ∧ k ns
def bSum : List W → (D → Prop) → Prop := fun xs k => match xs with
 | [.lst ws] => asI (fun ns => k (.int ns.sum)) ws
 | _ => False
instance : SC c (rSum K) bSum where
 sim {F H σ ρ ts xs ws Q Qp} rl hx h k := by
  unfold bSum at h
  split at h
  next ws =>
   obtain ⟨x, rfl, hv⟩ := hx.one
   obtain ⟨a, us, rfl, h1, r⟩ := hv.lst rl.fr.fh
   obtain ⟨ns, rfl, h⟩ := h
   have e := r.unf
   subst e
   exact ⟨a, ns, rfl, SqL.of h1, k _ _ _ _ (rl.pushS (.v _)) h⟩
  next => exact h.elim
def bAll : List W → (D → Prop) → Prop := fun xs k => match xs with
 | [.lst ws] => asB (fun ns => k (.bl (ns.all id))) ws
 | _ => False
instance : SC c (rAll K) bAll where
 sim {F H σ ρ ts xs ws Q Qp} rl hx h k := by
  unfold bAll at h
  split at h
  next ws =>
   obtain ⟨x, rfl, hv⟩ := hx.one
   obtain ⟨a, us, rfl, h1, r⟩ := hv.lst rl.fr.fh
   obtain ⟨ns, rfl, h⟩ := h
   have e := r.unf
   subst e
   exact ⟨a, ns, rfl, SqL.of h1, k _ _ _ _ (rl.pushS (.v _)) h⟩
  next => exact h.elim
def bAny : List W → (D → Prop) → Prop := fun xs k => match xs with
 | [.lst ws] => asB (fun ns => k (.bl (ns.any id))) ws
 | _ => False
instance : SC c (rAny K) bAny where
 sim {F H σ ρ ts xs ws Q Qp} rl hx h k := by
  unfold bAny at h
  split at h
  next ws =>
   obtain ⟨x, rfl, hv⟩ := hx.one
   obtain ⟨a, us, rfl, h1, r⟩ := hv.lst rl.fr.fh
   obtain ⟨ns, rfl, h⟩ := h
   have e := r.unf
   subst e
   exact ⟨a, ns, rfl, SqL.of h1, k _ _ _ _ (rl.pushS (.v _)) h⟩
  next => exact h.elim
def rMaxX (K : PySem.W.Frag) : List V → Hp → VK → Prop := fun xs H Q => (∃ i j, xs = [.int i, .int j] ∧ Q (.int (if j > i then j else i)) H) ∨ rMax K xs H Q
theorem kmax (K : PySem.W.Frag) {X : L2.Cx} (hc : X.calm = true := by rfl) (h : X.K = K := by rfl) : CallR X (.builtin "max") (rMaxX K) := by subst h; exact (call_max2 hc).or (cr_max hc)
def bMax : List W → (D → Prop) → Prop := fun xs k => match xs with
 | [.v (.int i), .v (.int j)] => k (.int (max i j))
 | [.lst ws] => asI (fun ns => 0 < ns.length ∧ ∀ m, m ∈ ns → (∀ y, y ∈ ns → y ≤ m) → k (.int m)) ws
 | _ => False
theorem max_if (i j : Int) : max i j = if j > i then j else i := by omega
instance : SC c (rMaxX K) bMax where
 sim {F H σ ρ ts xs ws Q Qp} rl hx h k := by
  unfold bMax at h
  split at h
  next i j =>
   obtain ⟨x, y, rfl, hv, hu⟩ := hx.two
   cases hv.flat
   cases hu.flat
   rw [max_if] at h
   exact .inl ⟨i, j, rfl, k _ _ _ _ (rl.pushS (.v _)) h⟩
  next ws =>
   obtain ⟨x, rfl, hv⟩ := hx.one
   obtain ⟨a, us, rfl, h1, r⟩ := hv.lst rl.fr.fh
   obtain ⟨ns, rfl, h0, h⟩ := h
   have e := r.unf
   subst e
   exact .inr ⟨a, ns, rfl, SqL.of h1, h0, fun m h2 h3 => k _ _ _ _ (rl.pushS (.v _)) (h m h2 h3)⟩
  next => exact h.elim
def rTupOf (K : PySem.W.Frag) : List V → Hp → VK → Prop := fun xs H Q => ∃ p ys, xs = [.ref p] ∧ ((SqL K H p ys ∧ ∀ l, H l = none → Q (.ref l) (upd H l (.tup ys))) ∨ (SqT K H p ys ∧ Q (.ref p) H))
def rListOf (K : PySem.W.Frag) : List V → Hp → VK → Prop := fun xs H Q => ∃ p ys, xs = [.ref p] ∧ (SqL K H p ys ∨ SqT K H p ys) ∧ ∀ l, H l = none → Q (.ref l) (upd H l (.lst ys))
theorem ktupOf (K : PySem.W.Frag) {X : L2.Cx} (h : X.K = K := by rfl) : CallR X (.type "tuple") (rTupOf K) := ktup K h
theorem klistOf (K : PySem.W.Frag) {X : L2.Cx} (h : X.K = K := by rfl) : CallR X (.type "list") (rListOf K) := klist K h
def bTup : List W → (D → Prop) → Prop := fun xs k => match xs with
 | [.lst ws] => k (.sh (.tup ws))
 | [.tup ws] => k (.sh (.tup ws))
 | _ => False
def bList : List W → (D → Prop) → Prop := fun xs k => match xs with
 | [.lst ws] => k (.lst ws)
 | [.tup ws] => k (.lst ws)
 | _ => False
instance : SC c (rTupOf K) bTup where
 sim {F H σ ρ ts xs ws Q Qp} rl hx h k := by
  unfold bTup at h
  split at h
  next ws =>
   obtain ⟨x, rfl, hv⟩ := hx.one
   obtain ⟨a, us, rfl, h1, r⟩ := hv.lst rl.fr.fh
   exact ⟨a, us, rfl, .inl ⟨SqL.of h1, fun x hx => k _ _ _ _ ((rl.newS (o := .tup us) hx).pushS (.tup upd_same (r.mono (same_new (rl.fr.fh.free hx))))) h⟩⟩
  next ws =>
   obtain ⟨x, rfl, hv⟩ := hx.one
   obtain ⟨a, us, rfl, g1, h1, r⟩ := hv.tup rl.fr.fh
   exact ⟨a, us, rfl, .inr ⟨SqT.of h1, k _ _ _ _ (rl.pushS (.tup g1 r)) h⟩⟩
  next => exact h.elim
instance : SC c (rListOf K) bList where
 sim {F H σ ρ ts xs ws Q Qp} rl hx h k := by
  unfold bList at h
  split at h
  next ws =>
   obtain ⟨x, rfl, hv⟩ := hx.one
   obtain ⟨a, us, rfl, h1, r⟩ := hv.lst rl.fr.fh
   exact ⟨a, us, rfl, .inl (SqL.of h1), fun x hx => k _ _ _ _ (rl.newO (o := .lst us) hx (own_lst r)) h⟩
  next ws =>
   obtain ⟨x, rfl, hv⟩ := hx.one
   obtain ⟨a, us, rfl, g1, h1, r⟩ := hv.tup rl.fr.fh
   exact ⟨a, us, rfl, .inr (SqT.of h1), fun x hx => k _ _ _ _ (rl.newO (o := .lst us) hx (own_lst r)) h⟩
  next => exact h.elim
end
end R
namespace R
open PySem PySem.Spec PyProof.Rows L2 G
abbrev TGQ := D → List D → (List D → Prop) → Prop
abbrev TGsQ := List D → List D → (List D → Prop) → Prop
structure EQ where
 nx : List D → Prop
 rt : D → Prop
 bk : List D → Prop := fun _ => False
 ct : List D → Prop := fun _ => False
abbrev TSQ := EQ → List D → Prop
abbrev TIQ := List D → (List D → List W → Prop) → Prop
class NoM {K : PySem.W.Frag} (c : Cx K) : Prop where
 no : ∀ a, ¬ c.M a
 sf : c.sf = false
 pk : c.pk = false
def Cx.out {K : PySem.W.Frag} (c : Cx K) (ρ : List D) (d : D) : D := if c.sf = true then .ntup (d :: ρ) else d
theorem Cx.out_no {K : PySem.W.Frag} {c : Cx K} [z : NoM c] {ρ : List D} {d : D} : c.out ρ d = d := if_neg (by rw [z.sf]; exact fun h => nomatch h)
structure EndsOk {K : PySem.W.Frag} (c : Cx K) (D : Ends) (Dq : EQ) : Prop where
 nx : ∀ {σ ρ F H}, Rel c F H σ ρ [] → Dq.nx ρ → D.nx σ H
 rt : ∀ {v d σ ρ F H}, Rel c F H σ ρ [(v, d)] → Dq.rt (c.out ρ d) → D.rt v H
 bk : ∀ {σ ρ F H}, Rel c F H σ ρ [] → Dq.bk ρ → D.bk σ H
 ct : ∀ {σ ρ F H}, Rel c F H σ ρ [] → Dq.ct ρ → D.ct σ H
class SS {K : PySem.W.Frag} (c : Cx K) (t : TS) (τ : outParam TSQ) : Prop where
 sim : ∀ {F H : Hp} {σ : L2.St} {ρ : List D} {E : Ends} {Eq : EQ}, Rel c F H σ ρ [] → τ Eq ρ → EndsOk c E Eq → t E σ H
def Cx.re {K : PySem.W.Frag} (c : Cx K) (F1 : Hp) : Cx K := { c with F0 := F1 }
class ReOk {K : PySem.W.Frag} (c : Cx K) (F1 : Hp) : Prop where
 e0 : Same c.F0 F1
 n0 : ∀ a, c.F0 a = none → c.H0 a ≠ none → F1 a = none
theorem Ow.re {K : PySem.W.Frag} {c : Cx K} {F1 F H : Hp} {S : Addr → Prop} {v : V} {d : D} (h : Ow c F H S v d) : Ow (c.re F1) F H S v d := by
 induction h with
 | sh r => exact .sh r
 | lst s0 m h r => exact .lst s0 m h r
 | dic s0 m h l r => exact .dic s0 m h l r
 | dit s0 m h l r => exact .dit s0 m h l r
 | obj s0 m h l r => exact .obj s0 m h l r
 | set s0 m h => exact .set s0 m h
 | ntup cm s0 m h l _ ih => exact .ntup cm s0 m h l ih
 | nlst cm s0 m h l _ ih => exact .nlst cm s0 m h l ih
 | nobj cm s0 m h l l2 _ ih => exact .nobj cm s0 m h l l2 ih
 | lstP s0 m h r => exact .lstP s0 m h r
 | kt p h => exact .kt p h
 | ditP s0 m h l r => exact .ditP s0 m h l r
 | mobj s0 m h l r => exact .mobj s0 m h l r
 | raw s0 m h => exact .raw s0 m h
 | un => exact .un
theorem Ow.unre {K : PySem.W.Frag} {c : Cx K} {F1 F H : Hp} {S : Addr → Prop} {v : V} {d : D} (h : Ow (c.re F1) F H S v d) : Ow c F H S v d := h.re (F1 := c.F0)
theorem TsOk.re {K : PySem.W.Frag} {c : Cx K} {F1 F H : Hp} {om : Om} : ∀ {ts : List (V × D)}, TsOk c F H om ts → TsOk (c.re F1) F H om ts
 | [], _ => trivial
 | _ :: _, h => ⟨h.1.re, h.2.re⟩
theorem Rel.re {K : PySem.W.Frag} {c : Cx K} {F1 F H : Hp} {σ : L2.St} {ρ : List D} {ts : List (V × D)} (r : Rel c F H σ ρ ts) (e : Same F1 F) (e0 : Same c.F0 F1) : Rel (c.re F1) F H σ ρ ts := by
 obtain ⟨om, o, s, t⟩ := r.ex
 refine ⟨⟨r.fr.bg, r.fr.fb, e, r.fr.fh, fun a h1 h2 => r.fr.nw a (e0.free h1) h2, r.fr.kp, r.fr.al, r.fr.nm⟩, r.len, om, ⟨o.nb, o.nf, o.th, o.mn⟩, fun i d h => ?_, t.re⟩
 rcases s i d h with q | ⟨v, q1, q2⟩
 ·exact .inl q
 ·exact .inr ⟨v, q1, q2.re⟩
theorem Rel.unre {K : PySem.W.Frag} {c : Cx K} {F1 F H : Hp} {σ : L2.St} {ρ : List D} {ts : List (V × D)} (r : Rel (c.re F1) F H σ ρ ts) (e0 : Same c.F0 F1) (n0 : ∀ a, c.F0 a = none → c.H0 a ≠ none → F1 a = none) : Rel c F H σ ρ ts := by
 obtain ⟨om, o, s, t⟩ := r.ex
 refine ⟨⟨r.fr.bg, r.fr.fb, e0.trans r.fr.ff, r.fr.fh, fun a h1 h2 => r.fr.nw a (n0 a h1 h2) h2, r.fr.kp, r.fr.al, r.fr.nm⟩, r.len, om, ⟨o.nb, o.nf, o.th, o.mn⟩, fun i d h => ?_, TsOk.re (c := c.re F1) (F1 := c.F0) t⟩
 rcases s i d h with q | ⟨v, q1, q2⟩
 ·exact .inl q
 ·exact .inr ⟨v, q1, q2.unre⟩
def Only (sl : List Nat) (σ σ' : L2.St) : Prop := ∀ vs : List Nat, (∀ i ∈ sl, i ∈ vs) → wipe σ' vs = wipe σ vs
class SG {K : PySem.W.Frag} (c : Cx K) (g : TG) (sl : outParam (List Nat)) (τ : outParam TGQ) : Prop where
 sim : ∀ {F H : Hp} {σ : L2.St} {ρ : List D} {ts : List (V × D)} {v : V} {d : D} {Q : L2.St → Hp → Prop} {Qp : List D → Prop}, Rel c F H σ ρ ((v, d) :: ts) → τ d ρ Qp → (∀ σ' ρ' F' H', Rel c F' H' σ' ρ' ts → Only sl σ σ' → Qp ρ' → Q σ' H') → g v σ H Q
class SGs {K : PySem.W.Frag} (c : Cx K) (g : TGs) (sl : outParam (List Nat)) (n : outParam Nat) (τ : outParam TGsQ) : Prop where
 sim : ∀ {F H : Hp} {σ : L2.St} {ρ : List D} {ts : List (V × D)} {vs : List V} {ds : List D} {Q : L2.St → Hp → Prop} {Qp : List D → Prop}, Rel c F H σ ρ (vs.zip ds ++ ts) → vs.length = ds.length → τ ds ρ Qp → (∀ σ' ρ' F' H', Rel c F' H' σ' ρ' ts → Only sl σ σ' → Qp ρ' → Q σ' H') → g vs σ H Q
section
variable {K : PySem.W.Frag} {c : Cx K}
theorem Only.refl {sl : List Nat} (σ : L2.St) : Only sl σ σ := fun _ _ => rfl
theorem Only.trans {a b : List Nat} {σ σ1 σ2 : L2.St} (h : Only a σ σ1) (k : Only b σ1 σ2) : Only (a ++ b) σ σ2 := fun vs hv => (k vs fun i hi => hv i (List.mem_append_right _ hi)).trans (h vs fun i hi => hv i (List.mem_append_left _ hi))
theorem wipe_get {σ : L2.St} {i : Nat} : ∀ {vs : List Nat}, (wipe σ vs)[i]? = if i ∈ vs then (σ[i]?).map fun _ => none else σ[i]?
 | [] => by simp [wipe]
 | v :: vs => by
  rw [wipe, List.getElem?_set]
  have ih := wipe_get (σ := σ) (i := i) (vs := vs)
  by_cases h : v = i
  ·subst h
   rw [if_pos rfl, if_pos List.mem_cons_self, wipe_length]
   by_cases hl : v < σ.length
   ·rw [if_pos hl, List.getElem?_eq_getElem hl]; rfl
   ·rw [if_neg hl, List.getElem?_eq_none (by omega)]; rfl
  ·rw [if_neg h, ih]
   have e : (i ∈ v :: vs) = (i ∈ vs) := by simp [Ne.symm h]
   simp only [e]
theorem Only.set {i : Nat} {σ : L2.St} {o : Option V} : Only [i] σ (σ.set i o) := fun vs hv => by
 apply List.ext_getElem?
 intro j
 rw [wipe_get, wipe_get]
 by_cases h : i = j
 ·subst h
  rw [if_pos (hv i (List.mem_singleton.mpr rfl)), if_pos (hv i (List.mem_singleton.mpr rfl))]
  by_cases hl : i < σ.length
  ·rw [List.getElem?_set_self hl, List.getElem?_eq_getElem hl]; rfl
  ·rw [List.getElem?_eq_none (by rw [List.length_set]; omega), List.getElem?_eq_none (by omega)]
 ·rw [List.getElem?_set_ne h]
def gqName (i : Nat) : TGQ := fun d ρ Q => Q (ρ.set i d)
instance {i : Nat} : SG c (gName i) [i] (gqName i) where
 sim {F H σ ρ ts v d Q Qp} rl h k := k _ _ _ _ (rl.store i) Only.set h
def gqNil : TGsQ := fun ds ρ Q => match ds with
 | [] => Q ρ
 | _ => False
def gqCons (t : TGQ) (u : TGsQ) : TGsQ := fun ds ρ Q => match ds with
 | d :: ds => t d ρ fun ρ1 => u ds ρ1 Q
 | _ => False
instance : SGs c gNil [] 0 gqNil where
 sim {F H σ ρ ts vs ds Q Qp} rl hl h k := by
  unfold gqNil at h
  split at h
  next =>
   have e : vs = [] := List.length_eq_zero_iff.mp hl
   subst e
   exact ⟨rfl, k _ _ _ _ rl (Only.refl _) h⟩
  next => exact h.elim
instance {t : TG} {u : TGs} {sa sb : List Nat} {n : Nat} {τa : TGQ} {τb : TGsQ} [SG c t sa τa] [SGs c u sb n τb] : SGs c (gCons t u) (sa ++ sb) (n + 1) (gqCons τa τb) where
 sim {F H σ ρ ts vs ds Q Qp} rl hl h k := by
  unfold gqCons at h
  split at h
  next d ds =>
   match vs, hl with
   | v :: vs, hl =>
    exact ⟨v, vs, rfl, SG.sim (g := t) (c := c) rl h fun σ1 ρ1 F1 H1 r1 o1 q1 => SGs.sim (g := u) r1 (by simpa using hl) q1 fun σ2 ρ2 F2 H2 r2 o2 q2 => k _ _ _ _ r2 (o1.trans o2) q2⟩
  next => exact h.elim
def gqTup (n : Nat) (t : TGsQ) : TGQ := fun d ρ Q => match d with
 | .sh (.tup ws) => ws.length = n ∧ t (ws.map D.sh) ρ Q
 | .ntup ds => ds.length = n ∧ t ds ρ Q
 | _ => False
theorem Rel.pushSL {F H : Hp} {σ : L2.St} {ρ : List D} {ts : List (V × D)} (r : Rel c F H σ ρ ts) : ∀ {us : List V} {ws : List W}, RepL K c.b F us ws → Rel c F H σ ρ (us.zip (ws.map D.sh) ++ ts)
 | _, _, .nil => r
 | _, _, .cons a b => (r.pushSL b).pushS a
theorem Rel.unpack {F H : Hp} {σ : L2.St} {ρ : List D} {ts : List (V × D)} {v : V} {ds : List D} (r : Rel c F H σ ρ ((v, .ntup ds) :: ts)) : ∃ a us, v = .ref a ∧ H a = some (.tup us) ∧ us.length = ds.length ∧ Rel c F H σ ρ (us.zip ds ++ ts) := by
 obtain ⟨om, o, s, t1, t2⟩ := r.ex
 cases t1 with
 | @ntup _ a us _ cm s0 m h l k =>
  have lt2 : ∀ (us : List V) (ds : List D), us.length = ds.length → (us.zip ds).length = ds.length := fun us ds e => by rw [List.length_zip, e, Nat.min_self]
  let om' : Om := fun x => if om x = some (.inr ts.length) then (if x = a then none else if cm x < ds.length then some (.inr (ts.length + (ds.length - 1 - cm x))) else none) else if (match om x with | some (.inr j) => decide (ts.length ≤ j) | _ => false) = true then none else om x
  have sub : ∀ x i, om' x = some i → ∃ j, om x = some j := fun x i q => by
   cases e : om x with
   | none =>
    have q' : om' x = none := by
     show (if om x = some (.inr ts.length) then _ else _) = none
     rw [e, if_neg (fun z => nomatch z)]
     rfl
    rw [q'] at q; cases q
   | some j => exact ⟨j, rfl⟩
  have kids : ∀ (us' : List V) (ds' : List D) (n : Nat), us'.length = ds'.length → ds'.length + n = ds.length → (∀ (j : Nat) v d, us'[j]? = some v → ds'[j]? = some d → Ow c F H (fun x => om x = some (.inr ts.length) ∧ x ≠ a ∧ cm x = n + j) v d) → TsOk c F H om' ts → TsOk c F H om' (us'.zip ds' ++ ts) := by
   intro us'
   induction us' with
   | nil => intro ds' n e _ _ ht; exact ht
   | cons u us' ih =>
    intro ds' n e en hk ht
    match ds', e with
    | d :: ds', e =>
     have e' : us'.length = ds'.length := by simpa using e
     refine ⟨?_, ih ds' (n + 1) e' (by rw [← en]; simp; omega) (fun j v d h1 h2 => ?_) ht⟩
     ·refine (hk 0 u d rfl rfl).mono (Same.refl _) (fun _ _ _ z => z) fun x q => ?_
      show (if om x = some (Sum.inr ts.length) then _ else _) = some (Sum.inr (us'.zip ds' ++ ts).length)
      have hc : cm x = n := q.2.2
      have hlt : cm x < ds.length := by rw [hc, ← en]; simp
      rw [if_pos q.1, if_neg q.2.1, if_pos hlt, List.length_append, lt2 us' ds' e', hc, ← en]
      congr 2
      simp
      omega
     ·refine (hk (j + 1) v d (by simpa using h1) (by simpa using h2)).mono (Same.refl _) (fun _ _ _ z => z) fun x q => ⟨q.1, q.2.1, ?_⟩
      rw [q.2.2]; omega
  refine ⟨a, us, rfl, h, l, r.fr, r.len, om', ⟨fun x i q => ?_, fun x i q => ?_, fun x i q => ?_, fun x i q => ?_⟩, fun i d q => (s i d q).mono (Same.refl _) (fun _ _ _ z => z) fun x z => ?_, kids us ds 0 l (by omega) (fun j v d h1 h2 => (k j v d h1 h2).mono (Same.refl _) (fun _ _ _ z => z) fun x q => ⟨q.1, q.2.1, by rw [q.2.2]; omega⟩) (t2.mono (Same.refl _) (fun _ _ _ _ _ z => z) fun x j lt z => ?_)⟩
  ·obtain ⟨j, e⟩ := sub x i q; exact o.nb x j e
  ·obtain ⟨j, e⟩ := sub x i q; exact o.nf x j e
  ·obtain ⟨j, e⟩ := sub x i q; exact o.th x j e
  ·obtain ⟨j, e⟩ := sub x i q; exact o.mn x j e
  ·show (if om x = some (.inr ts.length) then _ else _) = _
   rw [z, if_neg (fun y => nomatch y)]
   rfl
  ·show (if om x = some (.inr ts.length) then _ else _) = _
   rw [z, if_neg (fun y => by cases y; omega)]
   show (if decide (ts.length ≤ j) = true then none else _) = _
   rw [if_neg (by simpa using lt)]
instance {n m : Nat} {t : TGs} {sl : List Nat} {τ : TGsQ} [SGs c t sl m τ] : SG c (gTup K n t) sl (gqTup n τ) where
 sim {F H σ ρ ts v d Q Qp} rl h k := by
  unfold gqTup at h
  split at h
  next ws =>
   have hr := rl.topS
   cases hr with
   | @tup a us _ e r =>
    exact ⟨a, us, rfl, SqT.of (rl.fr.fh _ _ e), by rw [r.len]; exact h.1, SGs.sim (g := t) (rl.pop.pushSL r) (by rw [List.length_map, r.len]) h.2 k⟩
  next ds =>
   obtain ⟨a, us, rfl, e, l, r⟩ := rl.unpack
   exact ⟨a, us, rfl, SqT.of e, by rw [l]; exact h.1, SGs.sim (g := t) r l h.2 k⟩
  next => exact h.elim
def gqSub (s : Nat) (ti : TQ) : TGQ := fun d ρ Q => lookD d fun w => match ρ[s]? with
 | some (.lst _) => ti ρ fun ρ1 di => match di, ρ1[s]? with
  | .sh (.v (.int i)), some (.lst ws) => match ixN ws.length i with
   | some j => Q (ρ1.set s (.lst (ws.set j w)))
   | none => False
  | _, _ => False
 | _ => False
instance {s : Nat} {ti : TE} {τ : TQ} [SE c ti τ] : SG c (gSub (tVar s) ti rSetL) [] (gqSub s τ) where
 sim {F H σ ρ ts v d Q Qp} rl h k := by
  unfold gqSub at h
  obtain ⟨w, hw, h⟩ := lookD_ex h
  obtain ⟨F1, e1, r1⟩ := rl.frzT hw
  split at h
  next ws0 es =>
   obtain ⟨x, S, h1, h2⟩ := r1.slot es (fun z => nomatch z)
   refine ⟨x, h1, SE.sim (t := ti) r1 h fun v2 di ρ2 F2 H2 r2 q2 => ?_⟩
   split at q2
   next i ws es2 =>
    split at q2
    next j hj =>
     obtain ⟨x', S', h3, h4⟩ := r2.slot es2 (fun z => nomatch z)
     rw [h1] at h3
     cases h3
     cases h4 with
     | @lst _ a us _ s0 m ha rr =>
      refine ⟨a, us, i, j, rfl, r2.topS.flat, ha, by rw [rr.len]; exact hj, ?_⟩
      have rv := r2.pop.topS
      have r3 : Rel c F2 (upd H2 a (.lst (us.set j v))) σ (ρ2.set s (.lst (ws.set j w))) ts := r2.pop.pop.mutS es2 (fun z => nomatch z) h1 fun T o => by
       cases o with
       | lst s0' m' ha' rr' =>
        rw [ha] at ha'
        cases ha'
        exact ⟨s0', .lst s0' m' upd_same (rr'.set j rv)⟩
      exact k _ _ _ _ r3 (Only.refl _) q2
    next => exact q2.elim
   next => exact q2.elim
  next => exact h.elim
end
end R
namespace R
open PySem PySem.Spec PyProof.Rows L2 G
def ItzQ (K : PySem.W.Frag) (t u : Bool) (a b : Addr) : It :=
 ⟨fun i H => ∃ (xs ys : List V) (x y : V), LT K t a H xs ∧ LT K u b H ys ∧ xs[i]? = some x ∧ ys[i]? = some y,
  fun i H v H' => ∃ T x y, v = .ref T ∧ H T = none ∧ H' = upd H T (.tup [x, y]) ∧ (∀ xs, LT K t a H xs → xs[i]? = some x) ∧ ∀ ys, LT K u b H ys → ys[i]? = some y,
  fun i H => ∃ xs ys : List V, LT K t a H xs ∧ LT K u b H ys ∧ (xs.length = i ∧ i ≤ ys.length ∨ ys.length = i ∧ i ≤ xs.length)⟩
theorem turn_zipQ {P : Program} {w : World} {K : PySem.W.Frag} {elts : List Expr} {kk : Nat} {tpos : Pos} {t u : Bool} {a b z TI TO j1 j2 : Addr} (D : ZipSep2 z TI TO j1 j2 [j1, a] [j2, b]) (na : a ≠ j1) (nb : b ≠ j2) :
  Turn P w K (.Tuple elts kk tpos) (ItzQ K t u a b) [z, TI, TO, j1, j2] z (fun i h => IsZip h z TI TO .none ∧ IsPair h TI (.ref j1) (.ref j2) ∧ (∃ x y, IsPair h TO x y) ∧ ItAt t h j1 a i ∧ ItAt u h j2 b i) where
 mem := by simp
 obj := fun i h st c hc => by
  obtain ⟨q1, q2, ⟨x, y, q3⟩, q4, q4'⟩ := st
  have q5 : ∃ o, h.get? j1 = some o ∧ ∀ v, o.data ≠ .cell v := by
   cases t
   ·obtain ⟨o, e, _, d⟩ := (show h.IsListIter j1 a i from q4)
    exact ⟨o, e, fun v q => by rw [d] at q; cases q⟩
   ·obtain ⟨o, e, _, d⟩ := (show h.IsTupleIter j1 a i from q4)
    exact ⟨o, e, fun v q => by rw [d] at q; cases q⟩
  obtain ⟨o1, e1, d1⟩ := q5
  have q5' : ∃ o, h.get? j2 = some o ∧ ∀ v, o.data ≠ .cell v := by
   cases u
   ·obtain ⟨o, e, _, d⟩ := (show h.IsListIter j2 b i from q4')
    exact ⟨o, e, fun v q => by rw [d] at q; cases q⟩
   ·obtain ⟨o, e, _, d⟩ := (show h.IsTupleIter j2 b i from q4')
    exact ⟨o, e, fun v q => by rw [d] at q; cases q⟩
  obtain ⟨o2, e2, d2⟩ := q5'
  rcases (by simpa using hc : c = z ∨ c = TI ∨ c = TO ∨ c = j1 ∨ c = j2) with rfl | rfl | rfl | rfl | rfl
  ·exact ⟨_, q1, fun v q => nomatch q⟩
  ·exact ⟨_, q2, fun v q => nomatch q⟩
  ·exact ⟨_, q3, fun v q => nomatch q⟩
  ·exact ⟨o1, e1, fun v q => d1 v q⟩
  ·exact ⟨o2, e2, fun v q => d2 v q⟩
 keep := fun i h h' st k => by
  obtain ⟨q1, q2, ⟨x, y, q3⟩, q4, q5⟩ := st
  refine ⟨k z (by simp) _ q1, k TI (by simp) _ q2, ⟨x, y, k TO (by simp) _ q3⟩, ?_, ?_⟩
  ·cases t
   ·exact Heap.IsListIter.at (show h.IsListIter j1 a i from q4) fun o q => k j1 (by simp) o q
   ·exact Heap.IsTupleIter.at (show h.IsTupleIter j1 a i from q4) fun o q => k j1 (by simp) o q
  ·cases u
   ·exact Heap.IsListIter.at (show h.IsListIter j2 b i from q5) fun o q => k j2 (by simp) o q
   ·exact Heap.IsTupleIter.at (show h.IsTupleIter j2 b i from q5) fun o q => k j2 (by simp) o q
 item := by
  intro X hP hw hK hc i pins s σ H E I hf st hg
  subst hP hw hK
  obtain ⟨q1, q2, ⟨x0, y0, q3⟩, q4, q5⟩ := st
  obtain ⟨xs, ys, x, y, sx, sy, hx, hy⟩ := hg
  obtain ⟨its, rv, p, _⟩ := lt_items I sx
  obtain ⟨its2, rv2, p2, _⟩ := lt_items I sy
  obtain ⟨u0, hu, ru⟩ := rv.get hx
  obtain ⟨u2, hu2, ru2⟩ := rv2.get hy
  have zlt : z < s.heap.objs.size := Heap.lt_size q1
  have D1 := drawsLT (P := X.prog) (w := X.w) (A := X.A.in1) t (I.ok.hd hc) j1 a na its.toArray
  have D2 := drawsLT (P := X.prog) (w := X.w) (A := X.A.in1) u (I.ok.hd hc) j2 b nb its2.toArray
  refine wpAny_pyNext_zipD2_item (A := X.A) D D1 D2 q1 q2 q3 ⟨q4, p⟩ ⟨q5, p2⟩ (by rw [List.size_toArray]; exact (List.getElem?_eq_some_iff.mp hu).1) (by rw [List.size_toArray]; exact (List.getElem?_eq_some_iff.mp hu2).1) fun x1 x2 g tk y1 y2 z' TO' s1 s2 hT hsz hk => ?_
  have ex1 : x1 = u0 := by
   have := y1
   simp only [List.getElem?_toArray, hu] at this
   exact (Option.some.inj this).symm
  have ex2 : x2 = u2 := by
   have := y2
   simp only [List.getElem?_toArray, hu2] at this
   exact (Option.some.inj this).symm
  subst ex1 ex2
  refine ⟨_, rfl, wpAny_letOwnedTupleGo_zip (s := { s with heap := g, toks := tk }) z' fun g2 z2 sb => ?_⟩
  have hT2 : g2.get? s.heap.objs.size = some { cls := .type "tuple", data := .seq #[x1, x2] } := (sb.2 _ (Nat.ne_of_gt zlt)).trans hT
  have new : ObjOk X.prog X.w (upd H s.heap.objs.size (.tup [x, y])) g2 s.heap.objs.size (.tup [x, y]) :=
   ⟨by show 2 ≤ sizeLine; decide, [x1, x2], .cons ru (.cons ru2 .nil), ⟨_, hT2, rfl, _, rfl⟩⟩
  have kp : ∀ c o, c ∉ [z, TI, TO, j1, j2] → s.heap.get? c = some o → g2.get? c = some o := fun c o hb q => by
   simp only [List.mem_cons, List.not_mem_nil, or_false, not_or] at hb
   exact (sb.2 c hb.1).trans (hk c o hb.1 hb.2.2.1 hb.2.2.2.1 hb.2.2.2.2 q)
  have I1 : Inv X pins σ (upd H s.heap.objs.size (.tup [x, y])) { s with heap := g2, toks := tk } := I.turnedNew (t' := tk) (ch := [z, TI, TO, j1, j2]) kp hf (Nat.le_refl _) new
  refine ⟨.ref s.heap.objs.size, _, I1, rfl, ⟨_, x, y, rfl, I.hok.fresh (Nat.le_refl _), rfl, fun l hl => by rw [lt_inj I hl sx]; exact hx, fun l hl => by rw [lt_inj I hl sy]; exact hy⟩, ⟨z2, ?_, ⟨x1, x2, ?_⟩, ?_, ?_⟩, fun c hcm => ?_⟩
  ·exact (sb.2 _ D.TIz).trans (hk _ _ D.TIz D.TITO D.TIi1 D.TIi2 q2)
  ·exact (sb.2 _ D.TOz).trans TO'
  ·have w1 := s1.1
   cases t
   ·exact Heap.IsListIter.at (show g.IsListIter j1 a (i + 1) from w1) fun o q => (sb.2 _ D.zi1.symm).trans q
   ·exact Heap.IsTupleIter.at (show g.IsTupleIter j1 a (i + 1) from w1) fun o q => (sb.2 _ D.zi1.symm).trans q
  ·have w2 := s2.1
   cases u
   ·exact Heap.IsListIter.at (show g.IsListIter j2 b (i + 1) from w2) fun o q => (sb.2 _ D.zi2.symm).trans q
   ·exact Heap.IsTupleIter.at (show g.IsTupleIter j2 b (i + 1) from w2) fun o q => (sb.2 _ D.zi2.symm).trans q
  ·have clt : c < s.heap.objs.size := by
    rcases (by simpa using hcm : c = z ∨ c = TI ∨ c = TO ∨ c = j1 ∨ c = j2) with rfl | rfl | rfl | rfl | rfl
    ·exact zlt
    ·exact Heap.lt_size q2
    ·exact Heap.lt_size q3
    ·cases t
     ·obtain ⟨_, e, _⟩ := (show s.heap.IsListIter _ a i from q4); exact Heap.lt_size e
     ·obtain ⟨_, e, _⟩ := (show s.heap.IsTupleIter _ a i from q4); exact Heap.lt_size e
    ·cases u
     ·obtain ⟨_, e, _⟩ := (show s.heap.IsListIter _ b i from q5); exact Heap.lt_size e
     ·obtain ⟨_, e, _⟩ := (show s.heap.IsTupleIter _ b i from q5); exact Heap.lt_size e
   rw [upd_ne (Nat.ne_of_lt clt)]
   exact (hf c hcm).1
 done := by
  intro X hP hw hK hc i pins s σ H E I hf st hg
  subst hP hw hK
  obtain ⟨q1, q2, ⟨x0, y0, q3⟩, q4, q5⟩ := st
  obtain ⟨xs, ys, sx, sy, hend⟩ := hg
  obtain ⟨its, rv, p, _⟩ := lt_items I sx
  obtain ⟨its2, rv2, p2, _⟩ := lt_items I sy
  have l1 := rv.length
  have l2 := rv2.length
  have D1 := drawsLT (P := X.prog) (w := X.w) (A := X.A.in1) t (I.ok.hd hc) j1 a na its.toArray
  have D2 := drawsLT (P := X.prog) (w := X.w) (A := X.A.in1) u (I.ok.hd hc) j2 b nb its2.toArray
  refine wpAny_pyNext_zipD2_end (A := X.A) D D1 D2 q1 q2 q3 ⟨q4, p⟩ ⟨q5, p2⟩ (by rw [List.size_toArray]; omega) (by rw [List.size_toArray]; omega) (by rw [List.size_toArray, List.size_toArray]; omega) fun g tk hk => ⟨rfl, I.turnedL (t' := tk) (ch := [z, TI, TO, j1, j2]) (fun c o hb q => ?_) hf⟩
  simp only [List.mem_cons, List.not_mem_nil, or_false, not_or] at hb
  exact hk c o hb.1 hb.2.2.1 hb.2.2.2.1 hb.2.2.2.2 q
 self := fun A i s Q E st h => wpAny_pyIter_zip st.1 h
def iZipQ (K : PySem.W.Frag) (ta : TA) : TI := fun σ H R => ta σ H fun vs H1 => ∃ t u a b xs ys, vs = [.ref a, .ref b] ∧ LT K t a H1 xs ∧ LT K u b H1 ys ∧ R (ItzQ K t u a b) H1
theorem beginsLT2 (t : Bool) (a : Addr) (its : Array Value) : ∃ o, Begins (.ref a) o (fun h => SeqAt t h a its) ∧ ∀ (h : Heap) (j : Addr), h.get? j = some o → ItAt t h j a 0 := by
 cases t
 ·exact ⟨_, begins_list a its, fun h j e => ⟨_, e, rfl, rfl⟩⟩
 ·exact ⟨_, begins_tuple a its, fun h j e => ⟨_, e, rfl, rfl⟩⟩
theorem pi_zipQ {X : L2.Cx} {e e2 : Expr} {ta : TA} {p pos tpos : Pos} {elts : List Expr} {kk : Nat} (hg : Gl X "zip") (hm : X.mg "zip" = none) (ha : PA X [e, e2] ta)
  (hs : starEach [e, e2] X.env = (false, eval e X.env) :: starEach [e2] X.env := by rfl) (hpl : (backTo pos (starEach [e2] X.env)).any (·.1) = false := by rfl) :
  PI X (.Tuple elts kk tpos) (.Call (.Name "zip" p) [e, e2] [] pos) (iZipQ X.K ta) := by
 refine ⟨fun pins s σ H R I h => Call_ (ld_blt I hg hm PyProof.Rows.boot_zip (PyProof.Rows.callWith_type1 (thn (ha.run pos pins s σ H _ I h) fun us s1 hv => ?_) hs hpl))⟩
 obtain ⟨vs, H1, I1, r1, t, u, a, b, xs, ys, rfl, sx, sy, q⟩ := hv
 cases r1 with
 | cons r rr =>
 cases rr with
 | cons r' rr =>
 cases rr
 cases r
 cases r'
 obtain ⟨its, rv, p1, _⟩ := lt_items I1 sx
 obtain ⟨its2, rv2, p2, _⟩ := lt_items I1 sy
 obtain ⟨o1, B1, k1⟩ := beginsLT2 t a its.toArray
 obtain ⟨o2, B2, k2⟩ := beginsLT2 u b its2.toArray
 have la := seq_lt p1
 have lb : b < s1.heap.objs.size := seq_lt p2
 refine zip_begins2 B1 B2 p1 p2 fun g q1 q2 q3 q4 q5 hsz hk => wpAny_pyIter_zip q1 ?_
 have I2 : Inv X pins σ H1 { s1 with heap := g } := I1.kept (t' := s1.toks) hk
 refine ⟨s1.heap.objs.size + 4, [s1.heap.objs.size + 4, s1.heap.objs.size + 2, s1.heap.objs.size + 3, s1.heap.objs.size, s1.heap.objs.size + 1], _, _, H1, rfl, I2, turn_zipQ (t := t) (u := u) (zip_sep2 (fp1 := [a]) (fp2 := [b]) (fun c hc => by rw [List.mem_singleton.mp hc]; exact la) (fun c hc => by rw [List.mem_singleton.mp hc]; exact lb)) (Nat.ne_of_lt la) (Nat.ne_of_lt (Nat.lt_succ_of_lt lb)), ⟨q1, q2, ⟨_, _, q3⟩, k1 g _ q4, k2 g _ q5⟩, fun c hc => ?_, q⟩
 have hle : s1.heap.objs.size ≤ c := by
  rcases (by simpa using hc : c = s1.heap.objs.size + 4 ∨ c = s1.heap.objs.size + 2 ∨ c = s1.heap.objs.size + 3 ∨ c = s1.heap.objs.size ∨ c = s1.heap.objs.size + 1) with rfl | rfl | rfl | rfl | rfl
  all_goals first | exact Nat.le_add_right _ _ | exact Nat.le_refl _
 exact I1.fpOk hle (I1.hok.fresh hle)
theorem kzip (K : PySem.W.Frag) {X : L2.Cx} {e e2 : Expr} {ta : TA} {p pos tpos : Pos} {elts : List Expr} {kk : Nat} (hg : Gl X "zip") (hm : X.mg "zip" = none) (ha : PA X [e, e2] ta) (h : X.K = K := by rfl)
  (hs : starEach [e, e2] X.env = (false, eval e X.env) :: starEach [e2] X.env := by rfl) (hpl : (backTo pos (starEach [e2] X.env)).any (·.1) = false := by rfl) :
  PI X (.Tuple elts kk tpos) (.Call (.Name "zip" p) [e, e2] [] pos) (iZipQ K ta) := by subst h; exact pi_zipQ hg hm ha hs hpl
def iSeq (K : PySem.W.Frag) (tl : TE) : TI := fun σ H R => tl σ H fun x H1 => (∃ a, x = .ref a ∧ (∃ xs, SqL K H1 a xs) ∧ R (Itl K a) H1) ∨ (∃ a, x = .ref a ∧ (∃ xs, SqT K H1 a xs) ∧ R (Itt K a) H1) ∨ ∃ z, x = .str z ∧ R (Its z) H1
theorem pi_seq {X : L2.Cx} {tg l : Expr} {tl : TE} (hl : PE X l tl) : PI X tg l (iSeq X.K tl) := by
 refine ⟨fun pins s σ H R I h => ?_⟩
 refine thn (hl.run pins s σ H _ I h) fun v s1 ⟨x, H1, I1, r1, q1⟩ => ?_
 rcases q1 with ⟨a, e, ⟨xs, hq⟩, q⟩ | ⟨a, e, ⟨xs, hq⟩, q⟩ | ⟨z, e, q⟩
 ·subst e
  cases r1
  obtain ⟨its, rv, p, hz⟩ := I1.list hq
  refine wpAny_pyIter_list p.isList ?_
  refine ⟨s1.heap.objs.size, [s1.heap.objs.size], _, _, H1, rfl, I1.kept (t' := s1.toks) fun b o e => Heap.get?_push_of_some _ e, turn_list a _, ⟨_, Heap.get?_push_size _ rfl, rfl, rfl⟩, fun b hb => ?_, q⟩
  have e : b = s1.heap.objs.size := by simpa using hb
  subst e
  exact I1.fpOk (Nat.le_refl _) (I1.hok.fresh (Nat.le_refl _))
 ·subst e
  cases r1
  obtain ⟨its, rv, p, hz⟩ := I1.tuple hq
  refine wpAny_pyIter_tuple (show s1.heap.IsTuple a its.toArray from p) ?_
  refine ⟨s1.heap.objs.size, [s1.heap.objs.size], _, _, H1, rfl, I1.kept (t' := s1.toks) fun b o e => Heap.get?_push_of_some _ e, turn_tuple a _, ⟨_, Heap.get?_push_size _ rfl, rfl, rfl⟩, fun b hb => ?_, q⟩
  have e : b = s1.heap.objs.size := by simpa using hb
  subst e
  exact I1.fpOk (Nat.le_refl _) (I1.hok.fresh (Nat.le_refl _))
 ·subst e
  obtain ⟨t, rfl⟩ := r1
  cases ha : z.cps.all (· < 128)
  ·exact wpAny_pyIter_wide ha (pi_one (tk := s1.toks) I1 _ (turn_str _ z t "str_iterator" (.inr rfl)) ⟨_, Heap.get?_push_size _ rfl, rfl, rfl⟩ q)
  ·exact wpAny_pyIter_ascii ha (pi_one (tk := s1.toks) I1 _ (turn_str _ z t "str_ascii_iterator" (.inl rfl)) ⟨_, Heap.get?_push_size _ rfl, rfl, rfl⟩ q)
theorem kseq (K : PySem.W.Frag) {X : L2.Cx} {tg l : Expr} {tl : TE} (hl : PE X l tl) (h : X.K = K := by rfl) : PI X tg l (iSeq K tl) := by subst h; exact pi_seq hl
end R
namespace R
open PySem PySem.Spec PyProof.Rows L2 G
def YW (K : PySem.W.Frag) (b : Addr) (F1 : Hp) (ws : List W) : Nat → Hp → V → Hp → Prop := fun i H x H' => ∃ w, ws[i]? = some w ∧ ((H' = H ∧ Rep K b F1 x w) ∨ ∃ T us us', x = .ref T ∧ H T = none ∧ H' = upd H T (.tup us) ∧ w = .tup us' ∧ RepL K b F1 us us')
abbrev ItOk {K : PySem.W.Frag} (c : Cx K) (J : It) (F1 : Hp) (ws : List W) : Prop := Walk J ws.length (fun H => Same F1 H) (YW K c.b F1 ws)
class SI {K : PySem.W.Frag} (c : Cx K) (t : TI) (τ : outParam TIQ) : Prop where
 sim : ∀ {F H : Hp} {σ : L2.St} {ρ : List D} {ts : List (V × D)} {R : It → Hp → Prop} {Qp : List D → List W → Prop}, Rel c F H σ ρ ts → τ ρ Qp → (∀ J ws ρ' F' H', Rel c F' H' σ ρ' ts → ItOk c J F' ws → Qp ρ' ws → R J H') → t σ H R
section
variable {K : PySem.W.Frag} {c : Cx K}
theorem get_lt {α : Type} {xs : List α} {i : Nat} {x : α} (h : xs[i]? = some x) : i < xs.length := (List.getElem?_eq_some_iff.mp h).1
def strW (z : Str) : List W := z.cps.toList.map fun ch => W.v (.str ⟨#[ch]⟩)
def iqSeq (t : TQ) : TIQ := fun ρ Q => t ρ fun ρ1 d => lookD d fun w => match w with
 | .lst ws => Q ρ1 ws
 | .tup ws => Q ρ1 ws
 | .v (.str z) => Q ρ1 (strW z)
 | _ => False
theorem walk_repl {F : Hp} {a : Addr} {us : List V} {ws : List W} (e : F a = some (.lst us)) (r : RepL K c.b F us ws) : ItOk c (Itl K a) F ws := by
 have w : Walk (Itl K a) us.length (fun H => SqL K H a us) (YAt us) := walk_list
 rw [r.len] at w
 refine w.mono (fun H h => SqL.of (h _ _ e)) fun i H x H' hi h y => ?_
 obtain ⟨rfl, q⟩ := y
 obtain ⟨w, hw, rw⟩ := r.getV q
 exact ⟨w, hw, .inl ⟨rfl, rw⟩⟩
theorem walk_rept {F : Hp} {a : Addr} {us : List V} {ws : List W} (e : F a = some (.tup us)) (r : RepL K c.b F us ws) : ItOk c (Itt K a) F ws := by
 have w : Walk (Itt K a) us.length (fun H => SqT K H a us) (YAt us) := walk_tup
 rw [r.len] at w
 refine w.mono (fun H h => SqT.of (h _ _ e)) fun i H x H' hi h y => ?_
 obtain ⟨rfl, q⟩ := y
 obtain ⟨w, hw, rw⟩ := r.getV q
 exact ⟨w, hw, .inl ⟨rfl, rw⟩⟩
theorem walk_reps {F : Hp} {z : Str} : ItOk c (Its z) F (strW z) := by
 have w := walk_str (z := z)
 have e : z.cps.size = (strW z).length := by simp [strW]
 rw [e] at w
 refine w.mono (fun H h => trivial) fun i H x H' hi h y => ?_
 obtain ⟨rfl, ch, h1, rfl⟩ := y
 refine ⟨.v (.str ⟨#[ch]⟩), ?_, .inl ⟨rfl, .v _⟩⟩
 simp [strW, h1]
instance {t : TE} {τ : TQ} [SE c t τ] : SI c (iSeq K t) (iqSeq τ) where
 sim {F H σ ρ ts R Qp} rl h k := SE.simW (t := t) (Qp := fun ρ1 w => match w with
   | .lst ws => Qp ρ1 ws
   | .tup ws => Qp ρ1 ws
   | .v (.str z) => Qp ρ1 (strW z)
   | _ => False) rl h fun v w ρ1 F1 H1 r1 q1 => by
  have tp := r1.topS
  split at q1
  next ws => cases tp with | lst e r => exact .inl ⟨_, rfl, ⟨_, SqL.of (r1.fr.fh _ _ e)⟩, k _ _ _ _ _ r1.pop (walk_repl e r) q1⟩
  next ws => cases tp with | tup e r => exact .inr (.inl ⟨_, rfl, ⟨_, SqT.of (r1.fr.fh _ _ e)⟩, k _ _ _ _ _ r1.pop (walk_rept e r) q1⟩)
  next z => cases tp; exact .inr (.inr ⟨z, rfl, k _ _ _ _ _ r1.pop walk_reps q1⟩)
  next => exact q1.elim
def rngW (lo : Int) (n : Nat) : List W := (List.range n).map fun (i : Nat) => W.v (.int (lo + (i : Int)))
def iqRng1 (t : TVAQ) : TIQ := fun ρ Q => t ρ fun ρ1 ps => lookL ρ1 ps fun ws => match ws with
 | [.v (.int j)] => (-100000 ≤ j ∧ j ≤ 100000) ∧ Q ρ1 (rngW 0 j.toNat)
 | _ => False
def iqRng2 (t : TVAQ) : TIQ := fun ρ Q => t ρ fun ρ1 ps => lookL ρ1 ps fun ws => match ws with
 | [.v (.int i), .v (.int j)] => (-100000 ≤ i ∧ i ≤ 100000 ∧ -100000 ≤ j ∧ j ≤ 100000) ∧ Q ρ1 (rngW i (j - i).toNat)
 | _ => False
theorem walk_repr {F : Hp} {lo : Int} {n : Nat} : ItOk c (Itr lo n) F (rngW lo n) := by
 have w := walk_range (lo := lo) (n := n)
 have e : n = (rngW lo n).length := by simp [rngW]
 show Walk (Itr lo n) (rngW lo n).length _ _
 rw [← e]
 refine w.mono (fun H h => trivial) fun i H x H' hi h y => ?_
 obtain ⟨rfl, rfl⟩ := y
 exact ⟨_, by simp [rngW, hi], .inl ⟨rfl, .v _⟩⟩
instance {t : TA} {τ : TVAQ} [SVA c t τ] : SI c (iRng1 t) (iqRng1 τ) where
 sim {F H σ ρ ts R Qp} rl h k := SVA.sim (t := t) rl h fun vs ps ρ1 F1 H1 ts1 p1 r1 q1 => by
  obtain ⟨ws, hv, q⟩ := r1.seeL p1 q1
  split at q
  next j =>
   obtain ⟨x, rfl, hx⟩ := hv.one
   cases hx.flat
   obtain ⟨⟨h1, h2⟩, q⟩ := q
   exact ⟨j, rfl, by omega, by omega, k _ _ _ _ _ (p1.back0 r1) walk_repr q⟩
  next => exact q.elim
instance {t : TA} {τ : TVAQ} [SVA c t τ] : SI c (iRng2 t) (iqRng2 τ) where
 sim {F H σ ρ ts R Qp} rl h k := SVA.sim (t := t) rl h fun vs ps ρ1 F1 H1 ts1 p1 r1 q1 => by
  obtain ⟨ws, hv, q⟩ := r1.seeL p1 q1
  split at q
  next i j =>
   obtain ⟨x, y, rfl, hx, hy⟩ := hv.two
   cases hx.flat
   cases hy.flat
   obtain ⟨⟨h1, h2, h3, h4⟩, q⟩ := q
   exact ⟨i, j, rfl, ⟨by omega, by omega, by omega, by omega⟩, k _ _ _ _ _ (p1.back0 r1) walk_repr q⟩
  next => exact q.elim
def seqW (w : W) (k : List W → Prop) : Prop := match w with
 | .lst ws => k ws
 | .tup ws => k ws
 | _ => False
def pairW (xs ys : List W) : List W := List.zipWith (fun x y => W.tup [x, y]) xs ys
def iqZip (t : TAQ) : TIQ := fun ρ Q => t ρ fun ρ1 ws => match ws with
 | [x, y] => seqW x fun xs => seqW y fun ys => Q ρ1 (pairW xs ys)
 | _ => False
theorem seqW_of {F H : Hp} {v : V} {w : W} {k : List W → Prop} (h : seqW w k) (r : Rep K c.b F v w) (e : Same F H) : ∃ t a us ws, v = .ref a ∧ LT K t a F us ∧ RepL K c.b F us ws ∧ k ws := by
 unfold seqW at h
 split at h
 next ws => cases r with | lst e r => exact ⟨false, _, _, _, rfl, SqL.of e, r, h⟩
 next ws => cases r with | tup e r => exact ⟨true, _, _, _, rfl, SqT.of e, r, h⟩
 next => exact h.elim
theorem walk_zipQ {t u : Bool} {a b : Addr} {xs ys : List V} : Walk (ItzQ K t u a b) (min xs.length ys.length) (fun H => LT K t a H xs ∧ LT K u b H ys) (YPair (fun i => xs[i]?) (fun i => ys[i]?)) := by
 refine ⟨fun i _ hi q => ?_, fun _ q => ⟨xs, ys, q.1, q.2, by omega⟩, fun i H v H' _ q y => ?_⟩
 ·have h1 : i < xs.length := by omega
  have h2 : i < ys.length := by omega
  exact ⟨xs, ys, xs[i], ys[i], q.1, q.2, by simp [h1], by simp [h2]⟩
 ·obtain ⟨T, x, z, h1, h2, h3, h4, h5⟩ := y
  exact ⟨T, x, z, h1, h2, h3, h4 xs q.1, h5 ys q.2⟩
theorem walk_pairW {F : Hp} {J : It} {us us' : List V} {xs ys : List W} (w : Walk J (min us.length us'.length) (fun H => Same F H) (YPair (fun i => us[i]?) (fun i => us'[i]?))) (r : RepL K c.b F us xs) (r' : RepL K c.b F us' ys) : ItOk c J F (pairW xs ys) := by
 have e : min us.length us'.length = (pairW xs ys).length := by rw [pairW, List.length_zipWith, r.len, r'.len]
 rw [e] at w
 refine w.mono (fun H h => h) fun i H x H' hi h y => ?_
 obtain ⟨T, x1, y1, rfl, h1, rfl, h2, h3⟩ := y
 obtain ⟨w1, e1, q1⟩ := r.getV h2
 obtain ⟨w2, e2, q2⟩ := r'.getV h3
 refine ⟨.tup [w1, w2], ?_, .inr ⟨T, [x1, y1], [w1, w2], rfl, h1, rfl, rfl, .cons q1 (.cons q2 .nil)⟩⟩
 rw [pairW, List.getElem?_zipWith, e1, e2]
instance {t : TA} {n : Nat} {τ : TAQ} [SA c t n τ] : SI c (iZipQ K t) (iqZip τ) where
 sim {F H σ ρ ts R Qp} rl h k := SA.sim (t := t) (τ := τ) rl h fun vs ws ρ1 F1 H1 hl r1 rs q1 => by
  split at q1
  next x y =>
   cases rs with
   | cons a rs =>
    cases rs with
    | cons b rs =>
     cases rs
     obtain ⟨t, a1, us, xs, rfl, l1, s1, q2⟩ := seqW_of (H := H1) q1 a r1.fr.fh
     obtain ⟨u, a2, us', ys, rfl, l2, s2, q3⟩ := seqW_of (H := H1) q2 b r1.fr.fh
     refine ⟨t, u, a1, a2, us, us', rfl, lt_up r1.fr.fh l1, lt_up r1.fr.fh l2, k _ _ _ _ _ r1 (walk_pairW ?_ s1 s2) q3⟩
     exact walk_zipQ.mono (fun H h => ⟨lt_up h l1, lt_up h l2⟩) fun _ _ _ _ _ _ z => z
  next => exact q1.elim
def numW (n : Nat) : List W := (List.range n).map fun (i : Nat) => W.v (.int (i : Int))
def iqEnum (t : TAQ) : TIQ := fun ρ Q => t ρ fun ρ1 ws => match ws with
 | [.lst xs] => Q ρ1 (pairW (numW xs.length) xs)
 | _ => False
instance {t : TA} {n : Nat} {τ : TAQ} [SA c t n τ] : SI c (iEnum K t) (iqEnum τ) where
 sim {F H σ ρ ts R Qp} rl h k := SA.sim (t := t) (τ := τ) rl h fun vs ws ρ1 F1 H1 hl r1 rs q1 => by
  split at q1
  next xs =>
   cases rs with
   | cons a rs =>
    cases rs
    cases a with
    | @lst a us _ e r =>
     refine ⟨a, us, rfl, SqL.of (r1.fr.fh _ _ e), k _ _ _ _ _ r1 ?_ q1⟩
     have w := walk_enum (K := K) (a := a) (xs := us)
     have e3 : us.length = (pairW (numW xs.length) xs).length := by rw [pairW, List.length_zipWith, numW, List.length_map, List.length_range, r.len, Nat.min_self]
     rw [e3] at w
     refine w.mono (fun H h => SqL.of (h _ _ e)) fun i H x H' hi h y => ?_
     obtain ⟨T, x1, y1, rfl, h1, rfl, h2, h3⟩ := y
     cases h2
     obtain ⟨w2, e2, q2⟩ := r.getV h3
     refine ⟨.tup [.v (.int (i : Int)), w2], ?_, .inr ⟨T, _, _, rfl, h1, rfl, rfl, .cons (.v _) (.cons q2 .nil)⟩⟩
     have hi2 : i < xs.length := get_lt e2
     rw [pairW, List.getElem?_zipWith, e2, numW, List.getElem?_map, List.getElem?_range hi2]
     rfl
  next => exact q1.elim
theorem Rel.turn {F F1 H H' : Hp} {σ : L2.St} {ρ : List D} {ts : List (V × D)} {ws : List W} {i : Nat} {x : V} (r : Rel c F H σ ρ ts) (e : Same F1 F) (y : YW K c.b F1 ws i H x H') : ∃ w F', ws[i]? = some w ∧ Same F F' ∧ Rel c F' H' σ ρ ((x, .sh w) :: ts) := by
 obtain ⟨w, hw, ⟨rfl, rp⟩ | ⟨T, us, us', rfl, hT, rfl, rfl, rp⟩⟩ := y
 ·exact ⟨w, F, hw, Same.refl _, r.pushS (rp.mono e)⟩
 ·have fp := r.fr.fh.free hT
  exact ⟨_, _, hw, same_new fp, (r.newS (o := .tup us) hT).pushS (.tup upd_same ((rp.mono e).mono (same_new fp)))⟩
theorem EndsOk.re {E : Ends} {Eq : EQ} {F1 : Hp} (h : EndsOk c E Eq) (e0 : Same c.F0 F1) (n0 : ∀ a, c.F0 a = none → c.H0 a ≠ none → F1 a = none) : EndsOk (c.re F1) E Eq :=
 ⟨fun r => h.nx (r.unre e0 n0), fun r => h.rt (r.unre e0 n0), fun r => h.bk (r.unre e0 n0), fun r => h.ct (r.unre e0 n0)⟩
def sNext : TSQ := fun E ρ => E.nx ρ
def sSeq (t u : TSQ) : TSQ := fun E ρ => t { E with nx := u E } ρ
def sDrop (t : TQ) : TSQ := fun E ρ => t ρ fun ρ1 _ => E.nx ρ1
def sRet (t : TQ) : TSQ := fun E ρ => t ρ fun _ d => E.rt d
def sRetV (i : Nat) : TSQ := fun E ρ => match ρ[i]? with
 | some .un => False
 | some d => E.rt d
 | none => False
def sIf (t : TTQ) (a b : TSQ) : TSQ := fun E ρ => t ρ fun ρ1 k => if k = true then a E ρ1 else b E ρ1
def sNever : TSQ := fun _ _ => False
def sAsg (t : TQ) (g : TGQ) : TSQ := fun E ρ => t ρ fun ρ1 d => g d ρ1 E.nx
instance : SS c tNext sNext where
 sim {F H σ ρ E Eq} rl h k := k.nx rl h
instance {t u : TS} {τ υ : TSQ} [SS c t τ] [SS c u υ] : SS c (tSeq t u) (sSeq τ υ) where
 sim {F H σ ρ E Eq} rl h k := SS.sim (t := t) (τ := τ) (E := { E with nx := u E }) (Eq := { Eq with nx := υ Eq }) rl h ⟨fun r q => SS.sim (t := u) (τ := υ) r q k, k.rt, k.bk, k.ct⟩
instance {t : TE} {τ : TQ} [SE c t τ] : SS c (tDrop t) (sDrop τ) where
 sim {F H σ ρ E Eq} rl h k := SE.sim (t := t) rl h fun v d ρ1 F1 H1 r1 q1 => k.nx r1.pop q1
instance (priority := 100) {t : TE} {τ : TQ} [SE c t τ] [NoM c] : SS c (tRet t) (sRet τ) where
 sim {F H σ ρ E Eq} rl h k := SE.sim (t := t) rl h fun v d ρ1 F1 H1 r1 q1 => k.rt r1 (by rw [c.out_no]; exact q1)
instance (priority := 2000) {i : Nat} [NoM c] : SS c (tRet (tVar i)) (sRetV i) where
 sim {F H σ ρ E Eq} rl h k := by
  unfold sRetV at h
  split at h
  next => exact h.elim
  next d n e =>
   obtain ⟨v, h1, r1⟩ := rl.take e (fun z => n z)
   exact ⟨v, h1, k.rt r1 (by rw [c.out_no]; exact h)⟩
  next => exact h.elim
instance {tt : TT} {ta tb : TS} {τt : TTQ} {τa τb : TSQ} [ST c tt τt] [SS c ta τa] [SS c tb τb] : SS c (tIfS tt ta tb) (sIf τt τa τb) where
 sim {F H σ ρ E Eq} rl h k := ST.sim (t := tt) rl h fun b ρ1 F1 H1 r1 q1 => by
  cases b with
  | true => exact SS.sim (t := ta) r1 q1 k
  | false => exact SS.sim (t := tb) r1 q1 k
instance : SS c tNever sNever where
 sim {F H σ ρ E Eq} rl h k := h.elim
instance {t : TE} {g : TG} {τ : TQ} {sl : List Nat} {γ : TGQ} [SE c t τ] [SG c g sl γ] : SS c (tAsg t g) (sAsg τ γ) where
 sim {F H σ ρ E Eq} rl h k := SE.sim (t := t) rl h fun v d ρ1 F1 H1 r1 q1 => SG.sim (g := g) r1 q1 fun σ2 ρ2 F2 H2 r2 _ q2 => k.nx r2 q2
def sPar (i j : Nat) (a b : TQ) : TSQ := fun E ρ => i ≠ j ∧ a ρ fun ρ1 d => b ρ1 fun ρ2 e => E.nx ((ρ2.set j e).set i d)
instance {i j : Nat} {ta tb : TE} {τa τb : TQ} [SE c ta τa] [SE c tb τb] : SS c (tPar i j (tCons ta (tCons tb tNil))) (sPar i j τa τb) where
 sim {F H σ ρ E Eq} rl h k := SE.sim (t := ta) rl h.2 fun v d ρ1 F1 H1 r1 q1 => SE.sim (t := tb) r1 q1 fun u e ρ2 F2 H2 r2 q2 => ⟨v, u, rfl, by
  have r3 := (r2.store j).store i
  rw [List.set_comm _ _ h.1.symm] at r3
  exact k.nx r3 q2⟩
def qLoop (g : TGQ) (b : TSQ) (E : EQ) : List W → List D → Prop
 | [], ρ => E.nx ρ
 | w :: ws, ρ => g (.sh w) ρ fun ρ1 => b { nx := qLoop g b E ws, ct := qLoop g b E ws, bk := E.nx, rt := E.rt } ρ1
def sFor (it : TIQ) (g : TGQ) (b : TSQ) : TSQ := fun E ρ => it ρ fun ρ1 ws => qLoop g b E ws ρ1
theorem drop_cons {α : Type} {xs : List α} {i : Nat} {x : α} (h : xs[i]? = some x) : xs.drop i = x :: xs.drop (i + 1) := by
 obtain ⟨h1, h2⟩ := List.getElem?_eq_some_iff.mp h
 rw [List.drop_eq_getElem_cons h1, h2]
instance forI {wi : TI} {g : TG} {tb : TS} {τi : TIQ} {sl : List Nat} {γ : TGQ} {τb : TSQ} [SI c wi τi] [∀ F1, SG (c.re F1) g sl γ] [∀ (F1 : Hp) [ReOk c F1], SS (c.re F1) tb τb] : SS c (tFor wi g tb) (sFor τi γ τb) where
 sim {F H σ ρ E Eq} rl h k := SI.sim (t := wi) rl h fun J ws ρ1 F1 H1 r1 it q1 => by
  have e0 := r1.fr.ff
  have n0 := r1.fr.nw
  have k' := k.re e0 n0
  haveI : ReOk c F1 := ⟨e0, n0⟩
  refine for_it (G := fun H => Same F1 H) it (fun i σ H => ∃ F ρ, Rel (c.re F1) F H σ ρ [] ∧ qLoop γ τb Eq (ws.drop i) ρ) ⟨F1, ρ1, r1.re (Same.refl _) e0, q1⟩ (fun i σ H _ ⟨F, ρ, r, _⟩ => r.fr.ff.trans r.fr.fh) (fun i x σ H H' hi ⟨F, ρ, r, q⟩ y => ?_) (fun σ H ⟨F, ρ, r, q⟩ => ?_)
  ·obtain ⟨w, F', hw, e, r'⟩ := r.turn r.fr.ff y
   rw [drop_cons hw] at q
   refine SG.sim (c := c.re F1) (g := g) r' q fun σ2 ρ2 F2 H2 r2 _ q2 => ?_
   exact SS.sim (c := c.re F1) (t := tb) r2 q2 ⟨fun r q => ⟨_, _, r, q⟩, k'.rt, fun r q => k'.nx r q, fun r q => ⟨_, _, r, q⟩⟩
  ·rw [List.drop_length] at q
   exact k'.nx r q
def wipeD (ρ : List D) : List Nat → List D
 | [] => ρ
 | v :: vs => (wipeD ρ vs).set v .un
theorem Rel.wipe {F H : Hp} {σ : L2.St} {ρ : List D} {ts : List (V × D)} (r : Rel c F H σ ρ ts) : ∀ vs : List Nat, Rel c F H (L2.wipe σ vs) (wipeD ρ vs) ts
 | [] => r
 | v :: vs => (r.wipe vs).forget v none
def keepSh : D → D
 | .sh w => .sh w
 | _ => .un
def mrg (ρ ρ' : List D) : List Nat → List D
 | [] => ρ'
 | v :: vs => (mrg ρ ρ' vs).set v (match ρ[v]? with | some d => keepSh d | none => .un)
def qLcL (g : TGQ) (tt : TTQ) (te : TQ) (vs : List Nat) (k : List D → List W → Prop) : List W → List D → List W → Prop
 | [], ρ, acc => k ρ acc
 | w :: ws, ρ, acc => g (.sh w) ρ fun ρ1 => tt ρ1 fun ρ2 b => if b = true then te ρ2 fun ρ3 d => lookD d fun w => qLcL g tt te vs k ws (wipeD ρ3 vs) (acc ++ [w]) else qLcL g tt te vs k ws (wipeD ρ2 vs) acc
def qLc (it : TIQ) (g : TGQ) (tt : TTQ) (te : TQ) (vs : List Nat) : TQ := fun ρ Q => it ρ fun ρ1 ws => ws.length ≤ 100000 ∧ qLcL g tt te vs (fun ρ2 acc => Q (mrg ρ1 ρ2 vs) (.lst acc)) ws (wipeD ρ1 vs) []
class Within (sl vs : List Nat) : Prop where
 sub : ∀ i ∈ sl, i ∈ vs
instance {vs : List Nat} : Within [] vs := ⟨fun _ h => nomatch h⟩
class MemN (i : Nat) (vs : List Nat) : Prop where
 mem : i ∈ vs
instance (priority := 2000) {i : Nat} {vs : List Nat} : MemN i (i :: vs) := ⟨List.mem_cons_self⟩
instance (priority := 100) {i j : Nat} {vs : List Nat} [h : MemN i vs] : MemN i (j :: vs) := ⟨List.mem_cons_of_mem _ h.mem⟩
instance {i : Nat} {sl vs : List Nat} [h : MemN i vs] [k : Within sl vs] : Within (i :: sl) vs := ⟨fun j hj => by
 rcases List.mem_cons.mp hj with e | hj
 ·rw [e]; exact h.mem
 ·exact k.sub j hj⟩
theorem Rel.unwipe {F1 H1 F H : Hp} {σ : L2.St} {ρ1 ρ : List D} {ts ts' : List (V × D)} (r1 : Rel c F1 H1 σ ρ1 ts') (e : Same F1 F) (vs : List Nat) (r : Rel c F H (L2.wipe σ vs) ρ ts) : Rel c F H σ (mrg ρ1 ρ vs) ts := by
 obtain ⟨om, o, s, t⟩ := r.ex
 have hl : ∀ vs : List Nat, (mrg ρ1 ρ vs).length = ρ.length := fun vs => by
  induction vs with
  | nil => rfl
  | cons v vs ih => rw [mrg, List.length_set, ih]
 have hg : ∀ (vs : List Nat) (i : Nat) d, (mrg ρ1 ρ vs)[i]? = some d → (i ∈ vs ∧ (d = .un ∨ ∃ w, d = .sh w ∧ ρ1[i]? = some (.sh w))) ∨ (i ∉ vs ∧ ρ[i]? = some d) := fun vs => by
  induction vs with
  | nil => intro i d h; exact .inr ⟨(fun z => nomatch z), h⟩
  | cons v vs ih =>
   intro i d h
   rw [mrg] at h
   by_cases hv : v = i
   ·subst hv
    have hlt := get_lt h
    rw [List.length_set] at hlt
    rw [List.getElem?_set_self hlt] at h
    refine .inl ⟨List.mem_cons_self, ?_⟩
    cases e1 : ρ1[v]? with
    | none => rw [e1] at h; cases h; exact .inl rfl
    | some d1 =>
     rw [e1] at h
     cases d1 with
     | sh w => cases h; exact .inr ⟨w, rfl, rfl⟩
     | _ => cases h; exact .inl rfl
   ·rw [List.getElem?_set_ne hv] at h
    rcases ih i d h with ⟨m, q⟩ | ⟨m, q⟩
    ·exact .inl ⟨List.mem_cons_of_mem _ m, q⟩
    ·exact .inr ⟨(by simp only [List.mem_cons, not_or]; exact ⟨(fun z => hv z.symm), m⟩), q⟩
 refine ⟨r.fr, by rw [hl, ← r.len, wipe_length], om, o, fun i d h => ?_, t⟩
 rcases hg vs i d h with ⟨_, q⟩ | ⟨m, q⟩
 ·rcases q with q | ⟨w, rfl, q⟩
  ·exact .inl q
  ·obtain ⟨v, h1, h2⟩ := r1.slotS q
   exact .inr ⟨v, h1, .sh (h2.mono e)⟩
 ·rcases s i d q with z | ⟨v, h1, h2⟩
  ·exact .inl z
  ·rw [wipe_get, if_neg m] at h1
   exact .inr ⟨v, h1, h2⟩
instance {wi : TI} {g : TG} {tt : TT} {te : TE} {vs : List Nat} {τi : TIQ} {sl : List Nat} {γ : TGQ} {τt : TTQ} {τe : TQ} [SI c wi τi] [∀ F1, SG (c.re F1) g sl γ] [∀ F1, ST (c.re F1) tt τt] [∀ F1, SE (c.re F1) te τe] [z : Within sl vs] : SE c (tLc wi g tt te vs) (qLc τi γ τt τe vs) where
 sim {F H σ ρ ts Q Qp} rl h k := SI.sim (t := wi) rl h fun J ws ρ1 F1 H1 r1 it q1 => by
  intro L hL
  obtain ⟨hz, q1⟩ := q1
  have e0 := r1.fr.ff
  have n0 := r1.fr.nw
  let kk : List D → List W → Prop := fun ρ2 acc => Qp (mrg ρ1 ρ2 vs) (.lst acc)
  refine lc_it (G := fun H => Same F1 H) it (fun i H => ∃ F ρ acc, Rel (c.re F1) F H (L2.wipe σ vs) ρ ((.ref L, .lst acc) :: ts) ∧ acc.length ≤ i ∧ qLcL γ τt τe vs kk (ws.drop i) ρ acc) ?_ (fun i H _ ⟨F, ρ, acc, r, _⟩ => r.fr.ff.trans r.fr.fh) (fun i x H H' hi ⟨F, ρ, acc, r, ha, q⟩ y => ?_) (fun H ⟨F, ρ, acc, r, ha, q⟩ => ?_)
  ·exact ⟨F1, _, [], (((r1.wipe vs).re (Same.refl _) e0).newO (o := .lst []) hL (own_lst .nil)), Nat.zero_le _, q1⟩
  ·obtain ⟨w, F', hw, e, r'⟩ := r.turn r.fr.ff y
   rw [drop_cons hw] at q
   refine SG.sim (c := c.re F1) (g := g) r' q fun σ2 ρ2 F2 H2 r2 o2 q2 => ?_
   have hwp : L2.wipe σ2 vs = L2.wipe σ vs := by
    rw [o2 vs z.sub]
    apply List.ext_getElem?
    intro j
    rw [wipe_get, wipe_get]
    by_cases hj : j ∈ vs
    ·rw [if_pos hj, if_pos hj]
     cases σ[j]? <;> rfl
    ·rw [if_neg hj, if_neg hj]
   refine ⟨hwp, ST.sim (c := c.re F1) (t := tt) r2 q2 fun b ρ3 F3 H3 r3 q3 => ?_⟩
   cases b with
   | false => exact ⟨F3, _, acc, by rw [← hwp]; exact r3.wipe vs, by omega, q3⟩
   | true =>
    refine SE.simW (c := c.re F1) (t := te) r3 q3 fun v w ρ4 F4 H4 r4 q4 => ?_
    have rv := r4.topS
    have r5 := r4.pop
    obtain ⟨S, o5⟩ := r5.top
    cases o5 with
    | @lst _ _ us _ s0 m hx rr =>
     refine ⟨us, hx, ?_, F4, _, acc ++ [w], ?_, ?_, q4⟩
     ·rw [rr.len, sizeLine_eq]; omega
     ·rw [← hwp]
      refine Rel.wipe (Rel.mutT (d' := .lst (acc ++ [w])) r5 fun T o => ?_) vs
      cases o with
      | lst s0' m' hx' rr' =>
       rw [hx] at hx'
       cases hx'
       exact ⟨s0', .lst s0' m' upd_same (rr'.app (.cons rv .nil))⟩
     ·rw [List.length_append]; simp; omega
  ·rw [List.drop_length] at q
   have r2 := Rel.unwipe (c := c.re F1) (r1.re (Same.refl _) e0) r.fr.ff vs r
   exact k _ _ _ _ _ (r2.unre e0 n0) q
end
end R
namespace R
open PySem PySem.Spec PyProof.Rows L2 G
abbrev PF := List W → (D → Prop) → Prop
def cx0 {K : PySem.W.Frag} (b : Addr) (F H : Hp) : Cx K := ⟨b, fun _ => False, F, H, false, false⟩
instance {K : PySem.W.Frag} {b : Addr} {F H : Hp} : NoM (cx0 (K := K) b F H) := ⟨fun _ z => z, rfl, rfl⟩
instance {K : PySem.W.Frag} {c : Cx K} [z : NoM c] {F1 : Hp} : NoM (c.re F1) := ⟨z.no, z.sf, z.pk⟩
def SpP (K : PySem.W.Frag) (n : Nat) (f : PF) : Sp := fun vs H Q _ => ∃ (b : Addr) (F : Hp) (ws : List W) (Qp : D → Prop), BagOk b H ∧ F b = none ∧ Same F H ∧ RepL K b F vs ws ∧ ws.length = n ∧ f ws Qp ∧
 ∀ v d F' H' σ ρ, Rel (cx0 (K := K) b F H) F' H' σ ρ [(v, d)] → Qp d → Q v H'
def runF (τ : TSQ) (m : Nat) : PF := fun ws Q => τ { nx := fun _ => Q .non, rt := Q } (ws.map D.sh ++ List.replicate m .un)
section
variable {K : PySem.W.Frag} {c : Cx K}
theorem Ow.recx {c' : Cx K} {F H : Hp} {S : Addr → Prop} {v : V} {d : D} (hk : c'.pk = false) (h : Ow c' F H S v d) : ∀ {S' : Addr → Prop}, c'.b = c.b → (∀ a, S a → S' a) → (∀ a, S a → ¬ c.M a) → (∀ a, ¬ c'.M a) → Ow c F H S' v d := by
 induction h with
 | sh r => intro S' hb s m n; exact .sh (by rw [← hb]; exact r)
 | lst s0 m h r => intro S' hb s k n; exact .lst (s _ s0) (k _ s0) h (by rw [← hb]; exact r)
 | dic s0 m h l r => intro S' hb s k n; exact .dic (s _ s0) (k _ s0) h l (by rw [← hb]; exact r)
 | dit s0 m h l r => intro S' hb s k n; exact .dit (s _ s0) (k _ s0) h l (by rw [← hb]; exact r)
 | obj s0 m h l r => intro S' hb s k n; exact .obj (s _ s0) (k _ s0) h l (by rw [← hb]; exact r)
 | set s0 m h => intro S' hb s k n; exact .set (s _ s0) (k _ s0) h
 | ntup cm s0 m h l _ ih => intro S' hb s k n; exact .ntup cm (s _ s0) (k _ s0) h l fun j v d h1 h2 => ih j v d h1 h2 hb (fun a q => ⟨s a q.1, q.2⟩) (fun a q => k a q.1) n
 | nlst cm s0 m h l _ ih => intro S' hb s k n; exact .nlst cm (s _ s0) (k _ s0) h l fun j v d h1 h2 => ih j v d h1 h2 hb (fun a q => ⟨s a q.1, q.2⟩) (fun a q => k a q.1) n
 | nobj cm s0 m h l l2 _ ih => intro S' hb s k n; exact .nobj cm (s _ s0) (k _ s0) h l l2 fun j v d h1 h2 => ih j v d h1 h2 hb (fun a q => ⟨s a q.1, q.2⟩) (fun a q => k a q.1) n
 | kt p h => rw [hk] at p; cases p
 | lstP s0 m h r => intro S' hb s k n; exact .lstP (s _ s0) (k _ s0) h (by rw [← hb]; exact r)
 | ditP s0 m h l r => intro S' hb s k n; exact .ditP (s _ s0) (k _ s0) h l (by rw [← hb]; exact r)
 | mobj s0 m h l r => intro S' hb s k n; exact absurd m (n _)
 | raw s0 m h => intro S' hb s k n; exact .raw (s _ s0) (k _ s0) h
 | un => intro S' hb s k n; exact .un
theorem Rel.ret {F H F' H' : Hp} {σ σ' : L2.St} {ρ ρ' : List D} {ts : List (V × D)} {v : V} {d : D} (r : Rel c F H σ ρ ts) (q : Rel (cx0 (K := K) c.b F H) F' H' σ' ρ' [(v, d)]) : Rel c F' H' σ ρ ((v, d) :: ts) := by
 obtain ⟨om, o, s, t⟩ := r.ex
 obtain ⟨om', o', s', t', _⟩ := q.ex
 have kp : ∀ a u, H a = some u → a ≠ c.b → H' a = some u := fun a u h n => q.fr.kp a u h n (fun z => z)
 have nn : ∀ a j, om' a = some j → H a = none := fun a j h => by
  rcases o'.mn a j h with z | z
  ·exact z
  ·exact z.elim
 have sep : ∀ a i, om a = some i → om' a ≠ some (.inr 0) := fun a i h z => o.th a i h (nn a _ z)
 have fr : Fr c F' H' := by
  obtain ⟨x, b0, b1, nm⟩ := r.fr.bg
  obtain ⟨y, b2, b3, _⟩ := q.fr.bg
  have e := b1.uniq b2
  subst e
  refine ⟨⟨x, b0, b3, nm⟩, q.fr.fb, r.fr.ff.trans q.fr.ff, q.fr.fh, fun a h1 h2 => q.fr.nw a (r.fr.nw a h1 h2) (r.fr.al a h2), fun a u h1 h2 h3 => kp a u (r.fr.kp a u h1 h2 h3) h2, fun a h => q.fr.al a (r.fr.al a h), r.fr.nm⟩
 refine ⟨fr, r.len, fun a => if om' a = some (.inr 0) then some (.inr ts.length) else om a, ⟨fun a i h => ?_, fun a i h => ?_, fun a i h => ?_, fun a i h => ?_⟩, fun i d h => (s i d h).mono q.fr.ff (fun a u z e => kp a u e (o.nb a _ z)) fun a z => ?_, t'.recx rfl rfl (fun a z => ?_) (fun a z => ?_) (fun a z => z), t.mono q.fr.ff (fun a j u _ z e => kp a u e (o.nb a _ z)) fun a j _ z => ?_⟩
 ·try dsimp only at h
  split at h
  next z => exact o'.nb a _ z
  next z => exact o.nb a i h
 ·try dsimp only at h
  split at h
  next z => exact o'.nf a _ z
  next z => exact q.fr.nw a (o.nf a i h) (o.th a i h)
 ·try dsimp only at h
  split at h
  next z => exact o'.th a _ z
  next z => exact q.fr.al a (o.th a i h)
 ·try dsimp only at h
  split at h
  next z => exact .inl (r.fr.h0 (nn a _ z))
  next z => exact o.mn a i h
 ·try dsimp only
  rw [if_neg (sep a _ z)]; exact z
 ·try dsimp only
  rw [if_pos (show om' a = some (.inr 0) from z)]
 ·exact r.fr.nm (r.fr.h0 (nn a _ z))
 ·try dsimp only
  rw [if_neg (sep a _ z)]; exact z
theorem Fr.bag {F H : Hp} (f : Fr c F H) : BagOk c.b H := by
 obtain ⟨x, _, h, _⟩ := f.bg
 exact ⟨x, h⟩
def qCall (f : PF) (n : Nat) (t : TAQ) : TQ := fun ρ Q => t ρ fun ρ1 ws => f ws fun d => Q ρ1 d
instance {f : PF} {E : XK} {t : TA} {n : Nat} {τ : TAQ} [SA c t n τ] : SE c (tCall (SpP K n f) [] E t) (qCall f n τ) where
 sim {F H σ ρ ts Q Qp} rl h k := SA.sim (t := t) rl h fun vs ws ρ1 F1 H1 hl r1 rs q1 => ⟨c.b, F1, ws, fun d => Qp ρ1 d, r1.fr.bag, r1.fr.fb, r1.fr.fh, by rw [List.append_nil]; exact rs, by rw [← rs.len]; exact hl, q1, fun v d F' H' σ' ρ' r2 q2 => k _ _ _ _ _ (r1.ret r2) q2⟩
def isObj (C : Addr) (m : Str) (w : W) (k : Prop) : Prop := match w with
 | .obj C' fs _ => (C' = C ∧ fs.contains m = false) ∧ k
 | _ => False
def qMeth (C : Addr) (m : Str) (f : PF) (n : Nat) (ta : TQ) (t : TAQ) : TQ := fun ρ Q => ta ρ fun ρ1 d => lookD d fun w => isObj C m w (t ρ1 fun ρ2 ws => f (w :: ws) fun d => Q ρ2 d)
theorem lookup_none {fs : List Str} {us : List V} {m : Str} (h : fs.contains m = false) : (fs.zip us).lookup m = none := by
 induction fs generalizing us with
 | nil => rfl
 | cons a fs ih =>
  cases us with
  | nil => rfl
  | cons u us =>
   rw [List.contains_cons, Bool.or_eq_false_iff] at h
   rw [List.zip_cons_cons, List.lookup_cons, h.1]
   exact ih h.2
theorem isObj_of {C : Addr} {m : Str} {F H : Hp} {v : V} {w : W} {k : Prop} (h : isObj C m w k) (r : Rep K c.b F v w) (e : Same F H) : ∃ a dx fs, v = .ref a ∧ H a = some (.ins C dx fs) ∧ fs.lookup m = none ∧ k := by
 unfold isObj at h
 split at h
 next C' fs ws =>
  obtain ⟨⟨rfl, hm⟩, h⟩ := h
  cases r with
  | obj e1 l r => exact ⟨_, _, _, rfl, e _ _ e1, lookup_none hm, h⟩
 next => exact h.elim
instance {C : Addr} {m : Str} {f : PF} {E : XK} {ta : TE} {t : TA} {n : Nat} {τa : TQ} {τ : TAQ} [SE c ta τa] [SA c t n τ] : SE c (tMeth C m (SpP K (n + 1) f) [] E ta t) (qMeth C m f n τa τ) where
 sim {F H σ ρ ts Q Qp} rl h k := SE.simW (t := ta) (Qp := fun ρ1 w => isObj C m w (τ ρ1 fun ρ2 ws => f (w :: ws) fun d => Qp ρ2 d)) rl h fun v w ρ1 F1 H1 r1 q1 => by
  obtain ⟨a, dx, fs, rfl, h1, h2, q⟩ := isObj_of q1 r1.topS r1.fr.fh
  refine ⟨a, dx, fs, rfl, h1, h2, SA.sim (t := t) r1 q fun vs ws ρ2 F2 H2 hl r2 rs q2 => ?_⟩
  exact ⟨c.b, F2, w :: ws, fun d => Qp ρ2 d, r2.fr.bag, r2.fr.fb, r2.fr.fh, by rw [List.append_nil]; exact .cons r2.topS rs, by rw [List.length_cons, ← rs.len, hl], q2, fun v d F' H' σ' ρ' r3 q3 => k _ _ _ _ _ (r2.pop.ret r3) q3⟩
theorem get_start {vs : List V} {m i : Nat} {v : V} (h : vs[i]? = some v) : (vs.map some ++ List.replicate m (none : Option V))[i]? = some (some v) := by
 have hl := get_lt h
 rw [List.getElem?_append_left (by rw [List.length_map]; exact hl), List.getElem?_map, h]
 rfl
theorem Rel.start {b : Addr} {F H : Hp} {vs : List V} {ws : List W} {m : Nat} (hb : BagOk b H) (fb : F b = none) (fh : Same F H) (rs : RepL K b F vs ws) : Rel (cx0 (K := K) b F H) F H (vs.map some ++ List.replicate m none) (ws.map D.sh ++ List.replicate m .un) [] := by
 obtain ⟨x, hx⟩ := hb
 refine ⟨⟨⟨x, hx, hx, fun z => z⟩, fb, Same.refl _, fh, fun a h _ => h, fun a o h _ _ => h, fun a h => h, fun _ z => z⟩, ?_, fun _ => none, ⟨(fun a i h => nomatch h), (fun a i h => nomatch h), (fun a i h => nomatch h), (fun a i h => nomatch h)⟩, fun i d h => ?_, trivial⟩
 ·rw [List.length_append, List.length_append, List.length_map, List.length_map, List.length_replicate, List.length_replicate, rs.len]
 ·by_cases hi : i < ws.length
  ·rw [List.getElem?_append_left (by rw [List.length_map]; exact hi), List.getElem?_map] at h
   cases e : ws[i]? with
   | none => rw [e] at h; cases h
   | some w =>
    rw [e] at h
    cases h
    obtain ⟨v, hv, r⟩ := rs.get e
    exact .inr ⟨v, get_start hv, .sh r⟩
  ·rw [List.getElem?_append_right (by rw [List.length_map]; omega)] at h
   have := List.mem_of_getElem? h
   rw [List.mem_replicate] at this
   exact .inl this.2
theorem start_eq {N : List Str} {vs : List V} {m : Nat} (h : N.length = vs.length + m) : L2.start N vs = vs.map some ++ List.replicate m none := by
 unfold L2.start
 rw [show N.length - vs.length = m by omega]
theorem SpP.len {n : Nat} {f : PF} {vs : List V} {H : Hp} {Q : VK} {E : XK} (h : SpP K n f vs H Q E) : vs.length = n := by
 obtain ⟨b, F, ws, Qp, _, _, _, r, l, _⟩ := h
 rw [r.len, l]
theorem SpP.run {n m : Nat} {τ : TSQ} {N : List Str} {vs : List V} {H : Hp} {Q : VK} {E : XK} {t : TS} (hm : N.length = n + m) (h : SpP K n (runF τ m) vs H Q E) (s : ∀ (c : Cx K) [NoM c], SS c t τ) : t { nx := fun _ H' => Q .non H', rt := Q } (L2.start N vs) H := by
 have hl := h.len
 obtain ⟨b, F, ws, Qp, hb, fb, fh, rs, l, q, k⟩ := h
 rw [start_eq (m := m) (by rw [hl]; exact hm)]
 exact (s _).sim (Rel.start hb fb fh rs) q ⟨fun r z => k _ _ _ _ _ _ (r.pushS (.v .non)) z, fun r z => k _ _ _ _ _ _ r z, fun _ z => z, fun _ z => z⟩
end
section
variable {P : Program} {w : World} {K : PySem.W.Frag} {mg : Str → Option Value} {base : Heap} {k : Nat} {x : Str} {ps N : List Str} {st : Stmt} {τ : TSQ}
theorem defR {n : Nat} (D : Def K mg x st ps) (S : FnScope N ps (defScope st)) (m : Nat) (hn : ps.length = n) (hm : N.length = n + m)
  (bd : ∀ (f : Addr) (cdv : Value) (A : Around) (out : List Env) (s : Shared) (H : Hp) (E : XK), Room k (A.deeper (envOfC x (defScope st) s.heap.objs.size f cdv)) →
   ∃ t, PSs (cxOf CX0 P w K mg base N x (defScope st) f cdv A out s H E).nox (defBody st) t ∧ ∀ (c : Cx K) [NoM c], SS c t τ) : Cal P w K mg base CX0 (k + 1) x ps (SpP K n (runF τ m)) :=
 D.ok S (fun vs H Q E h => by rw [h.len, hn]) fun f cdv A out s H vs Q E hr h => by
  obtain ⟨t, ht, hs⟩ := bd f cdv A out s H E hr
  exact ⟨t, ht, h.run hm hs⟩
theorem defRG {n : Nat} (D : Def K mg x st ps) (S : FnScope N ps (defScope st)) (m : Nat) (hn : ps.length = n) (hm : N.length = n + m)
  (bd : ∀ (f : Addr) (cdv : Value) (A : Around) (out : List Env) (s : Shared) (H : Hp) (E : XK), A.guards = some [] → Room k (A.deeper (envOfC x (defScope st) s.heap.objs.size f cdv)) →
   ∃ t, PSs (cxOf CX0 P w K mg base N x (defScope st) f cdv A out s H E).nox (defBody st) t ∧ ∀ (c : Cx K) [NoM c], SS c t τ) : CalG P w K mg base CX0 (k + 1) x ps (SpP K n (runF τ m)) :=
 D.okG S (fun vs H Q E h => by rw [h.len, hn]) fun f cdv A out s H vs Q E hg hr h => by
  obtain ⟨t, ht, hs⟩ := bd f cdv A out s H E hg hr
  exact ⟨t, ht, h.run hm hs⟩
theorem mdefR {n : Nat} {C : Addr} {q : Str} (D : MDef K C x q st ps) (S : FnScope N ps (defScope st)) (m : Nat) (hn : ps.length = n) (hm : N.length = n + m)
  (bd : ∀ (f : Addr) (cdv : Value) (A : Around) (out : List Env) (s : Shared) (H : Hp) (E : XK), Room k (A.deeper (envOfC q (defScope st) s.heap.objs.size f cdv)) →
   ∃ t, PSs (cxOf CX0 P w K mg base N q (defScope st) f cdv A out s H E).nox (defBody st) t ∧ ∀ (c : Cx K) [NoM c], SS c t τ) : MCal P w K mg base CX0 (k + 1) C x ps (SpP K n (runF τ m)) :=
 D.ok S (fun vs H Q E h => by rw [h.len, hn]) fun f cdv A out s H vs Q E hr h => by
  obtain ⟨t, ht, hs⟩ := bd f cdv A out s H E hr
  exact ⟨t, ht, h.run hm hs⟩
end
end R
namespace R
open PySem PySem.Spec PyProof.Rows L2 G
abbrev PI0 := List W → (List Str → List W → Prop) → Prop
def cxI {K : PySem.W.Frag} (b x : Addr) (F H : Hp) : Cx K := ⟨b, fun a => a = x, F, H, false, false⟩
def SpI (K : PySem.W.Frag) (C : Addr) (n : Nat) (f : PI0) : Sp := fun vs H Q _ => ∃ (b x dx : Addr) (F : Hp) (us : List V) (ws : List W) (Qp : List Str → List W → Prop), vs = .ref x :: us ∧ H x = some (.ins C dx []) ∧ F x = none ∧ BagOk b H ∧ F b = none ∧ Same F H ∧ RepL K b F us ws ∧ ws.length = n ∧ f ws Qp ∧
 ∀ fs zs F' H' σ ρ, Rel (cxI (K := K) b x F H) F' H' σ ρ [(.ref x, .mobj C fs zs)] → Qp fs zs → Q .non H'
def endI (C : Addr) (Q : List Str → List W → Prop) (ρ : List D) : Prop := match (ρ[0]? : Option D) with
 | some (.mobj C' fs zs) => C' = C ∧ Q fs zs
 | _ => False
def runI (C : Addr) (τ : TSQ) (m : Nat) : PI0 := fun ws Q => τ { nx := endI C Q, rt := fun _ => False } (.mobj C [] [] :: (ws.map D.sh ++ List.replicate m .un))
section
variable {K : PySem.W.Frag} {c : Cx K}
theorem Rel.startI {b x dx C : Addr} {F H : Hp} {us : List V} {ws : List W} {m : Nat} (hx : H x = some (.ins C dx [])) (fx : F x = none) (hb : BagOk b H) (fb : F b = none) (fh : Same F H) (rs : RepL K b F us ws) :
  Rel (cxI (K := K) b x F H) F H ((V.ref x :: us).map some ++ List.replicate m none) (.mobj C [] [] :: (ws.map D.sh ++ List.replicate m .un)) [] := by
 obtain ⟨y, hy⟩ := hb
 have nb : x ≠ b := fun z => by
  obtain ⟨_, _, _, _, h1, _⟩ := hy
  rw [← z, hx] at h1; cases h1
 have ny : y ≠ x := fun z => by
  obtain ⟨_, _, _, _, _, h1, _⟩ := hy
  rw [z, hx] at h1; cases h1
 have r0 := Rel.start (m := m) (K := K) ⟨y, hy⟩ fb fh rs
 obtain ⟨om, o, s, t⟩ := r0.ex
 refine ⟨⟨⟨y, hy, hy, ny⟩, fb, Same.refl _, fh, fun a h _ => h, fun a o h _ _ => h, fun a h => h, fun {a} h z => by have h' : H a = none := h; rw [show a = x from z, hx] at h'; cases h'⟩, ?_, fun a => if a = x then some (.inl 0) else none, ⟨fun a i h => ?_, fun a i h => ?_, fun a i h => ?_, fun a i h => ?_⟩, fun i d h => ?_, trivial⟩
 ·have := r0.len
  simp only [List.map_cons, List.cons_append, List.length_cons, List.length_append, List.length_map, List.length_replicate] at this ⊢
  omega
 ·split at h
  next z => rw [z]; exact nb
  next => cases h
 ·split at h
  next z => rw [z]; exact fx
  next => cases h
 ·split at h
  next z => rw [z, hx]; exact fun z => nomatch z
  next => cases h
 ·split at h
  next z => exact .inr z
  next => cases h
 ·cases i with
  | zero => cases h; exact .inr ⟨.ref x, rfl, .mobj (us := []) (if_pos rfl) rfl hx rfl .nil⟩
  | succ i =>
   have h' : (ws.map D.sh ++ List.replicate m .un)[i]? = some d := h
   have hi := List.mem_of_getElem? h'
   rcases s i d h' with q | ⟨v, h1, h2⟩
   ·exact .inl q
   ·refine .inr ⟨v, h1, ?_⟩
    rcases List.mem_append.mp hi with hm | hm
    ·obtain ⟨w, _, rfl⟩ := List.mem_map.mp hm
     cases h2 with | sh r => exact .sh r
    ·rw [(List.mem_replicate.mp hm).2]; exact .un
theorem SpI.len {C : Addr} {n : Nat} {f : PI0} {vs : List V} {H : Hp} {Q : VK} {E : XK} (h : SpI K C n f vs H Q E) : vs.length = n + 1 := by
 obtain ⟨b, x, dx, F, us, ws, Qp, rfl, _, _, _, _, _, r, l, _⟩ := h
 rw [List.length_cons, r.len, l]
theorem SpI.run {C : Addr} {n m : Nat} {τ : TSQ} {N : List Str} {vs : List V} {H : Hp} {Q : VK} {E : XK} {t : TS} (hm : N.length = (n + 1) + m) (h : SpI K C n (runI C τ m) vs H Q E) (s : ∀ c : Cx K, SS c t τ) : t { nx := fun _ H' => Q .non H', rt := Q } (L2.start N vs) H := by
 have hl := h.len
 obtain ⟨b, x, dx, F, us, ws, Qp, rfl, hx, fx, hb, fb, fh, rs, l, q, k⟩ := h
 rw [start_eq (m := m) (by rw [hl]; exact hm)]
 refine (s _).sim (Eq := { nx := endI C Qp, rt := fun _ => False }) (Rel.startI hx fx hb fb fh rs) q ⟨fun r z => ?_, fun r z => z.elim, fun _ z => z, fun _ z => z⟩
 unfold endI at z
 try dsimp only at z
 split at z
 next C' fs zs e =>
  obtain ⟨rfl, z⟩ := z
  obtain ⟨v, h1, r1⟩ := r.take e (fun z => nomatch z)
  obtain ⟨S, o⟩ := r1.top
  cases o with
  | mobj s0 m h l rr =>
   obtain rfl : _ = x := m
   exact k _ _ _ _ _ _ r1 z
 next => exact z.elim
theorem Rel.made {F H F' H' : Hp} {σ σ' : L2.St} {ρ ρ' : List D} {ts : List (V × D)} {x dx C : Addr} {fs : List Str} {zs : List W} (r : Rel c F H σ ρ ts) (hx : H x = none) (hdx : H dx = none) (ne : dx ≠ x)
  (q : Rel (cxI (K := K) c.b x F (upd (upd H dx (.own x)) x (.ins C dx []))) F' H' σ' ρ' [(.ref x, .mobj C fs zs)]) : Rel c F' H' σ ρ ((.ref x, .obj C fs zs) :: ts) := by
 obtain ⟨om, o, s, t⟩ := r.ex
 have e1 : Same H (upd (upd H dx (.own x)) x (.ins C dx [])) := fun a u e => by rw [upd_ne (ne_of_none e hx), upd_ne (ne_of_none e hdx)]; exact e
 have kp : ∀ a u, H a = some u → a ≠ c.b → H' a = some u := fun a u h n => q.fr.kp a u (e1 _ _ h) n (ne_of_none h hx)
 have al : ∀ a, H a ≠ none → H' a ≠ none := fun a h => q.fr.al a fun z => h (e1.free z)
 have ox : ∃ (dx : Addr) (us : List V), H' x = some (.ins C dx (fs.zip us)) ∧ us.length = fs.length ∧ RepL K c.b F' us zs := by
  obtain ⟨S, o⟩ := q.top
  cases o with | mobj s0 m h l rr => exact ⟨_, _, h, l, rr⟩
 obtain ⟨dx', us, hx', hl, rr⟩ := ox
 have fx : F' x = none := by
  obtain ⟨om', o', s', t', _⟩ := q.ex
  cases t' with | mobj s0 m h l rr => exact o'.nf _ _ s0
 have fr : Fr c F' H' := by
  obtain ⟨y, b0, b1, nm⟩ := r.fr.bg
  obtain ⟨z, b2, b3, _⟩ := q.fr.bg
  have e := (b1.up e1).uniq b2
  subst e
  refine ⟨⟨y, b0, b3, nm⟩, q.fr.fb, r.fr.ff.trans q.fr.ff, q.fr.fh, fun a h1 h2 => q.fr.nw a (r.fr.nw a h1 h2) fun z => r.fr.al a h2 (e1.free z), fun a u h1 h2 h3 => kp a u (r.fr.kp a u h1 h2 h3) h2, fun a h => al a (r.fr.al a h), r.fr.nm⟩
 have nb : x ≠ c.b := by obtain ⟨y, _, b1, _⟩ := r.fr.bg; exact (BagC.ne b1 hx).1
 have nx : ∀ a i, om a = some i → a ≠ x := fun a i h z => o.th a i h (by rw [z]; exact hx)
 refine ⟨fr, r.len, fun a => if a = x then some (.inr ts.length) else om a, ⟨fun a i h => ?_, fun a i h => ?_, fun a i h => ?_, fun a i h => ?_⟩, fun i d h => (s i d h).mono q.fr.ff (fun a u z e => kp a u e (o.nb a _ z)) fun a z => ?_, .obj (if_pos rfl) (r.fr.nm (r.fr.h0 hx)) hx' hl rr, t.mono q.fr.ff (fun a j u _ z e => kp a u e (o.nb a _ z)) fun a j _ z => ?_⟩
 ·split at h
  next z => rw [z]; exact nb
  next z => exact o.nb a i h
 ·split at h
  next z => rw [z]; exact fx
  next z => exact q.fr.nw a (o.nf a i h) fun z => o.th a i h (e1.free z)
 ·split at h
  next z => rw [z, hx']; exact fun z => nomatch z
  next z => exact al a (o.th a i h)
 ·split at h
  next z => rw [z]; exact .inl (r.fr.h0 hx)
  next z => exact o.mn a i h
 ·try dsimp only
  rw [if_neg (nx a _ z)]; exact z
 ·try dsimp only
  rw [if_neg (nx a _ z)]; exact z
def qMake (C : Addr) (f : PI0) (t : TAQ) : TQ := fun ρ Q => t ρ fun ρ1 ws => f ws fun fs zs => Q ρ1 (.obj C fs zs)
instance {C : Addr} {f : PI0} {E : XK} {t : TA} {n : Nat} {τ : TAQ} [SA c t n τ] : SE c (tMake C (SpI K C n f) [] E t) (qMake C f τ) where
 sim {F H σ ρ ts Q Qp} rl h k := SA.sim (t := t) rl h fun vs ws ρ1 F1 H1 hl r1 rs q1 => fun x dx hx hdx ne => by
  have e1 : Same H1 (upd (upd H1 dx (.own x)) x (.ins C dx [])) := fun a u e => by rw [upd_ne (ne_of_none e hx), upd_ne (ne_of_none e hdx)]; exact e
  refine ⟨c.b, x, dx, F1, vs, ws, fun fs zs => Qp ρ1 (.obj C fs zs), by rw [List.append_nil], upd_same, r1.fr.fh.free hx, r1.fr.bag.up e1, r1.fr.fb, r1.fr.fh.trans e1, rs, by rw [← rs.len]; exact hl, q1, fun fs zs F' H' σ' ρ' r2 q2 => ⟨rfl, ?_⟩⟩
  exact k _ _ _ _ _ (r1.made hx hdx ne r2) q2
def sFldC (C : Addr) (K : PySem.W.Frag) (ta tv : TE) (f : Str) : TS := sFld K ta tv f
def sFldQ (C : Addr) (s : Nat) (f : Str) (t : TQ) : TSQ := fun E ρ => t ρ fun ρ1 d => lookD d fun w => match ρ1[s]? with
 | some (.mobj C' fs zs) => (C' = C ∧ fs.contains f = false ∧ fs.length < 100) ∧ E.nx (ρ1.set s (.mobj C (fs ++ [f]) (zs ++ [w])))
 | _ => False
theorem putF_zip {f : Str} {v : V} : ∀ {fs : List Str} {us : List V}, us.length = fs.length → fs.contains f = false → putF f v (fs.zip us) = (fs ++ [f]).zip (us ++ [v])
 | [], [], _, _ => rfl
 | g :: fs, u :: us, hl, h => by
  rw [List.contains_cons, Bool.or_eq_false_iff] at h
  have hg : ¬ g = f := fun z => by rw [z] at h; simp at h
  have ih := putF_zip (f := f) (v := v) (fs := fs) (us := us) (by simpa using hl) h.2
  rw [List.zip_cons_cons, List.cons_append, List.cons_append, List.zip_cons_cons, ← ih]
  show (if g = f then _ else _) = _
  rw [if_neg hg]
instance {C : Addr} {s : Nat} {f : Str} {t : TE} {τ : TQ} [SE c t τ] [o : FldOk K C f] : SS c (sFldC C K (tVar s) t f) (sFldQ C s f τ) where
 sim {F H σ ρ E Eq} rl h k := SE.simW (t := t) (Qp := fun ρ1 w => match ρ1[s]? with
   | some (.mobj C' fs zs) => (C' = C ∧ fs.contains f = false ∧ fs.length < 100) ∧ Eq.nx (ρ1.set s (.mobj C (fs ++ [f]) (zs ++ [w])))
   | _ => False) rl h fun v w ρ1 F1 H1 r1 q1 => by
  split at q1
  next C' fs zs e =>
   obtain ⟨⟨rfl, h1, h2⟩, q⟩ := q1
   obtain ⟨x, S, h3, h4⟩ := r1.slot e (fun z => nomatch z)
   cases h4 with
   | @mobj _ a _ dx _ us _ s0 m hx l rr =>
    refine ⟨.ref a, h3, a, _, dx, _, rfl, hx, o.cl, o.na, ?_, ?_⟩
    ·rw [List.length_zip, l, Nat.min_self]; omega
    ·rw [putF_zip l h1]
     refine k.nx (r1.pop.mutS e (fun z => nomatch z) h3 fun T oo => ?_) q
     cases oo with
     | mobj s0' m' hx' l' rr' =>
      rw [hx] at hx'
      injection hx' with hx'
      injection hx' with _ _ hz
      have hu : _ = us := zip_inj l' l hz.symm
      subst hu
      exact ⟨s0', .mobj s0' m' upd_same (by rw [List.length_append, List.length_append, l]; rfl) (rr'.app (.cons r1.topS .nil))⟩
  next => exact q1.elim
where
 zip_inj {α β : Type} : ∀ {fs : List α} {us vs : List β}, us.length = fs.length → vs.length = fs.length → fs.zip us = fs.zip vs → us = vs
  | [], [], [], _, _, _ => rfl
  | f :: fs, u :: us, v :: vs, h1, h2, h => by
   rw [List.zip_cons_cons, List.zip_cons_cons] at h
   injection h with h3 h4
   injection h3 with _ h5
   rw [h5, zip_inj (by simpa using h1) (by simpa using h2) h4]
end
end R
namespace R
open PySem PySem.Spec PyProof.Rows L2 G
section
variable {κ α : Type} [DecidableEq κ]
def dput (ks : List κ) (ws : List α) (k : κ) (w : α) : List κ × List α := if k ∈ ks then (ks, List.zipWith (fun k' w' => if k' = k then w else w') ks ws) else (ks ++ [k], ws ++ [w])
theorem dput_len {ks : List κ} {ws : List α} {k : κ} {w : α} (hl : ws.length = ks.length) : (dput ks ws k w).2.length = (dput ks ws k w).1.length := by
 unfold dput
 split
 ·simp [hl]
 ·simp [hl]
end
section
variable {K : PySem.W.Frag} {c : Cx K}
theorem putK_zip {κ : Type} [DecidableEq κ] {ks : List κ} {us : List V} {k : κ} {v : V} (hl : us.length = ks.length) : putK (ks.zip us) k v = (dput ks us k v).1.zip (dput ks us k v).2 := by
 have any : ∀ (ks : List κ) (us : List V), us.length = ks.length → ((ks.zip us).any fun kv => decide (kv.1 = k)) = decide (k ∈ ks) := fun ks => by
  induction ks with
  | nil => intro us _; rfl
  | cons a ks ih =>
   intro us hl
   cases us with
   | nil => simp at hl
   | cons u us =>
    rw [List.zip_cons_cons, List.any_cons, ih us (by simpa using hl)]
    by_cases e : a = k
    ·subst e; simp
    ·have e2 : (k ∈ a :: ks) = (k ∈ ks) := by simp [Ne.symm e]
     simp only [e2, decide_eq_false e, Bool.false_or]
 unfold putK dput
 rw [any ks us hl]
 by_cases h : k ∈ ks
 ·rw [if_pos (decide_eq_true h), if_pos h]
  clear any h
  induction ks generalizing us with
  | nil => rfl
  | cons a ks ih =>
   cases us with
   | nil => simp at hl
   | cons u us =>
    rw [List.zip_cons_cons, List.map_cons, List.zipWith_cons_cons, List.zip_cons_cons, ih (by simpa using hl)]
    by_cases e : a = k
    ·rw [if_pos e, if_pos e]
    ·rw [if_neg e, if_neg e]
 ·rw [if_neg (by simpa using h), if_neg h, List.zip_append hl.symm]
  rfl
theorem RepL.zw {κ : Type} [DecidableEq κ] {b : Addr} {F : Hp} {k : κ} {v : V} {w : W} (q : Rep K b F v w) : ∀ {ks : List κ} {us : List V} {ws : List W}, RepL K b F us ws → RepL K b F (List.zipWith (fun k' w' => if k' = k then v else w') ks us) (List.zipWith (fun k' w' => if k' = k then w else w') ks ws)
 | [], _, _, _ => by simp only [List.zipWith_nil_left]; exact .nil
 | a :: ks, _, _, .nil => by simp only [List.zipWith_nil_right]; exact .nil
 | a :: ks, _, _, .cons x r => by
  rw [List.zipWith_cons_cons, List.zipWith_cons_cons]
  refine .cons ?_ (RepL.zw q r)
  by_cases e : a = k
  ·rw [if_pos e, if_pos e]; exact q
  ·rw [if_neg e, if_neg e]; exact x
theorem RepL.dput {κ : Type} [DecidableEq κ] {b : Addr} {F : Hp} {ks : List κ} {us : List V} {ws : List W} {k : κ} {v : V} {w : W} (r : RepL K b F us ws) (q : Rep K b F v w) : (R.dput ks us k v).1 = (R.dput ks ws k w).1 ∧ RepL K b F (R.dput ks us k v).2 (R.dput ks ws k w).2 := by
 unfold R.dput
 split
 ·exact ⟨rfl, RepL.zw q r⟩
 ·exact ⟨rfl, r.app (.cons q .nil)⟩
def keyW : W → Option Key
 | .v (.int i) => some (.inl i)
 | .v (.str s) => some (.inr s)
 | _ => none
def keysW : List W → Option (List Key)
 | [] => some []
 | w :: ws => (keyW w).bind fun k => (keysW ws).map fun ks => k :: ks
theorem keyW_of {b : Addr} {F : Hp} {v : V} {w : W} {k : Key} (h : keyW w = some k) (r : Rep K b F v w) : v = kV k := by
 unfold keyW at h
 split at h
 next => cases h; exact r.flat
 next => cases h; exact r.flat
 next => cases h
theorem keysW_of {b : Addr} {F : Hp} : ∀ {vs : List V} {ws : List W} {ks : List Key}, keysW ws = some ks → RepL K b F vs ws → vs = ks.map kV
 | _, [], ks, h, r => by cases h; cases r; rfl
 | _, w :: ws, ks, h, r => by
  cases r with
  | cons a r =>
   unfold keysW at h
   cases e : keyW w with
   | none => rw [e] at h; cases h
   | some k =>
    rw [e] at h
    cases e2 : keysW ws with
    | none => rw [e2] at h; cases h
    | some ks' =>
     rw [e2] at h
     cases h
     rw [keyW_of e a, keysW_of e2 r]
     rfl
def qDcL (g : TGQ) (tt : TTQ) (tk tv : TQ) (vs : List Nat) (k : List D → List (List Key) → List W → Prop) : List W → List D → List (List Key) → List W → Prop
 | [], ρ, ks, acc => k ρ ks acc
 | w :: ws, ρ, ks, acc => g (.sh w) ρ fun ρ1 => tt ρ1 fun ρ2 b => if b = true then tk ρ2 fun ρ3 dk => lookD dk fun wk => tv ρ3 fun ρ4 d => lookD d fun w => match wk with
   | .tup us => match keysW us with
    | some key => qDcL g tt tk tv vs k ws (wipeD ρ4 vs) (dput ks acc key w).1 (dput ks acc key w).2
    | none => False
   | _ => False
  else qDcL g tt tk tv vs k ws (wipeD ρ2 vs) ks acc
def qDc (it : TIQ) (g : TGQ) (tt : TTQ) (tk tv : TQ) (vs : List Nat) : TQ := fun ρ Q => it ρ fun ρ1 ws => ws.length ≤ 100000 ∧ qDcL g tt tk tv vs (fun ρ2 ks acc => Q (mrg ρ1 ρ2 vs) (.dit ks acc)) ws (wipeD ρ1 vs) [] []
theorem dcT_it {J : It} {n : Nat} {G : Hp → Prop} {Y : Nat → Hp → V → Hp → Prop} (w : Walk J n G Y) {g : TG} {tt : TT} {tk tv : TE} {vs : List Nat} {σ : L2.St} {H1 : Hp} {D : Addr} {Qd : Hp → Prop} (Pv : Nat → Hp → Prop) (h0 : Pv 0 (upd H1 D (.dT []))) (hG : ∀ i H, i ≤ n → Pv i H → G H)
  (hs : ∀ i x H H', i < n → Pv i H → Y i H x H' → g x (wipe σ vs) H' fun σ2 H2 => wipe σ2 vs = wipe σ vs ∧ tt σ2 H2 fun b H3 =>
   if b = true then tk σ2 H3 fun y H4 => tv σ2 H4 fun z H5 => ∃ (kvs : List (List Key × V)) (k : List Key) (x : Addr), y = .ref x ∧ H5 x = some (.tup (k.map kV)) ∧ H5 D = some (.dT kvs) ∧ kvs.length < sizeLine ∧ Pv (i + 1) (upd H5 D (.dT (putK kvs k z))) else Pv (i + 1) H3) (hd : ∀ H, Pv n H → Qd H) :
  ∃ W : Nat → Nat → Hp → Prop, (∃ m, W 0 m (upd H1 D (.dT []))) ∧ ∀ i m H, W i m H →
   (J.stop i H ∧ Qd H) ∨ (J.go i H ∧ ∃ Nx : Hp → Prop, (∀ H', Nx H' → ∃ m', m' < m ∧ W (i + 1) m' H') ∧ ∀ x H', J.yld i H x H' → g x (wipe σ vs) H' fun σ2 H2 => wipe σ2 vs = wipe σ vs ∧ tt σ2 H2 fun b H3 =>
    if b = true then tk σ2 H3 fun y H4 => tv σ2 H4 fun z H5 => ∃ (kvs : List (List Key × V)) (k : List Key) (x : Addr), y = .ref x ∧ H5 x = some (.tup (k.map kV)) ∧ H5 D = some (.dT kvs) ∧ kvs.length < sizeLine ∧ Nx (upd H5 D (.dT (putK kvs k z))) else Nx H3) := by
 refine ⟨fun i m H => m = n - i ∧ i ≤ n ∧ Pv i H, ⟨n, by simp, Nat.zero_le _, h0⟩, ?_⟩
 rintro i m H ⟨rfl, hi, p⟩
 have q := hG i H hi p
 by_cases hlt : i < n
 ·refine .inr ⟨w.goes i H hlt q, Pv (i + 1), fun H' p' => ⟨n - (i + 1), by omega, rfl, hlt, p'⟩, fun x H' y => hs i x H H' hlt p (w.yields i H x H' hlt q y)⟩
 ·have e : i = n := by omega
  subst e
  exact .inl ⟨w.stops H q, hd H p⟩
theorem wipe_wipe {σ σ2 : L2.St} {sl vs : List Nat} (o2 : Only sl (L2.wipe σ vs) σ2) (z : ∀ i ∈ sl, i ∈ vs) : L2.wipe σ2 vs = L2.wipe σ vs := by
 rw [o2 vs z]
 apply List.ext_getElem?
 intro j
 rw [wipe_get, wipe_get]
 by_cases hj : j ∈ vs
 ·rw [if_pos hj, if_pos hj]
  cases σ[j]? <;> rfl
 ·rw [if_neg hj, if_neg hj]
theorem dput_few {κ α : Type} [DecidableEq κ] {ks : List κ} {ws : List α} {k : κ} {w : α} : (dput ks ws k w).1.length ≤ ks.length + 1 := by
 unfold dput
 split
 ·exact Nat.le_succ _
 ·simp
instance {wi : TI} {g : TG} {tt : TT} {tk tv : TE} {vs : List Nat} {τi : TIQ} {sl : List Nat} {γ : TGQ} {τt : TTQ} {τk τv : TQ} [SI c wi τi] [∀ F1, SG (c.re F1) g sl γ] [∀ F1, ST (c.re F1) tt τt] [∀ F1, SE (c.re F1) tk τk] [∀ F1, SE (c.re F1) tv τv] [z : Within sl vs] : SE c (tDcT wi g tt tk tv vs) (qDc τi γ τt τk τv vs) where
 sim {F H σ ρ ts Q Qp} rl h k := SI.sim (t := wi) rl h fun J ws ρ1 F1 H1 r1 it q1 => by
  intro L hL
  obtain ⟨hz, q1⟩ := q1
  have e0 := r1.fr.ff
  have n0 := r1.fr.nw
  let kk : List D → List (List Key) → List W → Prop := fun ρ2 ks acc => Qp (mrg ρ1 ρ2 vs) (.dit ks acc)
  refine dcT_it (G := fun H => Same F1 H) it (fun i H => ∃ F ρ ks acc, Rel (c.re F1) F H (L2.wipe σ vs) ρ ((.ref L, .dit ks acc) :: ts) ∧ ks.length ≤ i ∧ qDcL γ τt τk τv vs kk (ws.drop i) ρ ks acc) ?_ (fun i H _ ⟨F, ρ, ks, acc, r, _⟩ => r.fr.ff.trans r.fr.fh) (fun i x H H' hi ⟨F, ρ, ks, acc, r, ha, q⟩ y => ?_) (fun H ⟨F, ρ, ks, acc, r, ha, q⟩ => ?_)
  ·exact ⟨F1, _, [], [], (((r1.wipe vs).re (Same.refl _) e0).newO (o := .dT []) hL fun S s m => .dit (us := []) s m upd_same rfl .nil), Nat.zero_le _, q1⟩
  ·obtain ⟨w, F', hw, e, r'⟩ := r.turn r.fr.ff y
   rw [drop_cons hw] at q
   refine SG.sim (c := c.re F1) (g := g) r' q fun σ2 ρ2 F2 H2 r2 o2 q2 => ?_
   have hwp := wipe_wipe o2 z.sub
   refine ⟨hwp, ST.sim (c := c.re F1) (t := tt) r2 q2 fun b ρ3 F3 H3 r3 q3 => ?_⟩
   cases b with
   | false => exact ⟨F3, _, ks, acc, by rw [← hwp]; exact r3.wipe vs, by omega, q3⟩
   | true =>
    refine SE.simW (c := c.re F1) (t := tk) r3 q3 fun v w ρ4 F4 H4 r4 q4 => SE.simW (c := c.re F1) (t := tv) r4 q4 fun u w' ρ5 F5 H5 r5 q5 => ?_
    have rk := r5.pop.topS
    split at q5
    next us0 =>
     split at q5
     next key hkey =>
      cases rk with
      | @tup xa xs _ ex rx =>
       have exs := keysW_of hkey rx
       rw [exs] at ex
       have rv := r5.topS
       have r6 := r5.pop.pop
       obtain ⟨S, o6⟩ := r6.top
       cases o6 with
       | @dit _ _ _ us _ s0 m hx l rr =>
        refine ⟨_, key, xa, rfl, r5.fr.fh _ _ ex, hx, ?_, F5, _, (dput ks acc key w').1, (dput ks acc key w').2, ?_, ?_, q5⟩
        ·rw [List.length_zip, l, Nat.min_self, sizeLine_eq]; omega
        ·rw [← hwp, putK_zip l]
         obtain ⟨e1, e2⟩ := RepL.dput (ks := ks) (k := key) rr rv
         refine Rel.wipe (Rel.mutT (d' := .dit (dput ks acc key w').1 (dput ks acc key w').2) r6 fun T o => ?_) vs
         cases o with
         | dit s0' m' hx' l' rr' => exact ⟨s0', .dit (us := (dput ks us key u).2) s0' m' (by rw [upd_same, e1]) (by rw [dput_len l, e1]) e2⟩
        ·have := dput_few (ks := ks) (ws := acc) (k := key) (w := w')
         omega
     next => exact q5.elim
    next => exact q5.elim
  ·rw [List.drop_length] at q
   have r2 := Rel.unwipe (c := c.re F1) (r1.re (Same.refl _) e0) r.fr.ff vs r
   exact k _ _ _ _ _ (r2.unre e0 n0) q
def qAppend (s : Nat) (t : TQ) : TQ := fun ρ Q => match ρ[s]? with
 | some (.lst _) => t ρ fun ρ1 d => lookD d fun w => match ρ1[s]? with
  | some (.lst ws) => ws.length < 100000 ∧ Q (ρ1.set s (.lst (ws ++ [w]))) .non
  | _ => False
 | _ => False
instance {s : Nat} {t : TE} {τ : TQ} [SE c t τ] : SE c (tBM K "list" rAppend (tVar s) (tCons t tNil)) (qAppend s τ) where
 sim {F H σ ρ ts Q Qp} rl h k := by
  unfold qAppend at h
  split at h
  next ws0 es =>
   obtain ⟨x, S, h1, h2⟩ := rl.slot es (fun z => nomatch z)
   have tyx : tyV K "list" x H := by
    cases h2 with | lst s0 m hx rr => exact .inl ⟨rfl, _, SqL.of hx⟩
   refine ⟨x, h1, tyx, SE.simW (t := t) (Qp := fun ρ1 w => match ρ1[s]? with
    | some (.lst ws) => ws.length < 100000 ∧ Qp (ρ1.set s (.lst (ws ++ [w]))) .non
    | _ => False) rl h fun v w ρ1 F1 H1 r1 q1 => ?_⟩
   split at q1
   next ws es1 =>
    obtain ⟨x', S', h3, h4⟩ := r1.slot es1 (fun z => nomatch z)
    rw [h1] at h3
    cases h3
    cases h4 with
    | @lst _ a us _ s0 m ha rr =>
     refine ⟨a, us, v, rfl, rfl, ha, by rw [rr.len, sizeLine_eq]; omega, k _ _ _ _ _ (Rel.pushS (r1.pop.mutS es1 (d' := .lst (ws ++ [w])) (fun z => nomatch z) h1 fun T o => ?_) (.v .non)) q1.2⟩
     cases o with
     | lst s0' m' ha' rr' =>
      rw [ha] at ha'
      cases ha'
      exact ⟨s0', .lst s0' m' upd_same (rr'.app (.cons r1.topS .nil))⟩
   next => exact q1.elim
  next => exact h.elim
theorem RepL.dropLast {b : Addr} {F : Hp} {vs : List V} {ws : List W} (r : RepL K b F vs ws) : RepL K b F vs.dropLast ws.dropLast := by
 rw [List.dropLast_eq_take, List.dropLast_eq_take, r.len]
 exact r.take _
def truW : W → Option Bool
 | .v .non => some false
 | .v (.bl b) => some b
 | .v (.int i) => some (i != 0)
 | .lst ws => some (!ws.isEmpty)
 | .tup ws => some (!ws.isEmpty)
 | _ => none
theorem truW_of {F H : Hp} {v : V} {w : W} {k : Bool} (h : truW w = some k) (r : Vw c F H v w) (e : Same F H) : TruV K v H k := by
 cases w with
 | v x => rw [r.flat]; cases x <;> cases h <;> rfl
 | lst ws =>
  obtain ⟨a, us, rfl, h1, rr⟩ := r.lst e
  cases h
  refine .inl ⟨us, SqL.of h1, ?_⟩
  cases rr <;> rfl
 | tup ws =>
  obtain ⟨a, us, rfl, g1, h1, rr⟩ := r.tup e
  cases h
  refine .inr (.inl ⟨us, SqT.of h1, ?_⟩)
  cases rr <;> rfl
 | _ => cases h
def qOrT (ta tb : TQ) : TQ := fun ρ Q => ta ρ fun ρ1 d => lookD d fun w => match truW w with
 | some true => Q ρ1 d
 | some false => tb ρ1 Q
 | none => False
instance {ta tb : TE} {τa τb : TQ} [SE c ta τa] [SE c tb τb] : SE c (tOrT K ta tb) (qOrT τa τb) where
 sim {F H σ ρ ts Q Qp} rl h k := SE.sim (t := ta) (τ := τa) rl h fun v d ρ1 F1 H1 r1 q1 => by
  obtain ⟨w, hw, q1⟩ := lookD_ex q1
  obtain ⟨S, o⟩ := r1.top
  have tv : ∀ k, truW w = some k → TruV K v H1 k := fun k hk => truW_of hk ⟨S, d, o, hw⟩ r1.fr.fh
  split at q1
  next e => exact ⟨true, tv _ e, by rw [if_pos rfl]; exact k _ _ _ _ _ r1 q1⟩
  next e => exact ⟨false, tv _ e, by rw [if_neg (fun z => nomatch z)]; exact SE.sim (t := tb) r1.pop q1 k⟩
  next => exact q1.elim
def tyW : W → Option String
 | .v .non => some "NoneType"
 | .v (.bl _) => some "bool"
 | .v (.int _) => some "int"
 | .v (.str _) => some "str"
 | .lst _ => some "list"
 | .tup _ => some "tuple"
 | .dic _ _ => some "dict"
 | .set _ _ => some "set"
 | _ => none
theorem tyW_of {F H : Hp} {v : V} {w : W} {T : String} (h : tyW w = some T) (r : Vw c F H v w) (e : Same F H) : TyX K H v (.type T) := by
 cases w with
 | v x =>
  rw [r.flat]
  cases x with
  | non => cases h; exact .base .non
  | bl b => cases h; exact .base (.bl b)
  | int i => cases h; exact .base (.int i)
  | str z => cases h; exact .base (.str z)
  | _ => cases h
 | lst ws => obtain ⟨a, us, rfl, h1, rr⟩ := r.lst e; cases h; exact .base (.lst h1)
 | tup ws => obtain ⟨a, us, rfl, g1, h1, rr⟩ := r.tup e; cases h; exact .base (.tup h1)
 | dic ks ws =>
  obtain ⟨a, us, rfl, h1, l, rr⟩ := r.dic e; cases h
  rcases h1 with h1 | ⟨o, h1⟩
  ·exact .base (.dK h1)
  ·exact .fDict h1
 | dit ks ws => cases h
 | set T n => obtain ⟨a, rfl, h1⟩ := r.set e; cases h; exact .set h1
 | _ => cases h
def tys : List String := ["NoneType", "bool", "int", "str", "list", "tuple", "dict", "set"]
def isA (w : W) (T : String) : Bool := match tyW w with
 | some t => (t == T) || (t == "bool" && T == "int")
 | none => false
def bIsi : List W → (D → Prop) → Prop := fun xs k => match xs with
 | [x, .v (.ty T)] => (tyW x).isSome = true ∧ tys.contains T = true ∧ k (.bl (isA x T))
 | _ => False
theorem kit_tys : (tys.all fun t => tys.all fun T => decide (kitB t T = some ((t == T) || (t == "bool" && T == "int")))) = true := by decide +kernel
theorem kit_any {K : PySem.W.Frag} {t T : String} (h1 : t ∈ tys) (h2 : T ∈ tys) : PySem.W.kitOne K (.type t) (.type T) = some ((t == T) || (t == "bool" && T == "int")) := by
 have h := kit_tys
 rw [List.all_eq_true] at h
 have h3 := h t h1
 rw [List.all_eq_true] at h3
 exact kit_ty (of_decide_eq_true (h3 T h2))
theorem tyW_mem {w : W} {t : String} (h : tyW w = some t) : t ∈ tys := by
 unfold tyW at h
 split at h <;> cases h <;> decide
instance : SC c (rIsi K) bIsi where
 sim {F H σ ρ ts xs ws Q Qp} rl hx h k := by
  unfold bIsi at h
  split at h
  next x T =>
   obtain ⟨v, u, rfl, hv, hu⟩ := hx.two
   obtain ⟨h1, h2, h3⟩ := h
   cases e : tyW x with
   | none => rw [e] at h1; cases h1
   | some t =>
    have hq : isA x T = ((t == T) || (t == "bool" && T == "int")) := by unfold isA; rw [e]
    rw [hq] at h3
    rw [hu.flat]
    exact ⟨v, .ty T, .type t, .type T, _, rfl, .ty T, tyW_of e hv rl.fr.fh, kit_any (tyW_mem e) (List.contains_iff_mem.mp h2), k _ _ _ _ (rl.pushS (.v _)) h3⟩
  next => exact h.elim
end
end R
namespace R
open PySem PySem.Spec PyProof.Rows L2 G
mutual
theorem Dp.da {K : PySem.W.Frag} {H : Hp} : ∀ {d : PyData} {v : V}, Dp K H v d → Da K H v d
 | _, _, .non => .non
 | _, _, .bl b => .bl b
 | _, _, .int i => .int i
 | _, _, .str x => .str x
 | _, _, .lst a r => .lst a (DpAll.da r)
 | _, _, .tup a r => .tup a (DpAll.da r)
theorem DpAll.da {K : PySem.W.Frag} {H : Hp} : ∀ {d : List PyData} {v : List V}, DpAll K H v d → DaL K H v d
 | _, _, .nil => .nil
 | _, _, .cons a r => .cons (Dp.da a) (DpAll.da r)
end
def shows (w : W) : Prop := w.ok 20 = true ∧ Sm 60 1000000 w.dat
section
variable {K : PySem.W.Frag} {c : Cx K}
def bRepr : List W → (D → Prop) → Prop := fun xs k => match xs with
 | [w] => shows w ∧ k (.str w.dat.shown)
 | _ => False
instance : SC c (rRepr K) bRepr where
 sim {F H σ ρ ts xs ws Q Qp} rl hx h k := by
  unfold bRepr at h
  split at h
  next w =>
   obtain ⟨v, rfl, hv⟩ := hx.one
   obtain ⟨⟨h1, h2⟩, h3⟩ := h
   exact ⟨v, w.dat, rfl, Dp.da (hv.dp rl.fr.fh h1), h2.sh, h2.dp, Nat.le_trans h2.ln (by rw [sizeLine_eq]; decide), k _ _ _ _ (rl.pushS (.v _)) h3⟩
  next => exact h.elim
theorem eq_refl {w : W} {n : Nat} (h : w.ok n = true) : W.eq w w = true := SeqAt.eqv_refl _ (W.lay w n h).1
def rLenT (P : Program) (K : PySem.W.Frag) (w : World) : List V → Hp → VK → Prop := fun xs H Q => ∃ (a : Addr) (L : List (Addr × List Int)), xs = [.ref a] ∧ H a = some (SetTO P w a L) ∧ (∀ p ∈ L, SqT K H p.1 (p.2.map V.int)) ∧ Q (.int (L.length : Int)) H
theorem klenT (K : PySem.W.Frag) {X : L2.Cx} (h : X.K = K := by rfl) : CallR X (.builtin "len") (rLenT X.prog K X.w) := call_lenT K h
def intsW : List W → Option (List Int)
 | [] => some []
 | .v (.int i) :: ws => (intsW ws).map fun is => i :: is
 | _ :: _ => none
theorem intsW_of {b : Addr} {F : Hp} : ∀ {vs : List V} {ws : List W} {ks : List Int}, intsW ws = some ks → RepL K b F vs ws → vs = ks.map V.int
 | _, [], ks, h, r => by cases h; cases r; rfl
 | _, .v (.int i) :: ws, ks, h, r => by
  cases r with
  | cons a r =>
   unfold intsW at h
   cases e : intsW ws with
   | none => rw [e] at h; cases h
   | some k =>
    rw [e] at h
    cases h
    rw [a.flat, intsW_of e r]
    rfl
 | _, .v .non :: ws, ks, h, r => by cases h
 | _, .v (.bl _) :: ws, ks, h, r => by cases h
 | _, .v (.str _) :: ws, ks, h, r => by cases h
 | _, .v (.byt _) :: ws, ks, h, r => by cases h
 | _, .v (.flt _) :: ws, ks, h, r => by cases h
 | _, .v (.ref _) :: ws, ks, h, r => by cases h
 | _, .v (.ty _) :: ws, ks, h, r => by cases h
 | _, .lst _ :: ws, ks, h, r => by cases h
 | _, .tup _ :: ws, ks, h, r => by cases h
 | _, .dic _ _ :: ws, ks, h, r => by cases h
 | _, .dit _ _ :: ws, ks, h, r => by cases h
 | _, .obj _ _ _ :: ws, ks, h, r => by cases h
 | _, .set _ _ :: ws, ks, h, r => by cases h
 | _, .bag :: ws, ks, h, r => by cases h
def qScL (g : TGQ) (tt : TTQ) (te : TQ) (vs : List Nat) (k : List D → List (List Int) → Prop) : List W → List D → List (List Int) → Prop
 | [], ρ, acc => k ρ acc
 | w :: ws, ρ, acc => g (.sh w) ρ fun ρ1 => tt ρ1 fun ρ2 b => if b = true then te ρ2 fun ρ3 d => lookD d fun w => match w with
   | .tup us => match intsW us with
    | some key => qScL g tt te vs k ws (wipeD ρ3 vs) (acc ++ [key])
    | none => False
   | _ => False
  else qScL g tt te vs k ws (wipeD ρ2 vs) acc
def ndiff : List (List Int) → Nat
 | [] => 0
 | k :: ks => if k ∈ ks then ndiff ks else ndiff ks + 1
theorem ndiff_le : ∀ ks : List (List Int), ndiff ks ≤ ks.length
 | [] => Nat.le_refl _
 | k :: ks => by
  have := ndiff_le ks
  rw [ndiff, List.length_cons]
  split <;> omega
theorem ndiff_eq : ∀ ks : List (List Int), ndiff ks = ks.length ↔ ks.Nodup
 | [] => by simp [ndiff]
 | k :: ks => by
  have h1 := ndiff_le ks
  have h2 := ndiff_eq ks
  rw [ndiff, List.length_cons, List.nodup_cons]
  split
  next h => exact ⟨fun z => by omega, fun z => absurd h z.1⟩
  next h => exact ⟨fun z => ⟨h, h2.mp (by omega)⟩, fun z => by rw [h2.mpr z.2]⟩
theorem ndiff_of : ∀ {ks ls : List (List Int)}, ls.Nodup → (∀ x, x ∈ ls ↔ x ∈ ks) → ls.length = ndiff ks
 | [], ls, _, h => by
  have e : ls = [] := List.eq_nil_iff_forall_not_mem.mpr fun x hx => nomatch (h x).mp hx
  rw [e]; rfl
 | k :: ks, ls, nd, h => by
  rw [ndiff]
  by_cases hk : k ∈ ks
  ·rw [if_pos hk]
   exact ndiff_of nd fun x => by
    rw [h x]
    constructor
    ·intro m
     rcases List.mem_cons.mp m with e | m
     ·rw [e]; exact hk
     ·exact m
    ·exact fun m => List.mem_cons_of_mem _ m
  ·rw [if_neg hk]
   have hm : k ∈ ls := (h k).mpr List.mem_cons_self
   have h2 := ndiff_of (ks := ks) (ls := ls.erase k) (nd.erase k) fun x => by
    rw [nd.mem_erase_iff, h x]
    constructor
    ·rintro ⟨n, m⟩
     rcases List.mem_cons.mp m with e | m
     ·exact absurd e n
     ·exact m
    ·exact fun m => ⟨fun e => hk (by rw [← e]; exact m), List.mem_cons_of_mem _ m⟩
   rw [← h2, List.length_erase_of_mem hm]
   have := List.length_pos_of_mem hm
   omega
def qLenSc (it : TIQ) (g : TGQ) (tt : TTQ) (te : TQ) (vs : List Nat) : TQ := fun ρ Q => it ρ fun ρ1 ws => ws.length ≤ 62 ∧ qScL g tt te vs (fun ρ2 acc => Q (mrg ρ1 ρ2 vs) (.int (ndiff acc : Int))) ws (wipeD ρ1 vs) []
theorem scT_it {P : Program} {w : World} {J : It} {n : Nat} {G : Hp → Prop} {Y : Nat → Hp → V → Hp → Prop} (wk : Walk J n G Y) {g : TG} {tt : TT} {te : TE} {vs : List Nat} {σ : L2.St} {H1 : Hp} {D : Addr} {Qd : Hp → Prop} (Pv : Nat → Hp → Prop) (h0 : Pv 0 (upd H1 D (SetTO P w D []))) (hG : ∀ i H, i ≤ n → Pv i H → G H)
  (hs : ∀ i x H H', i < n → Pv i H → Y i H x H' → g x (wipe σ vs) H' fun σ2 H2 => wipe σ2 vs = wipe σ vs ∧ tt σ2 H2 fun b H3 =>
   if b = true then te σ2 H3 fun y H4 => ∃ (x : Addr) (k : List Int) (L : List (Addr × List Int)), y = .ref x ∧ SqT K H4 x (k.map V.int) ∧ H4 D = some (SetTO P w D L) ∧ (∀ p ∈ L, SqT K H4 p.1 (p.2.map V.int)) ∧ L.length + 1 < 64 ∧
    ∀ L', (k ∈ L.map (·.2) → L' = L) → (k ∉ L.map (·.2) → L'.Perm ((x, k) :: L)) → Pv (i + 1) (upd H4 D (SetTO P w D L')) else Pv (i + 1) H3) (hd : ∀ H, Pv n H → Qd H) :
  ∃ W : Nat → Nat → Hp → Prop, (∃ m, W 0 m (upd H1 D (SetTO P w D []))) ∧ ∀ i m H, W i m H →
   (J.stop i H ∧ Qd H) ∨ (J.go i H ∧ ∃ Nx : Hp → Prop, (∀ H', Nx H' → ∃ m', m' < m ∧ W (i + 1) m' H') ∧ ∀ x H', J.yld i H x H' → g x (wipe σ vs) H' fun σ2 H2 => wipe σ2 vs = wipe σ vs ∧ tt σ2 H2 fun b H3 =>
    if b = true then te σ2 H3 fun y H4 => ∃ (x : Addr) (k : List Int) (L : List (Addr × List Int)), y = .ref x ∧ SqT K H4 x (k.map V.int) ∧ H4 D = some (SetTO P w D L) ∧ (∀ p ∈ L, SqT K H4 p.1 (p.2.map V.int)) ∧ L.length + 1 < 64 ∧
     ∀ L', (k ∈ L.map (·.2) → L' = L) → (k ∉ L.map (·.2) → L'.Perm ((x, k) :: L)) → Nx (upd H4 D (SetTO P w D L')) else Nx H3) := by
 refine ⟨fun i m H => m = n - i ∧ i ≤ n ∧ Pv i H, ⟨n, by simp, Nat.zero_le _, h0⟩, ?_⟩
 rintro i m H ⟨rfl, hi, p⟩
 have q := hG i H hi p
 by_cases hlt : i < n
 ·refine .inr ⟨wk.goes i H hlt q, Pv (i + 1), fun H' p' => ⟨n - (i + 1), by omega, rfl, hlt, p'⟩, fun x H' y => hs i x H H' hlt p (wk.yields i H x H' hlt q y)⟩
 ·have e : i = n := by omega
  subst e
  exact .inl ⟨wk.stops H q, hd H p⟩
theorem sqt_frozen {F H : Hp} {a : Addr} {xs : List V} (e : F a = some (.tup xs)) (h : Same F H) : SqT K H a xs := SqT.of (h _ _ e)
structure SetIs (F : Hp) (L : List (Addr × List Int)) (acc : List (List Int)) : Prop where
 at_ : ∀ p ∈ L, F p.1 = some (.tup (p.2.map V.int))
 nd : (L.map (·.2)).Nodup
 mem : ∀ x, x ∈ L.map (·.2) ↔ x ∈ acc
theorem SetIs.up {F F' : Hp} {L : List (Addr × List Int)} {acc : List (List Int)} (h : SetIs F L acc) (e : Same F F') : SetIs F' L acc := ⟨fun p hp => e _ _ (h.at_ p hp), h.nd, h.mem⟩
theorem SetIs.add {F : Hp} {L L' : List (Addr × List Int)} {acc : List (List Int)} {x : Addr} {k : List Int} (h : SetIs F L acc) (hx : F x = some (.tup (k.map V.int))) (c1 : k ∈ L.map (·.2) → L' = L) (c2 : k ∉ L.map (·.2) → L'.Perm ((x, k) :: L)) : SetIs F L' (acc ++ [k]) := by
 by_cases hk : k ∈ L.map (·.2)
 ·rw [c1 hk]
  exact ⟨h.at_, h.nd, fun y => by
   rw [h.mem y, List.mem_append, List.mem_singleton]
   exact ⟨.inl, fun z => z.elim id fun e => by rw [e]; exact (h.mem k).mp hk⟩⟩
 ·have p := c2 hk
  have pm := p.map (·.2)
  refine ⟨fun q hq => ?_, ?_, fun y => ?_⟩
  ·rcases List.mem_cons.mp (p.mem_iff.mp hq) with e | e
   ·rw [e]; exact hx
   ·exact h.at_ q e
  ·rw [pm.nodup_iff]
   exact List.nodup_cons.mpr ⟨hk, h.nd⟩
  ·rw [pm.mem_iff, List.map_cons, List.mem_cons, h.mem y, List.mem_append, List.mem_singleton]
   exact ⟨fun z => z.elim .inr .inl, fun z => z.elim .inr .inl⟩
instance (priority := 3000) {P : Program} {w : World} {wi : TI} {g : TG} {tt : TT} {te : TE} {vs : List Nat} {τi : TIQ} {sl : List Nat} {γ : TGQ} {τt : TTQ} {τe : TQ} [SI c wi τi] [∀ F1, SG (c.re F1) g sl γ] [∀ F1, ST (c.re F1) tt τt] [∀ F1, SE (c.re F1) te τe] [z : Within sl vs] : SE c (tCB (rLenT P K w) (tCons (tScT P K w wi g tt te vs) tNil)) (qLenSc τi γ τt τe vs) where
 sim {F H σ ρ ts Q Qp} rl h k := SI.sim (t := wi) rl h fun J ws ρ1 F1 H1 r1 it q1 => by
  intro L hL
  obtain ⟨hz, q1⟩ := q1
  have e0 := r1.fr.ff
  have n0 := r1.fr.nw
  let kk : List D → List (List Int) → Prop := fun ρ2 acc => Qp (mrg ρ1 ρ2 vs) (.int (ndiff acc : Int))
  refine scT_it (K := K) (P := P) (w := w) (G := fun H => Same F1 H) it (fun i H => ∃ F ρ S acc, Rel (c.re F1) F H (L2.wipe σ vs) ρ ((.ref L, .raw (SetTO P w L S)) :: ts) ∧ SetIs F S acc ∧ S.length ≤ i ∧ qScL γ τt τe vs kk (ws.drop i) ρ acc) ?_ (fun i H _ ⟨F, ρ, S, acc, r, _⟩ => r.fr.ff.trans r.fr.fh) (fun i x H H' hi ⟨F, ρ, S, acc, r, si, hs, q⟩ y => ?_) (fun H ⟨F, ρ, S, acc, r, si, hs, q⟩ => ?_)
  ·exact ⟨F1, _, [], [], (((r1.wipe vs).re (Same.refl _) e0).newO (o := SetTO P w L []) hL fun S s m => .raw s m upd_same), ⟨fun p hp => (nomatch hp), List.nodup_nil, fun x => Iff.rfl⟩, Nat.zero_le _, q1⟩
  ·obtain ⟨w0, F', hw, e, r'⟩ := r.turn r.fr.ff y
   rw [drop_cons hw] at q
   have f1 := r'.fr.ff
   have f2 := r'.fr.nw
   refine SG.sim (c := c.re F') (g := g) (Rel.re (c := c.re F1) r' (Same.refl _) f1) q fun σ2 ρ2 F2 H2 r2 o2 q2 => ?_
   have hwp := wipe_wipe o2 z.sub
   refine ⟨hwp, ST.sim (c := c.re F') (t := tt) r2 q2 fun b ρ3 F3 H3 r3 q3 => ?_⟩
   cases b with
   | false =>
    have r5 : Rel (c.re F1) F3 H3 σ2 ρ3 ((.ref L, .raw (SetTO P w L S)) :: ts) := Rel.unre (c := c.re F1) (F1 := F') r3 f1 f2
    exact ⟨F3, _, S, acc, by rw [← hwp]; exact r5.wipe vs, si.up (e.trans r3.fr.ff), by omega, q3⟩
   | true =>
    refine SE.simW (c := c.re F') (t := te) r3 q3 fun v w1 ρ4 F4 H4 r4 q4 => ?_
    split at q4
    next us0 =>
     split at q4
     next key hkey =>
      have rk := r4.topS
      cases rk with
      | @tup xa xs _ ex rx =>
       have exs := intsW_of hkey rx
       rw [exs] at ex
       have si4 := si.up (e.trans r4.fr.ff)
       have fh4 := r4.fr.fh
       have r5 : Rel (c.re F1) F4 H4 σ2 ρ4 ((.ref L, .raw (SetTO P w L S)) :: ts) := Rel.unre (c := c.re F1) (F1 := F') r4.pop f1 f2
       obtain ⟨T, o5⟩ := r5.top
       cases o5 with
       | raw s0 m hx =>
        refine ⟨xa, key, S, rfl, sqt_frozen ex fh4, hx, fun p hp => sqt_frozen (si4.at_ p hp) fh4, by omega, fun L' c1 c2 => ⟨F4, _, L', acc ++ [key], ?_, si4.add ex c1 c2, ?_, q4⟩⟩
        ·rw [← hwp]
         refine Rel.wipe (Rel.mutT (d' := .raw (SetTO P w L L')) r5 fun T o => ?_) vs
         cases o with
         | raw s0' m' hx' => exact ⟨s0', .raw s0' m' upd_same⟩
        ·by_cases hk : key ∈ S.map (·.2)
         ·rw [c1 hk]; omega
         ·rw [(c2 hk).length_eq, List.length_cons]; omega
     next => exact q4.elim
    next => exact q4.elim
  ·rw [List.drop_length] at q
   have r2 := Rel.unwipe (c := c.re F1) (r1.re (Same.refl _) e0) r.fr.ff vs r
   obtain ⟨T, o⟩ := r.top
   cases o with
   | raw s0 m hx =>
    refine ⟨L, S, rfl, hx, fun p hp => sqt_frozen (si.at_ p hp) r.fr.fh, k _ _ _ _ _ ((r2.unre e0 n0).pop.pushS (.v _)) ?_⟩
    have en : S.length = ndiff acc := by rw [← List.length_map (as := S) (·.2)]; exact ndiff_of si.nd si.mem
    rw [en]
    exact q
end
end R
namespace R
open PySem PySem.Spec PyProof.Rows L2 G
structure Ad where
 (Cluster LeadError Wrong NotLegal Stopped NoBundle Frozen NotValid NotLed Impossible TooMany Nothing NoText NoCommand Net Flow Mover Book Desk : Addr)
section
variable (K : PySem.W.Frag) {X : L2.Cx}
theorem kfld (C : Addr) {e : Expr} {ta : TE} {f : Str} {pos : Pos} (he : PE X e ta) (hK : X.K = K := by rfl) (hb : attributeBase e f X.env (eval e X.env) = eval e X.env := by rfl) : PE X (.Attribute e f pos) (tFldC C K ta f) := by subst hK; exact pe_fld he hb
theorem ksfld (C : Addr) {o value : Expr} {ta tv : TE} {f : Str} {pos pos' : Pos} (ha : PE X o ta) (hv : PE X value tv) (hK : X.K = K := by rfl) (hs : swapsWith value (some (.Attribute o f pos')) pos.line X.env = pure false := by rfl) : PS X (.Assign [.Attribute o f pos'] value pos) (sFldC C K ta tv f) := by subst hK; exact ps_fld ha hv hs
theorem kgtup {es : List Expr} {k : Nat} {t : TGs} {n : Nat} {pos : Pos} (h : PGs X es t) (hK : X.K = K := by rfl) (hc : X.calm = true := by rfl) (hn : (assignEach es X.env).length = n := by rfl) (hst : (assignEach es X.env).findIdx? (·.1) = none := by rfl) : PG X (.Tuple es k pos) (gTup K n t) := by subst hK; exact pg_tup hc h hn hst
theorem krevL {e : Expr} {te : TE} {k : Nat} {p1 p2 p3 pos : Pos} (he : PE X e te) (hK : X.K = K := by rfl) : PE X (.Subscript e (.Slice none none (some (.UnaryOp .USub (.Constant (.int 1) k p1) p2)) p3) pos) (tRevL K te) := by subst hK; exact pe_revL he
theorem korT {a b : Expr} {ta tb : TE} {rest : List Expr} {pos : Pos} (ha : PE X a ta) (hb : PE X (.BoolOp .Or (b :: rest) pos) tb) (hK : X.K = K := by rfl) : PE X (.BoolOp .Or (a :: b :: rest) pos) (tOrT K ta tb) := by subst hK; exact pe_orT ha hb
theorem kenu {e : Expr} {ta : TA} {p pos tpos : Pos} {elts : List Expr} {kk : Nat} (hg : Gl X "enumerate") (hm : X.mg "enumerate" = none) (ha : PA X [e] ta) (hK : X.K = K := by rfl) (hs : starEach [e] X.env = [(false, eval e X.env)] := by rfl) : PI X (.Tuple elts kk tpos) (.Call (.Name "enumerate" p) [e] [] pos) (iEnum K ta) := by subst hK; exact pi_enum hg hm ha hs
theorem kix (hK : X.K = K := by rfl) : IxR X (rIx K) := kixS K hK
end
section
variable {X : L2.Cx} {elt kx vx tg iter : Expr} {ifs : List Expr} {scope : Scope} {own : List (PySem.Str × Nat)} {pos : Pos} {wi : TI} {g : TG} {tt : TT} {te tk tv : TE} {vs : List Nat}
theorem klc (hN : X.N.Nodup) (hi : PI X tg iter wi) (ok : BlkOk X.N X.env.scope scope own)
  (hg : ∀ (s : Shared) (H : Hp) (C : Addr) (cl : List (PySem.Str × Addr)) (fp : List Addr), PG (X.blk s H scope (compEnvC scope cl C X.env) fp) tg g) (ht : ∀ (s : Shared) (H : Hp) (C : Addr) (cl : List (PySem.Str × Addr)) (fp : List Addr), PTs (X.blk s H scope (compEnvC scope cl C X.env) fp) ifs tt)
  (he : ∀ (s : Shared) (H : Hp) (C : Addr) (cl : List (PySem.Str × Addr)) (fp : List Addr), PE (X.blk s H scope (compEnvC scope cl C X.env) fp) elt te) (hv : own.map (·.2) = vs := by rfl) (hc : X.calm = true := by rfl) (hs : ∀ x, foldedSetIterable iter X.env x = pure x := by intro _; rfl) :
  PE X (.ListComp elt [⟨tg, iter, ifs, 0⟩] scope pos) (tLc wi g tt te vs) := by subst hv; exact pe_lc hc hN hi ok hg ht he hs
theorem kslc {i : Nat} {y : PySem.Str} {py spos : Pos} (hN : X.N.Nodup) (hy : X.N[i]? = some y) (hyl : X.env.scope.names.lookup y = some .local)
  (hsw : swapsWith (.ListComp elt [⟨tg, iter, ifs, 0⟩] scope pos) (some (.Name y py)) spos.line X.env = pure true) (hi : PI X tg iter wi) (ok : BlkOk X.N X.env.scope scope own)
  (hg : ∀ (s : Shared) (H : Hp) (C : Addr) (cl : List (PySem.Str × Addr)) (fp : List Addr), PG (X.blk s H scope (compEnvC scope cl C X.env) fp) tg g) (ht : ∀ (s : Shared) (H : Hp) (C : Addr) (cl : List (PySem.Str × Addr)) (fp : List Addr), PTs (X.blk s H scope (compEnvC scope cl C X.env) fp) ifs tt)
  (he : ∀ (s : Shared) (H : Hp) (C : Addr) (cl : List (PySem.Str × Addr)) (fp : List Addr), PE (X.blk s H scope (compEnvC scope cl C X.env) fp) elt te) (hv : own.map (·.2) = vs := by rfl) (hc : X.calm = true := by rfl) (hs : ∀ x, foldedSetIterable iter X.env x = pure x := by intro _; rfl) :
  PS X (.Assign [.Name y py] (.ListComp elt [⟨tg, iter, ifs, 0⟩] scope pos) spos) (tAsg (tLc wi g tt te vs) (gName i)) := by subst hv; exact ps_setLc hc hN hy hyl hsw hi ok hg ht he hs
theorem kdc (hu : X.A.units + 8 < cLine) (nodup : X.N.Nodup) (hi : PI X tg iter wi) (ok : BlkOk X.N X.env.scope scope own)
  (hg : ∀ (z : Shared) (H : Hp) (C : Addr) (cl : List (PySem.Str × Addr)) (fp : List Addr), PG (X.blk z H scope (compEnvC scope cl C X.env) fp) tg g) (ht : ∀ (z : Shared) (H : Hp) (C : Addr) (cl : List (PySem.Str × Addr)) (fp : List Addr), PTs (X.blk z H scope (compEnvC scope cl C X.env) fp) ifs tt)
  (hk : ∀ (z : Shared) (H : Hp) (C : Addr) (cl : List (PySem.Str × Addr)) (fp : List Addr), PE (X.blk z H scope (compEnvC scope cl C X.env) fp) kx tk) (he : ∀ (z : Shared) (H : Hp) (C : Addr) (cl : List (PySem.Str × Addr)) (fp : List Addr), PE (X.blk z H scope (compEnvC scope cl C X.env) fp) vx tv) (hv : own.map (·.2) = vs := by rfl) (calm : X.calm = true := by rfl) (fold : ∀ x, foldedSetIterable iter X.env x = pure x := by intro _; rfl) :
  PE X (.DictComp kx vx [⟨tg, iter, ifs, 0⟩] scope pos) (tDcT wi g tt tk tv vs) := by subst hv; exact pe_dcT hu calm nodup hi ok hg ht hk he fold
theorem ksc (K : PySem.W.Frag) (P : Program) (w : World) (hu : X.A.units + 8 < cLine) (nodup : X.N.Nodup) (hi : PI X tg iter wi) (ok : BlkOk X.N X.env.scope scope own)
  (hg : ∀ (z : Shared) (H : Hp) (C : Addr) (cl : List (PySem.Str × Addr)) (fp : List Addr), PG (X.blk z H scope (compEnvC scope cl C X.env) fp) tg g) (ht : ∀ (z : Shared) (H : Hp) (C : Addr) (cl : List (PySem.Str × Addr)) (fp : List Addr), PTs (X.blk z H scope (compEnvC scope cl C X.env) fp) ifs tt)
  (he : ∀ (z : Shared) (H : Hp) (C : Addr) (cl : List (PySem.Str × Addr)) (fp : List Addr), PE (X.blk z H scope (compEnvC scope cl C X.env) fp) elt te) (hv : own.map (·.2) = vs := by rfl) (hK : X.K = K := by rfl) (hP : X.prog = P := by rfl) (hw : X.w = w := by rfl) (calm : X.calm = true := by rfl) (fold : ∀ x, foldedSetIterable iter X.env x = pure x := by intro _; rfl) :
  PE X (.SetComp elt [⟨tg, iter, ifs, 0⟩] scope pos) (tScT P K w wi g tt te vs) := by subst hv hK hP hw; exact pe_scT hu calm nodup hi ok hg ht he fold
theorem klenS (K : PySem.W.Frag) (P : Program) (w : World) {X : L2.Cx} (hK : X.K = K := by rfl) (hP : X.prog = P := by rfl) (hw : X.w = w := by rfl) : CallR X (.builtin "len") (rLenT P K w) := by subst hK hP hw; exact klenT X.K
end
end R
namespace R
open PySem PySem.Spec PyProof.Rows L2 G
theorem Cal.imp {P : Program} {w : World} {K : PySem.W.Frag} {mg : Str → Option Value} {base : Heap} {cx : CXT} {k : Nat} {x : Str} {ps : List Str} {sp sp' : Sp} (c : Cal P w K mg base cx k x ps sp) (h : ∀ vs H Q E, sp' vs H Q E → sp vs H Q E) : Cal P w K mg base cx k x ps sp' := by
 obtain ⟨f, fd, F, r⟩ := c
 exact ⟨f, fd, F.imp h, r⟩
def f_take : PF := fun ws Q => match ws with
 | [.bag, .v (.int m)] => (0 < m ∧ m < 2 ^ 200) ∧ ∀ v : Int, 0 ≤ v → v < m → Q (.int v)
 | _ => False
section
variable {K : PySem.W.Frag}
theorem Rel.of_go {b : Addr} {F H H' : Hp} {v : V} {w : W} (fb : F b = none) (fh : Same F H) (g : Go b H H') (r : Rep K b F v w) : Rel (cx0 (K := K) b F H) F H' [] [] [(v, .sh w)] := by
 have kp : ∀ a o, H a = some o → a ≠ b → H' a = some o := fun a o h n => by
  have q := g.sm a o (by rw [hid_ne n]; exact h)
  rwa [hid_ne n] at q
 obtain ⟨x, b0, b1⟩ := g.bg
 refine ⟨⟨⟨x, b0, b1, fun z => z⟩, fb, Same.refl _, fun a o e => kp a o (fh _ _ e) (fun z => by rw [z, fb] at e; cases e), fun a h _ => h, fun a o h n _ => kp a o h n, fun a h => ?_, fun _ z => z⟩, rfl, fun _ => none, ⟨(fun a i h => nomatch h), (fun a i h => nomatch h), (fun a i h => nomatch h), (fun a i h => nomatch h)⟩, (fun i d h => nomatch h), .sh r, trivial⟩
 by_cases e : a = b
 ·obtain ⟨_, _, _, _, h1, _⟩ := b1
  rw [e, h1]; exact fun z => nomatch z
 ·cases q : H a with
  | none => exact absurd q h
  | some o => rw [kp a o q e]; exact fun z => nomatch z
theorem sp_take_of {vs : List V} {H : Hp} {Q : VK} {E : XK} (h : SpP K 2 f_take vs H Q E) : sp_take vs H Q E := by
 obtain ⟨b, F, ws, Qp, hb, fb, fh, rs, l, q, k⟩ := h
 unfold f_take at q
 split at q
 next m =>
  cases rs with
  | cons a rs =>
   cases rs with
   | cons c rs =>
    cases rs
    cases a
    cases c
    exact ⟨b, m, rfl, hb, q.1.1, q.1.2, fun v H' h0 h1 g => k _ _ _ _ _ _ (Rel.of_go fb fh g (.v _)) (q.2 v h0 h1)⟩
 next => exact q.elim
def runL (τ : TSQ) (n i : Nat) : Prop := τ { nx := fun _ => False, rt := fun d => d = .bl true } ((List.replicate n D.un).set i (.sh .bag))
theorem lawR {P : Program} {w : World} {mg : Str → Option Value} {base : Heap} {k n i : Nat} {x p : Str} {N : List Str} {st : Stmt} {τ : TSQ} (dd : Def K mg x st [p]) (S : FnScope N [p] (defScope st)) (hn : N.length = n) (hi : i < n) (hq : runL τ n i)
  (bd : ∀ (f : Addr) (cdv : Value) (A : Around) (out : List Env) (s : Shared) (H : Hp) (E : XK), A.guards = some [] → Room k (A.deeper (envOfC x (defScope st) s.heap.objs.size f cdv)) →
   ∃ t, PSs (cxOf CX0 P w K mg base N x (defScope st) f cdv A out s H E).nox (defBody st) (tSeq (tAsg (tCall (sp_bag K) [] (fun _ _ _ => False) (tCons (tVar 0) tNil)) (gName i)) t) ∧ ∀ (c : Cx K) [NoM c], SS c t τ) : CalG P w K mg base CX0 (k + 1) x [p] (sp_law K) := by
 refine dd.okG S (fun vs H Q E h => by obtain ⟨a, ns, rfl, _⟩ := h; rfl) fun f cdv A out s H vs Q E hg hr h => ?_
 obtain ⟨t, ht, hs⟩ := bd f cdv A out s H E hg hr
 obtain ⟨a, ns, rfl, hS, hl, hQ⟩ := h
 refine ⟨_, ht, .ref a, ?_, a, ns, rfl, hS, by omega, fun b H' hb e hbag => ?_⟩
 ·show (L2.start N [V.ref a])[0]? = _
  unfold L2.start
  rfl
 have hlen : (L2.start N [V.ref a]).length = n := by
  unfold L2.start
  have : 1 ≤ N.length := by omega
  simp only [List.length_append, List.length_map, List.length_cons, List.length_nil, List.length_replicate]
  omega
 obtain ⟨y, hy⟩ := hbag
 have r : Rel (cx0 (K := K) b (fun _ => none) H') (fun _ => none) H' ((L2.start N [V.ref a]).set i (some (.ref b))) ((List.replicate n D.un).set i (.sh .bag)) [] := by
  refine ⟨⟨⟨y, hy, hy, fun z => z⟩, rfl, Same.refl _, (fun a o z => nomatch z), fun a h _ => h, fun a o h _ _ => h, fun a h => h, fun _ z => z⟩, by rw [List.length_set, List.length_set, hlen, List.length_replicate], fun _ => none, ⟨(fun a i h => nomatch h), (fun a i h => nomatch h), (fun a i h => nomatch h), (fun a i h => nomatch h)⟩, fun j d h => ?_, trivial⟩
  by_cases hj : i = j
  ·subst hj
   rw [List.getElem?_set_self (by rw [List.length_replicate]; exact hi)] at h
   cases h
   exact .inr ⟨.ref b, List.getElem?_set_self (by rw [hlen]; exact hi), .sh .bag⟩
  ·rw [List.getElem?_set_ne hj] at h
   have := List.mem_of_getElem? h
   rw [List.mem_replicate] at this
   exact .inl this.2
 refine (hs _).sim (Eq := { nx := fun _ => False, rt := fun d => d = .bl true }) r hq ⟨fun _ z => z.elim, fun r z => ?_, fun _ z => z, fun _ z => z⟩
 subst z
 have e := r.topS.flat
 subst e
 exact hQ _
end
end R
namespace R
open PySem PySem.Spec PyProof.Rows L2 G
instance {a b vs : List Nat} [h : Within a vs] [k : Within b vs] : Within (a ++ b) vs := ⟨fun i hi => (List.mem_append.mp hi).elim (h.sub i) (k.sub i)⟩
structure ClsR (K : PySem.W.Frag) (mg : Str → Option Value) (C : Addr) (x : Str) : Prop where
 cl : Cls K C
 mgC : mg x = some (.ref C)
 mks : PySem.W.makesIn K C = true
 kc : PySem.W.keepIn K (.ref C) = true
theorem mdefI {P : Program} {w : World} {K : PySem.W.Frag} {mg : Str → Option Value} {base : Heap} {k n : Nat} {ps N : List Str} {st : Stmt} {τ : TSQ} {C : Addr} {x q : Str} (dd : MDef K C x q st ps) (S : FnScope N ps (defScope st)) (m : Nat) (hn : ps.length = n + 1) (hm : N.length = (n + 1) + m)
  (bd : ∀ (f : Addr) (cdv : Value) (A : Around) (out : List Env) (s : Shared) (H : Hp) (E : XK), Room k (A.deeper (envOfC q (defScope st) s.heap.objs.size f cdv)) →
   ∃ t, PSs (cxOf CX0 P w K mg base N q (defScope st) f cdv A out s H E).nox (defBody st) t ∧ ∀ c : Cx K, SS c t τ) : MCal P w K mg base CX0 (k + 1) C x ps (SpI K C n (runI C τ m)) :=
 dd.ok S (fun vs H Q E h => by rw [h.len, hn]) fun f cdv A out s H vs Q E hr h => by
  obtain ⟨t, ht, hs⟩ := bd f cdv A out s H E hr
  exact ⟨t, ht, h.run hm hs⟩
end R
namespace R
open PySem PySem.Spec PyProof.Rows L2 G
section
variable {K : PySem.W.Frag} {c : Cx K}
def oEqF (neg : Bool) : W → W → (D → Prop) → Prop := fun x y k => match x, y with
 | .v a, .v b => scal a b = true ∧ k (.bl (neg != decide (a = b)))
 | _, _ => False
instance : SOp c rEq (oEqF false) where
 sim {F H σ ρ ts x y w u Q Qp} rl hx hy h k := by
  unfold oEqF at h
  split at h
  next a b =>
   rw [hx.flat, hy.flat]
   exact ⟨h.1, k _ _ _ _ (rl.pushS (.v _)) (by have q := h.2; rwa [Bool.false_bne] at q)⟩
  next => exact h.elim
instance : SOp c rNe (oEqF true) where
 sim {F H σ ρ ts x y w u Q Qp} rl hx hy h k := by
  unfold oEqF at h
  split at h
  next a b =>
   rw [hx.flat, hy.flat]
   exact ⟨h.1, k _ _ _ _ (rl.pushS (.v _)) (by have q := h.2; rwa [Bool.true_bne] at q)⟩
  next => exact h.elim
def rIsC (K : PySem.W.Frag) (C : Addr) : List V → Hp → VK → Prop := fun xs H Q => ∃ x, xs = [x, .ref C] ∧ ((∃ a dx fs, x = .ref a ∧ H a = some (.ins C dx fs) ∧ Q (.bl true) H) ∨ (∃ T, T ∈ tys ∧ TyX K H x (.type T) ∧ Q (.bl false) H))
structure ClsI (K : PySem.W.Frag) (C : Addr) : Prop where
 ins : C8.InsC K C
 ty : ((PySem.W.clsIn K C).isSome && PySem.W.typeIn K (.ref C) == some (.type "type")) = true
theorem mro_no {C : Addr} : ∀ T ∈ tys, (fastBuiltinMro T).map (·.contains (Value.ref C)) = some false := by
 have : ∀ T ∈ tys, ∃ l : List String, fastBuiltinMro T = some (l.map Value.type) := by
  intro T h
  simp only [tys, List.mem_cons, List.not_mem_nil, or_false] at h
  rcases h with rfl | rfl | rfl | rfl | rfl | rfl | rfl | rfl
  ·exact ⟨["NoneType", "object"], by decide +kernel⟩
  ·exact ⟨["bool", "int", "object"], by decide +kernel⟩
  ·exact ⟨["int", "object"], by decide +kernel⟩
  ·exact ⟨["str", "object"], by decide +kernel⟩
  ·exact ⟨["list", "object"], by decide +kernel⟩
  ·exact ⟨["tuple", "object"], by decide +kernel⟩
  ·exact ⟨["dict", "object"], by decide +kernel⟩
  ·exact ⟨["set", "object"], by decide +kernel⟩
 intro T h
 obtain ⟨l, e⟩ := this T h
 rw [e]
 simp
theorem kitC {K : PySem.W.Frag} {C : Addr} {T : String} (cI : ClsI K C) (h : T ∈ tys) : PySem.W.kitOne K (.type T) (.ref C) = some false := by
 unfold PySem.W.kitOne
 rw [if_neg (by simp)]
 unfold PySem.W.kitCls
 show (if _ then _ else _) = _
 rw [if_pos cI.ty]
 exact mro_no T h
theorem kisC (K : PySem.W.Frag) {C : Addr} {X : L2.Cx} (cI : ClsI K C) (h : X.K = K := by rfl) : CallR X (.builtin "isinstance") (rIsC K C) := by
 subst h
 intro pins s σ H xs us Q I r h
 obtain ⟨x, rfl, h⟩ := h
 rcases h with ⟨a, dx, fs, rfl, ha, q⟩ | ⟨T, hT, ty, q⟩
 ·exact C8.call_isC cI.ins pins s σ H _ us Q I r ⟨a, dx, fs, rfl, ha, q⟩
 ·exact call_isi pins s σ H _ us Q I r ⟨x, .ref C, .type T, .ref C, false, rfl, .own C, ty, kitC cI hT, q⟩
def bIsC (C : Addr) : List W → (D → Prop) → Prop := fun xs k => match xs with
 | [x, .v (.ref C')] => C' = C ∧ match x with
  | .obj C1 _ _ => C1 = C ∧ k (.bl true)
  | x => (tyW x).isSome = true ∧ k (.bl false)
 | _ => False
instance {C : Addr} : SC c (rIsC K C) (bIsC C) where
 sim {F H σ ρ ts xs ws Q Qp} rl hx h k := by
  unfold bIsC at h
  split at h
  next x C' =>
   obtain ⟨v, u, rfl, hv, hu⟩ := hx.two
   obtain ⟨rfl, h⟩ := h
   rw [hu.flat]
   refine ⟨v, rfl, ?_⟩
   split at h
   next C1 fs us =>
    obtain ⟨rfl, h⟩ := h
    obtain ⟨a, dx, vs, rfl, h1, _⟩ := hv.obj rl.fr.fh
    exact .inl ⟨a, dx, _, rfl, h1, k _ _ _ _ (rl.pushS (.v _)) h⟩
   next =>
    cases e : tyW x with
    | none => rw [e] at h; cases h.1
    | some t => exact .inr ⟨t, tyW_mem e, tyW_of e hv rl.fr.fh, k _ _ _ _ (rl.pushS (.v _)) h.2⟩
  next => exact h.elim
end
section
variable {M : Model} {prog : Program} {w : World} {A : Around} {E : Value → Shared → Prop} {s : Shared} {K : PySem.W.Frag} {x y C f : Addr} {ox oy : Obj} {od od' : Option Obj}
theorem ifBound_objNe {args : List Value} {Q : Option Value → Shared → Prop} (X : K.In s.heap) (I : PySem.W.InstAt s.heap x ox C od) (hs : PySem.W.findIn K (.ref C) "__ne__" = some (some (.builtin "object.__ne__")))
  (h : wpAny M A (call (.builtin "object.__ne__") (.ref x :: args)) (fun v => Q (some v)) E s) : wpAny M A (callSpecialIfBound? (.ref x) "__ne__" args) Q E s := by
 simp only [callSpecialIfBound?, bindSpecialIfBound?]
 refine wpAny_holding (wpAny_bind (wpAny_bind (wpAny_bind (I.type.here ((PySem.W.looks_findIn X hs).here ?_)))))
 refine wpAny_bind (wpAny_askSetting (wpAny_ite ?_))
 have fin : wpAny M A (call (.builtin "object.__ne__") ([.ref x] ++ args) >>= fun v => pure (some v)) Q E s := wpAny_bind (wpAny_mono h (fun v s' h' => wpAny_pure h') fun _ _ h' => h')
 split
 ·exact wpAny_bind (wpAny_of_eq (F.cmp_object.ne.bind _) (wpAny_pure (by exact fin)))
 ·exact wpAny_tryCatch (wpAny_bind (wpAny_of_eq (F.cmp_object.ne.bind _) (wpAny_pure (by exact fin))))
theorem objNe_own {b : Value} (X : K.In s.heap) (I : PySem.W.InstAt s.heap x ox C od) (hs : PySem.W.findIn K (.ref C) "__eq__" = some (some (.ref f))) (hf : PySem.W.isFn K (.ref f) = true) (hu : A.units < cLine) {Q : Fin → Shared → Prop}
  (hcall : wpAny M A (call (.ref f) [.ref x, b]) (fun v s' => ∃ r, v = .bool r ∧ Q (.done (.ret (.bool (!r)))) s') E s) :
  wpAny M A (Builtin.«object.__ne__» ⟨[.ref x, b], []⟩) Q E s := by
 unfold Builtin.«object.__ne__»
 repeat (first
  | with_reducible refine wpAny_cRoomFor hu ?_
  | (refine wpAny_bind (m := callSpecialIfBound? (.ref x) (Str.ofString "__eq__") [b]) (PySem.W.ifBound_K X I hs hf (wpAny_mono hcall (fun r s' hr => by obtain ⟨b, rfl, hq⟩ := hr; repeat (first | exact hq | exact wpAny_pure hq | exact wpAny_truthy_bool hq | (refine wpAny_bind (m := truthy (.bool _)) (wpAny_truthy_bool ?_)) | wp_step)) fun _ _ e => e)))
  | wp_step)
theorem cmpNe_own (hu : A.units + 1 < cLine) (X : K.In s.heap) (I : PySem.W.InstAt s.heap x ox C od) (J : PySem.W.InstAt s.heap y oy C od') (hm : PySem.W.mroIn K C (.type "object") = some true)
  (hs : PySem.W.findIn K (.ref C) "__eq__" = some (some (.ref f))) (hf : PySem.W.isFn K (.ref f) = true) (hn : PySem.W.findIn K (.ref C) "__ne__" = some (some (.builtin "object.__ne__"))) {Q : Value → Shared → Prop}
  (hcall : wpAny (model prog w) A.in1 (call (.ref f) [.ref x, .ref y]) (fun v s' => ∃ r, v = .bool r ∧ Q (.bool (!r)) s') E s) :
  wpAny (model prog w) A (richCompare .NotEq (.ref x) (.ref y)) Q E s := by
 have one : wpAny (model prog w) A (tryCompare (.ref x) "__ne__" (.ref y)) (fun r s' => ∃ v, r = some v ∧ Q v s') E s := by
  unfold tryCompare
  refine wpAny_bind (ifBound_objNe X I hn (wpAny_call (codeAny_call_builtin F.cmp_object.ne.plain F.cmpEntry_ne (PySem.W.check_slot F.cmpKind_ne F.cmpSplit_ne (I.type.andThen (PySem.W.looks_mroIn X hm)) (F.cmpArgs_ne _ _) (objNe_own (A := A.in1) X I hs hf hu (wpAny_mono hcall (fun v s' hv => ?_) fun _ _ e => e))))))
  obtain ⟨r, rfl, q⟩ := hv
  first | exact ⟨r, rfl, wpAny_pure ⟨_, rfl, q⟩⟩ | exact ⟨r, rfl, _, rfl, q⟩ | skip
 unfold richCompare
 simp only [oneThing_ref]
 refine wpAny_holding (wpAny_bind (wpAny_cRoomFor (Nat.lt_of_succ_lt hu) ?_))
 rw [cmpInfo_NotEq]
 dsimp only
 refine wpAny_bind (I.type.here (wpAny_bind (J.type.here ?_)))
 rw [show (Value.ref C != Value.ref C) = false from by simp]
 simp only [Bool.false_eq_true, if_false]
 refine wpAny_bind (wpAny_pure ?_)
 simp only [Bool.false_eq_true, if_false]
 refine wpAny_bind (wpAny_mono one (fun r s' z => ?_) fun _ _ e => e)
 obtain ⟨v, rfl, hq⟩ := z
 exact wpAny_pure hq
end
structure ClsE (K : PySem.W.Frag) (C : Addr) : Prop where
 isi : ClsI K C
 ne : PySem.W.findIn K (.ref C) "__ne__" = some (some (.builtin "object.__ne__"))
section
def rCmpO (neg : Bool) (C : Addr) (sp : Sp) (E : XK) : R2 := fun x y H Q => ∃ a b dx fs dy gs, x = .ref a ∧ y = .ref b ∧ H a = some (.ins C dx fs) ∧ H b = some (.ins C dy gs) ∧ sp [.ref a, .ref b] H (fun v H' => ∃ r : Bool, v = .bl r ∧ Q (.bl (neg != r)) H') E
variable {X : L2.Cx} {cx : CXT} {k : Nat} {C : Addr} {ps : List Str} {sp : Sp} {E : XK}
theorem runEq {f : Addr} {fd : FuncData} {A : Around} {H : Hp} {s : Shared} {σ : L2.St} {pins : List (Addr × Obj)} {a b : Addr} {Q : Value → Shared → Prop} {R : V → Hp → Prop} (F : FnOk X.prog X.w X.K X.mg X.base cx k f fd ps sp) (bd : Binds X.K fd ps []) (I : Inv X pins σ H s) (e0 : Env0 X.prog X.w X.K X.mg X.base A X.stack s H) (hr : Room k A) (hx : Passes cx X E)
  (q : sp [.ref a, .ref b] H R E) (kk : ∀ v H' s', Inv X pins σ H' s' → R v H' → ∀ u, RelV v u → Q u s') : wpAny (model X.prog X.w) A (call (.ref f) [.ref a, .ref b]) Q X.xe s := by
 have r2 : Vals [V.ref a, V.ref b] [Value.ref a, Value.ref b] := .cons rfl (.cons rfl .nil)
 have hl : [Value.ref a, Value.ref b].length = ps.length := by rw [← r2.length]; exact F.len _ _ _ _ q
 refine wpAny_call (codeAny_mono (F.run A X.stack s H ⟨[.ref a, .ref b], []⟩ [.ref a, .ref b] [.ref a, .ref b] _ E hr e0 (bd s [.ref a, .ref b] I.kIn hl) r2 q) fun rr s' hq => ?_)
 cases rr with
 | error e => exact hx pins σ H s e s' I hq
 | ok fl =>
  cases fl with
  | ret u =>
   obtain ⟨v, H', I3, rv, q3⟩ := I.after hq
   exact kk v H' s' I3 q3 u rv
  | next => exact False.elim hq
  | brk => exact False.elim hq
  | cont => exact False.elim hq
theorem kneO (c : MCal X.prog X.w X.K X.mg X.base cx k C "__eq__" ps sp) (hm : PySem.W.mroIn X.K C (.type "object") = some true) (hn : PySem.W.findIn X.K (.ref C) "__ne__" = some (some (.builtin "object.__ne__"))) (hr : Room (k + 1) X.A) (hx : Passes cx X E) : OpR X (compareOp .NotEq) (rCmpO true C sp E) := by
 obtain ⟨f, fd, F, mt, bd⟩ := c
 intro pins s σ H x y v u Q I rx ry h
 obtain ⟨a, b, dx, fs, dy, gs, rfl, rfl, ha, hb, q⟩ := h
 cases rx
 cases ry
 obtain ⟨mA, J, _⟩ := ins_get I.hok ha
 obtain ⟨mB, J', _⟩ := ins_get I.hok hb
 obtain ⟨od, J, _⟩ := J.look
 obtain ⟨od', J', _⟩ := J'.look
 show wpAny (model X.prog X.w) X.A (richCompare .NotEq (.ref a) (.ref b)) (EP X pins σ Q) X.xe s
 refine cmpNe_own hr.in1.units0 I.kIn J J' hm mt.at_ mt.fn hn ?_
 refine runEq F bd I I.env0.in1 hr.in1 hx q fun v H' s' I3 z u ru => ?_
 obtain ⟨r, rfl, z⟩ := z
 cases ru
 rw [Bool.true_bne] at z
 exact ⟨r, rfl, .bl (!r), H', I3, rfl, z⟩
end
section
variable {K : PySem.W.Frag} {c : Cx K}
def isIns (C : Addr) (w : W) (k : Prop) : Prop := match w with
 | .obj C' _ _ => C' = C ∧ k
 | _ => False
def asBo (d : D) (k : Bool → Prop) : Prop := match d with
 | .sh (.v (.bl r)) => k r
 | _ => False
def qCmpO (neg : Bool) (C : Addr) (f : PF) (ta tb : TQ) : TQ := fun ρ Q => ta ρ fun ρ1 d => lookD d fun w => tb ρ1 fun ρ2 d2 => lookD d2 fun u => isIns C w (isIns C u (f [w, u] fun d => asBo d fun r => Q ρ2 (.bl (neg != r))))
theorem isIns_of {C : Addr} {w : W} {k : Prop} {F H : Hp} {v : V} (h : isIns C w k) (r : Rep K c.b F v w) (e : Same F H) : ∃ a dx fs, v = .ref a ∧ H a = some (.ins C dx fs) ∧ k := by
 unfold isIns at h
 split at h
 next C' fs us =>
  obtain ⟨rfl, h⟩ := h
  cases r with
  | obj a l r => exact ⟨_, _, _, rfl, e _ _ a, h⟩
 next => exact h.elim
instance (priority := 2000) {neg : Bool} {C : Addr} {f : PF} {E : XK} {ta tb : TE} {τa τb : TQ} [SE c ta τa] [SE c tb τb] : SE c (tOp (rCmpO neg C (SpP K 2 f) E) ta tb) (qCmpO neg C f τa τb) where
 sim {F H σ ρ ts Q Qp} rl h k := SE.simW (t := ta) (Qp := fun ρ1 w => τb ρ1 fun ρ2 d2 => lookD d2 fun u => isIns C w (isIns C u (f [w, u] fun d => asBo d fun r => Qp ρ2 (.bl (neg != r))))) rl h fun v w ρ1 F1 H1 r1 q1 => SE.simW (t := tb) (Qp := fun ρ2 u => isIns C w (isIns C u (f [w, u] fun d => asBo d fun r => Qp ρ2 (.bl (neg != r))))) r1 q1 fun v2 w2 ρ2 F2 H2 r2 q2 => by
  have t2 := r2.topS
  have t1 := r2.pop.topS
  obtain ⟨a, dx, fs, rfl, h1, q3⟩ := isIns_of q2 t1 r2.fr.fh
  obtain ⟨b, dy, gs, rfl, h2, q4⟩ := isIns_of q3 t2 r2.fr.fh
  refine ⟨a, b, dx, fs, dy, gs, rfl, rfl, h1, h2, c.b, F2, [w, w2], fun d => asBo d fun r => Qp ρ2 (.bl (neg != r)), r2.fr.bag, r2.fr.fb, r2.fr.fh, .cons t1 (.cons t2 .nil), rfl, q4, fun v d F' H' σ' ρ' r3 q5 => ?_⟩
  replace q5 : asBo d (fun r => Qp ρ2 (.bl (neg != r))) := q5
  unfold asBo at q5
  split at q5
  next r =>
   have r4 := r2.pop.pop.ret r3
   exact ⟨r, r4.topS.flat, k _ _ _ _ _ (r4.pop.pushS (.v _)) q5⟩
  next => exact q5.elim
end
end R
namespace R
open PySem PySem.Spec PyProof.Rows L2 G
section
variable {K : PySem.W.Frag} {c : Cx K}
theorem fz_set {ρ : List D} {i : Nat} {d : D} {w : W} (hi : ρ[i]? = some d) (hw : d.fz = some w) {p : PV} {k : W → Prop} (q : look ρ p k) : look (ρ.set i (.sh w)) p k := by
 cases p with
 | inr u => exact q
 | inl j =>
  unfold look at q ⊢
  dsimp only at q ⊢
  by_cases e : i = j
  ·subst e
   rw [hi] at q
   rw [List.getElem?_set_self (get_lt hi)]
   obtain ⟨u, hu, q⟩ := lookD_ex q
   rw [hw] at hu
   cases hu
   show lookD (D.sh w) k
   unfold lookD
   rw [show (D.sh w).fz = some w from by rw [D.fz]]
   exact q
  ·rw [List.getElem?_set_ne e]
   exact q
theorem fz_setL {ρ : List D} {i : Nat} {d : D} {w : W} (hi : ρ[i]? = some d) (hw : d.fz = some w) : ∀ {ps : List PV} {k : List W → Prop}, lookL ρ ps k → lookL (ρ.set i (.sh w)) ps k
 | [], k, q => q
 | p :: ps, k, q => by
  have q' : look ρ p fun w => lookL ρ ps fun ws => k (w :: ws) := q
  have mono : ∀ {p : PV} {k1 k2 : W → Prop}, (∀ w, k1 w → k2 w) → look ρ p k1 → look ρ p k2 := fun {p k1 k2} hk h => by
   cases p with
   | inr u => exact hk _ h
   | inl j =>
    unfold look at h ⊢
    dsimp only at h ⊢
    split at h
    next d e =>
     unfold lookD at h ⊢
     split at h
     next => exact hk _ h
     next => exact h.elim
    next => exact h.elim
  exact fz_set hi hw (mono (fun u q => fz_setL hi hw q) q')
theorem Rel.frzP {F H : Hp} {σ : L2.St} {ρ : List D} {ts : List (V × D)} (r : Rel c F H σ ρ ts) {v : V} {p : PV} {k : W → Prop} (h : Has1 σ ts v p) (q : look ρ p k) : ∃ F' ρ' w, Same F F' ∧ Rep K c.b F' v w ∧ Rel c F' H σ ρ' ts ∧ k w ∧ ∀ {ps : List PV} {k : List W → Prop}, lookL ρ ps k → lookL ρ' ps k := by
 cases p with
 | inr w => exact ⟨F, ρ, w, Same.refl _, r.mem h, r, q, fun z => z⟩
 | inl i =>
  unfold look at q
  dsimp only at q
  split at q
  next d e =>
   obtain ⟨w, hw, q⟩ := lookD_ex q
   obtain ⟨F', v', s, h1, h2, r'⟩ := r.frzS e hw
   rw [show σ[i]? = some (some v) from h] at h1
   cases h1
   exact ⟨F', _, w, s, h2, r', q, fun z => fz_setL e hw z⟩
  next => exact q.elim
theorem Rel.frzL : ∀ {F H : Hp} {σ : L2.St} {ρ : List D} {ts ts' : List (V × D)} {vs : List V} {ps : List PV} {k : List W → Prop}, Rel c F H σ ρ ts' → PvsOk σ ts vs ps ts' → lookL ρ ps k → ∃ F' ρ' ws, Same F F' ∧ RepL K c.b F' vs ws ∧ Rel c F' H σ ρ' ts' ∧ k ws
 | F, _, _, ρ, _, _, _, _, _, r, .nil, q => ⟨F, ρ, [], Same.refl _, .nil, r, q⟩
 | _, _, _, _, _, _, _, _, _, r, .cons a b, q => by
  obtain ⟨F1, ρ1, w, s1, h1, r1, q1, up⟩ := r.frzP (a.has.1.up b.sub) q
  obtain ⟨F2, ρ2, ws, s2, h2, r2, q2⟩ := r1.frzL b (up q1)
  exact ⟨F2, ρ2, w :: ws, s1.trans s2, .cons (Rep.up s2 _ _ h1) h2, r2, q2⟩
theorem Rel.lent {b : Addr} {F F1 H F' H' : Hp} {σ' : L2.St} {ρ' : List D} {ts' : List (V × D)} {v : V} {w : W} (fb : F b = none) (fh : Same F H) (q : Rel (cx0 (K := K) b F1 H) F' H' σ' ρ' ts') (r : Rep K b F v w) : Rel (cx0 (K := K) b F H) F H' [] [] [(v, .sh w)] := by
 obtain ⟨x, b0, b1, _⟩ := q.fr.bg
 have kp : ∀ a o, H a = some o → a ≠ b → H' a = some o := fun a o h n => q.fr.kp a o h n (fun z => z)
 exact ⟨⟨⟨x, b0, b1, fun z => z⟩, fb, Same.refl _, fun a o e => kp a o (fh _ _ e) (fun z => by rw [z, fb] at e; cases e), fun a h _ => h, fun a o h n _ => kp a o h n, fun a h => q.fr.al a h, fun _ z => z⟩, rfl, fun _ => none, ⟨(fun a i h => nomatch h), (fun a i h => nomatch h), (fun a i h => nomatch h), (fun a i h => nomatch h)⟩, (fun i d h => nomatch h), .sh r, trivial⟩
def flatD (d : D) (k : D → Prop) : Prop := match d with
 | .sh (.v x) => k (.sh (.v x))
 | _ => False
def bF (n : Nat) (f : PF) : List W → (D → Prop) → Prop := fun ws k => ws.length = n ∧ f ws fun d => flatD d k
def tCallV (sp : Sp) (E : XK) (t : TA) : TE := tCall sp [] E t
instance {n : Nat} {f : PF} {E : XK} {t : TA} {τ : TVAQ} [SVA c t τ] : SE c (tCallV (SpP K n f) E t) (qCB (bF n f) τ) where
 sim {F H σ ρ ts Q Qp} rl h k := SVA.sim (t := t) rl h fun vs ps ρ1 F1 H1 ts1 p1 r1 q1 => by
  obtain ⟨F2, ρ2, ws, s, rs, r2, l, q⟩ := r1.frzL p1 q1
  refine ⟨c.b, F2, ws, fun d => flatD d fun d => Qp ρ1 d, r2.fr.bag, r2.fr.fb, r2.fr.fh, by rw [List.append_nil]; exact rs, l, q, fun v d F' H' σ' ρ' r3 q3 => ?_⟩
  replace q3 : flatD d fun d => Qp ρ1 d := q3
  unfold flatD at q3
  split at q3
  next x =>
   have e := r3.topS.flat
   subst e
   exact k _ _ _ _ _ (p1.back (r1.ret (Rel.lent r1.fr.fb r1.fr.fh r3 (.v _)))) q3
  next => exact q3.elim
theorem pe_cV {X : L2.Cx} {e : Expr} {es : List Expr} {t : TA} {cx : CXT} {k : Nat} {x : Str} {ps : List Str} {sp : Sp} {E : XK} {p pos : Pos} (c : Cal X.prog X.w X.K X.mg X.base cx k x ps sp) (hr : Room k X.A) (hx : Passes cx X E) (ha : PA X (e :: es) t) (hg : Gl X x := by rfl) (hdb : (x == ("__debug__" : Str)) = false := by decide)
  (he : starEach (e :: es) X.env = (false, eval e X.env) :: starEach es X.env := by rfl) (hpl : (backTo pos (starEach es X.env)).any (·.1) = false := by rfl) : PE X (.Call (.Name x p) (e :: es) [] pos) (tCallV sp E t) := pe_c c hr hx ha hg hdb he hpl
theorem pe_cGV {X : L2.Cx} {e : Expr} {es : List Expr} {t : TA} {cx : CXT} {k : Nat} {x : Str} {ps : List Str} {sp : Sp} {E : XK} {p pos : Pos} (c : CalG X.prog X.w X.K X.mg X.base cx k x ps sp) (hgu : X.A.guards = some []) (hr : Room k X.A) (hx : Passes cx X E) (ha : PA X (e :: es) t) (hg : Gl X x := by rfl) (hdb : (x == ("__debug__" : Str)) = false := by decide)
  (he : starEach (e :: es) X.env = (false, eval e X.env) :: starEach es X.env := by rfl) (hpl : (backTo pos (starEach es X.env)).any (·.1) = false := by rfl) : PE X (.Call (.Name x p) (e :: es) [] pos) (tCallV sp E t) := pe_cG c hgu hr hx ha hg hdb he hpl
end
end R
namespace R
open PySem PySem.Spec PyProof.Rows L2 G
section
variable {X : L2.Cx} {e : Expr} {es : List Expr} {ta : TA} {p1 p2 pos : Pos} {n : Str} {L : Addr}
end
section
variable {X : L2.Cx}
end
end R
namespace R
open PySem PySem.Spec PyProof.Rows L2 G
inductive Ek where
 | leadError | wrong | notLegal | stopped | noBundle | frozen | notValid | notLed | impossible | tooMany | nothing | noText | noCommand
 deriving DecidableEq
def Ek.flds : Ek → List Str
 | .wrong => ["place"]
 | .stopped => ["block", "turn", "run"]
 | .noBundle => ["one", "other"]
 | .frozen => ["bundle"]
 | .notValid => ["broker"]
 | .notLed => ["broker"]
 | .impossible => ["at"]
 | .tooMany => ["limit"]
 | _ => []
def Ad.ex (A : Ad) : Ek → Addr
 | .leadError => A.LeadError
 | .wrong => A.Wrong
 | .notLegal => A.NotLegal
 | .stopped => A.Stopped
 | .noBundle => A.NoBundle
 | .frozen => A.Frozen
 | .notValid => A.NotValid
 | .notLed => A.NotLed
 | .impossible => A.Impossible
 | .tooMany => A.TooMany
 | .nothing => A.Nothing
 | .noText => A.NoText
 | .noCommand => A.NoCommand
def Ek.sub (k k' : Ek) : Bool := decide (k' = .leadError) || decide (k = k')
structure ExC (K : PySem.W.Frag) (A : Ad) (k : Ek) : Prop where
 ox : OexC K (A.ex k)
 nf : ∀ f ∈ k.flds, PySem.W.findIn K (.ref (A.ex k)) f = some none
 ga : PySem.W.findIn K (.ref (A.ex k)) "__getattribute__" = some (some (.builtin "BaseException.__getattribute__"))
 gg : PySem.W.findIn K (.ref (A.ex k)) "__getattr__" = some none
 hd : PySem.W.hasDictIn K (A.ex k) = true
 cl : PySem.W.isClsIn K (A.ex k) = true
 ha : PySem.W.findIn K (.ref (A.ex k)) "__class__" = some (some (.builtin "object.__class__"))
 hn : PySem.W.specialIn K (.builtin "object.__class__") "__get__" = some (some (.builtin "getset_descriptor.__get__"))
 ht : PySem.W.takesIn K (.builtin "object.__class__") = some true
 hm : PySem.W.mroIn K (A.ex k) (.type "object") = some true
 ve : PySem.W.subIn K (.ref (A.ex k)) (.type "ValueError") = some true
def SpE (A : Ad) (k : Ek) : Sp := fun vs H Q _ => ∃ a us, vs = .ref a :: us ∧ us.length = k.flds.length ∧ H a = some (exo a (A.ex k) none) ∧ (k.flds = [] → Q .non H) ∧
 ∀ dx H', k.flds ≠ [] → H dx = none → dx ≠ a → H' a = some (exo a (A.ex k) (some dx)) → H' dx = some (exd dx (k.flds.zip us).reverse) → (∀ b, b ≠ a → b ≠ dx → H' b = H b) → Q .non H'
section
variable {K : PySem.W.Frag} {A : Ad} {k : Ek} {vs : List V} {H : Hp} {Q : VK} {E : XK} {m : Str}
theorem SpE.len (h : SpE A k vs H Q E) : vs.length = k.flds.length + 1 := by
 obtain ⟨a, us, rfl, hl, _⟩ := h
 rw [List.length_cons, hl]
theorem ex1 {N : List Str} {f : Str} (hN : N.length = 2) (T : ExC K A k) (hk : k.flds = [f]) (h : SpE A k vs H Q E) : tSeq (tDrop (tVeI K (tCons (tVar 0) (tCons (tC (.str m)) tNil)))) (tOst K f (tVar 0) (tVar 1)) { nx := fun _ H' => Q .non H', rt := Q } (L2.start N vs) H := by
 obtain ⟨a, us, rfl, hl, ha, _, q⟩ := h
 rw [hk] at hl
 match us, hl with
 | [u], _ =>
  refine ⟨.ref a, by unfold L2.start; rfl, a, _, [.str m], rfl, by simp, T.ox, ha, u, by unfold L2.start; rfl, .ref a, by unfold L2.start; rfl, a, _, rfl, T.ox, T.nf f (by rw [hk]; simp), .inl ⟨ha, fun dx h1 h2 => ?_⟩⟩
  refine q dx _ (by rw [hk]; simp) h1 h2 upd_same ?_ fun b n1 n2 => ?_
  ·rw [upd_ne h2, upd_same, hk]; rfl
  ·rw [upd_ne n1, upd_ne n2]
theorem ex2 {N : List Str} {f g : Str} (hN : N.length = 3) (T : ExC K A k) (hk : k.flds = [f, g]) (h : SpE A k vs H Q E) : tSeq (tDrop (tVeI K (tCons (tVar 0) (tCons (tC (.str m)) tNil)))) (tSeq (tOst K f (tVar 0) (tVar 1)) (tOst K g (tVar 0) (tVar 2))) { nx := fun _ H' => Q .non H', rt := Q } (L2.start N vs) H := by
 obtain ⟨a, us, rfl, hl, ha, _, q⟩ := h
 rw [hk] at hl
 match us, hl with
 | [u, v], _ =>
  refine ⟨.ref a, by unfold L2.start; rfl, a, _, [.str m], rfl, by simp, T.ox, ha, u, by unfold L2.start; rfl, .ref a, by unfold L2.start; rfl, a, _, rfl, T.ox, T.nf f (by rw [hk]; simp), .inl ⟨ha, fun dx h1 h2 => ?_⟩⟩
  refine ⟨v, by unfold L2.start; rfl, .ref a, by unfold L2.start; rfl, a, _, rfl, T.ox, T.nf g (by rw [hk]; simp), .inr ⟨dx, _, upd_same, by rw [upd_ne h2, upd_same], by simp, ?_⟩⟩
  refine q dx _ (by rw [hk]; simp) h1 h2 (by rw [upd_ne h2.symm, upd_same]) ?_ fun b n1 n2 => ?_
  ·rw [upd_same, hk]; rfl
  ·rw [upd_ne n2, upd_ne n1, upd_ne n2]
end
section
variable {K : PySem.W.Frag} {c : Cx K} {A : Ad}
end
section
variable {P : Program} {w : World} {K : PySem.W.Frag} {mg : Str → Option Value} {base : Heap} {k : Nat} {x : Str} {ps N : List Str} {st : Stmt} {A : Ad}
end
end R
namespace R
open PySem PySem.Spec PyProof.Rows L2 G
structure IsC (K : PySem.W.Frag) (C : Addr) : Prop where
 cl : PySem.W.isClsIn K C = true
 ga : PySem.W.findIn K (.ref C) "__getattribute__" = some (some (.builtin "BaseException.__getattribute__"))
 gg : PySem.W.findIn K (.ref C) "__getattr__" = some none
 sb : PySem.W.subIn K (.ref C) (.type "BaseException") = some true
 ha : PySem.W.findIn K (.ref C) "__class__" = some (some (.builtin "object.__class__"))
 hn : PySem.W.specialIn K (.builtin "object.__class__") "__get__" = some (some (.builtin "getset_descriptor.__get__"))
 ht : PySem.W.takesIn K (.builtin "object.__class__") = some true
 hm : PySem.W.mroIn K C (.type "object") = some true
theorem ExC.is {K : PySem.W.Frag} {A : Ad} {k : Ek} (h : ExC K A k) : IsC K (A.ex k) := ⟨h.cl, h.ga, h.gg, h.ox.exC, h.ha, h.hn, h.ht, h.hm⟩
section
variable (K : PySem.W.Frag) {X : L2.Cx} {x n : Str} {c : Value} {i : Nat} {body suite : List Stmt} {b₀ : Stmt} {np pos pos' : Pos} {tb : WX → TS} {ts : Addr → Value → Option Addr → TS} {Wout : WX}
end
section
variable {K : PySem.W.Frag} {c : Cx K} {A : Ad}
end
end R
namespace R
open PySem PySem.Spec PyProof.Rows L2 G
section
variable {X : L2.Cx} {W : WX} {A : Ad} {k : Nat} {ek : Ek} {x : Str} {ps : List Str} {sp : Sp} {p pos : Pos} {e : Expr} {es : List Expr} {t : TA}
end
section
variable {P : Program} {w : World} {K : PySem.W.Frag} {mg : Str → Option Value} {base : Heap} {k : Nat} {ps N : List Str} {st : Stmt} {A : Ad} {ek : Ek} {q : Str}
end
end R
namespace R
open PySem PySem.Spec PyProof.Rows L2 G
def stk : List V → List D → List (V × D) → List (V × D)
 | v :: vs, d :: ds, ts => stk vs ds ((v, d) :: ts)
 | _, _, ts => ts
abbrev TDQ := List D → (List D → List D → Prop) → Prop
class SDA {K : PySem.W.Frag} (c : Cx K) (t : TA) (n : outParam Nat) (τ : outParam TDQ) : Prop where
 sim : ∀ {F H : Hp} {σ : L2.St} {ρ : List D} {ts : List (V × D)} {Q : List V → Hp → Prop} {Qp : List D → List D → Prop}, Rel c F H σ ρ ts → τ ρ Qp → (∀ vs ds ρ' F' H', vs.length = n → ds.length = n → Rel c F' H' σ ρ' (stk vs ds ts) → Qp ρ' ds → Q vs H') → t σ H Q
section
variable {K : PySem.W.Frag} {c : Cx K}
def nNil : TDQ := fun ρ Q => Q ρ []
def nCons (a : TQ) (t : TDQ) : TDQ := fun ρ Q => a ρ fun ρ1 d => t ρ1 fun ρ2 ds => Q ρ2 (d :: ds)
def qMove (i : Nat) : TQ := fun ρ Q => match ρ[i]? with
 | some .un => False
 | some d => Q (ρ.set i .un) d
 | none => False
instance : SDA c tNil 0 nNil where
 sim {F H σ ρ ts Q Qp} rl h k := k [] [] _ _ _ rfl rfl rl h
instance (priority := 100) {ta : TE} {t : TA} {n : Nat} {τa : TQ} {τ : TDQ} [SE c ta τa] [SDA c t n τ] : SDA c (tCons ta t) (n + 1) (nCons τa τ) where
 sim {F H σ ρ ts Q Qp} rl h k := SE.sim (t := ta) rl h fun v d ρ1 F1 H1 r1 q1 => SDA.sim (t := t) r1 q1 fun vs ds ρ2 F2 H2 l1 l2 r2 q2 => k (v :: vs) (d :: ds) _ _ _ (by rw [List.length_cons, l1]) (by rw [List.length_cons, l2]) r2 q2
instance (priority := 2000) {i : Nat} {t : TA} {n : Nat} {τ : TDQ} [SDA c t n τ] : SDA c (tCons (tVar i) t) (n + 1) (nCons (qMove i) τ) where
 sim {F H σ ρ ts Q Qp} rl h k := by
  unfold nCons qMove at h
  dsimp only at h
  split at h
  next => exact h.elim
  next d nd e =>
   obtain ⟨v, h1, r1⟩ := rl.take e (fun z => nd z)
   exact ⟨v, h1, SDA.sim (t := t) r1 h fun vs ds ρ2 F2 H2 l1 l2 r2 q2 => k (v :: vs) (d :: ds) _ _ _ (by rw [List.length_cons, l1]) (by rw [List.length_cons, l2]) r2 q2⟩
  next => exact h.elim
theorem TsOk.stk {F H : Hp} {om : Om} : ∀ {vs : List V} {ds : List D} {ts : List (V × D)}, vs.length = ds.length → TsOk c F H om (R.stk vs ds ts) → TsOk c F H om ts ∧ ∀ (j : Nat) v d, vs[j]? = some v → ds[j]? = some d → Ow c F H (fun a => om a = some (.inr (ts.length + j))) v d
 | [], [], ts, _, h => ⟨h, fun j v d e => nomatch e⟩
 | [], _ :: _, _, l, _ => nomatch l
 | _ :: _, [], _, l, _ => nomatch l
 | v :: vs, d :: ds, ts, l, h => by
  obtain ⟨h1, h2⟩ := TsOk.stk (vs := vs) (ds := ds) (ts := (v, d) :: ts) (by simpa using l) h
  refine ⟨h1.2, fun j u e q1 q2 => ?_⟩
  cases j with
  | zero => cases q1; cases q2; exact h1.1
  | succ j =>
   have := h2 j u e (by simpa using q1) (by simpa using q2)
   rw [List.length_cons] at this
   rwa [show ts.length + (j + 1) = ts.length + 1 + j by omega]
theorem Rel.pack {F H : Hp} {σ : L2.St} {ρ : List D} {ts : List (V × D)} {vs : List V} {ds : List D} {p : Addr} (r : Rel c F H σ ρ (R.stk vs ds ts)) (l : vs.length = ds.length) (hp : H p = none) : Rel c F (upd H p (.tup vs)) σ ρ ((.ref p, .ntup ds) :: ts) := by
 obtain ⟨om, k, s, t⟩ := r.ex
 obtain ⟨t1, t2⟩ := TsOk.stk l t
 have np : ∀ a i, om a = some i → a ≠ p := fun a i h z => k.th a i h (by rw [z]; exact hp)
 have nb : p ≠ c.b := by obtain ⟨x, _, b1, _⟩ := r.fr.bg; exact (BagC.ne b1 hp).1
 let cm : Addr → Nat := fun x => match om x with
  | some (.inr j) => j - ts.length
  | _ => 0
 let om' : Om := fun x => if x = p then some (.inr ts.length) else match om x with
  | some (.inl i) => some (.inl i)
  | some (.inr j) => if ts.length ≤ j then some (.inr ts.length) else some (.inr j)
  | none => none
 have from' : ∀ a i, om' a = some i → a = p ∨ ∃ i', om a = some i' := fun a i h => by
  by_cases e : a = p
  ·exact .inl e
  ·right
   simp only [om'] at h
   rw [if_neg e] at h
   cases q : om a with
   | none => rw [q] at h; cases h
   | some i' => exact ⟨i', rfl⟩
 refine ⟨r.fr.newO hp, r.len, om', ⟨fun a i h => ?_, fun a i h => ?_, fun a i h => ?_, fun a i h => ?_⟩, fun i d h => (s i d h).mono (Same.refl _) (fun a u _ e => same_new hp _ _ e) fun a z => ?_, ?_, t1.mono (Same.refl _) (fun a j u _ _ e => same_new hp _ _ e) fun a j lj z => ?_⟩
 ·rcases from' a i h with e | ⟨i', e⟩
  ·rw [e]; exact nb
  ·exact k.nb a i' e
 ·rcases from' a i h with e | ⟨i', e⟩
  ·rw [e]; exact r.fr.fh.free hp
  ·exact k.nf a i' e
 ·rcases from' a i h with e | ⟨i', e⟩
  ·rw [e, upd_same]; exact fun z => nomatch z
  ·rw [upd_ne (np a i' e)]; exact k.th a i' e
 ·rcases from' a i h with e | ⟨i', e⟩
  ·rw [e]; exact .inl (r.fr.h0 hp)
  ·exact k.mn a i' e
 ·simp only [om']
  rw [if_neg (np a _ z), z]
 ·refine .ntup cm (by simp [om']) (r.fr.nm (r.fr.h0 hp)) upd_same l fun j v d h1 h2 => (t2 j v d h1 h2).mono (Same.refl _) (fun a u _ e => same_new hp _ _ e) fun a z => ?_
  have z' : om a = some (.inr (ts.length + j)) := z
  refine ⟨?_, np a _ z', ?_⟩
  ·simp only [om']
   rw [if_neg (np a _ z'), z']
   simp
  ·simp only [cm]
   rw [z']
   simp
 ·simp only [om']
  rw [if_neg (np a _ z), z]
  simp only
  rw [if_neg (by omega)]
def tTupN (t : TA) : TE := tTup t
def qNTup (t : TDQ) : TQ := fun ρ Q => t ρ fun ρ1 ds => Q ρ1 (.ntup ds)
instance {t : TA} {n : Nat} {τ : TDQ} [SDA c t n τ] [z : SmN 60 n] : SE c (tTupN t) (qNTup τ) where
 sim {F H σ ρ ts Q Qp} rl h k := SDA.sim (t := t) rl h fun vs ds ρ1 F1 H1 l1 l2 r1 q1 => ⟨le_line (by rw [l1]; exact z.le) (by decide), fun p hp => k _ _ _ _ _ (r1.pack (by rw [l1, l2]) hp) q1⟩
theorem pe_tupN {X : L2.Cx} {es : List Expr} {t : TA} {k : Nat} {pos : Pos} (h : PE X (.Tuple es k pos) (tTup t)) : PE X (.Tuple es k pos) (tTupN t) := h
end
end R
namespace R
open PySem PySem.Spec PyProof.Rows L2 G
section
variable {K : PySem.W.Frag} {c : Cx K} {A : Ad}
end
end R
namespace R
open PySem PySem.Spec PyProof.Rows L2 G
def keyIs : List Key → Option (List Int)
 | [] => some []
 | .inl i :: ks => (keyIs ks).map (i :: ·)
 | _ => none
@[simp] theorem keyIs_map (is : List Int) : keyIs (is.map Sum.inl) = some is := by
 induction is with
 | nil => rfl
 | cons i is ih => rw [List.map_cons, keyIs, ih]; rfl
section
variable {K : PySem.W.Frag} {c : Cx K}
end
end R
namespace R
open PySem PySem.Spec PyProof.Rows L2 G
section
variable {K : PySem.W.Frag} {c : Cx K}
end
end R
namespace R
open PySem PySem.Spec PyProof.Rows L2 G
@[simp ↓] theorem qC_e (v : V) (ρ : List D) (Q : KQ) : qC v ρ Q = (Q ρ (.sh (.v v))) := by rw [qC]
@[simp ↓] theorem vE_e (τ : TQ) (ρ : List D) (Q : List D → PV → Prop) : vE τ ρ Q = (τ ρ fun ρ' d => lookD d fun w => Q ρ' (.inr w)) := by rw [vE]
@[simp ↓] theorem qOp_e (ω : W → W → (D → Prop) → Prop) (ta tb : TVQ) (ρ : List D) (Q : KQ) : qOp ω ta tb ρ Q = (ta ρ fun ρ1 p => tb ρ1 fun ρ2 q => look ρ2 p fun x => look ρ2 q fun y => ω x y fun d => Q ρ2 d) := by rw [qOp]
@[simp ↓] theorem vNil_e  (ρ : List D) (Q : List D → List PV → Prop) : vNil  ρ Q = (Q ρ []) := by rw [vNil]
@[simp ↓] theorem vCons_e (a : TVQ) (t : TVAQ) (ρ : List D) (Q : List D → List PV → Prop) : vCons a t ρ Q = (a ρ fun ρ1 p => t ρ1 fun ρ2 ps => Q ρ2 (p :: ps)) := by rw [vCons]
@[simp ↓] theorem qCB_e (ω : List W → (D → Prop) → Prop) (t : TVAQ) (ρ : List D) (Q : KQ) : qCB ω t ρ Q = (t ρ fun ρ1 ps => lookL ρ1 ps fun ws => ω ws fun d => Q ρ1 d) := by rw [qCB]
@[simp ↓] theorem aNil_e  (ρ : List D) (Q : List D → List W → Prop) : aNil  ρ Q = (Q ρ []) := by rw [aNil]
@[simp ↓] theorem aCons_e (a : TQ) (t : TAQ) (ρ : List D) (Q : List D → List W → Prop) : aCons a t ρ Q = (a ρ fun ρ1 d => lookD d fun w => t ρ1 fun ρ2 ws => Q ρ2 (w :: ws)) := by rw [aCons]
@[simp ↓] theorem qTup_e (t : TAQ) (ρ : List D) (Q : KQ) : qTup t ρ Q = (t ρ fun ρ1 ws => Q ρ1 (.sh (.tup ws))) := by rw [qTup]
@[simp ↓] theorem qLst_e (t : TAQ) (ρ : List D) (Q : KQ) : qLst t ρ Q = (t ρ fun ρ1 ws => Q ρ1 (.lst ws)) := by rw [qLst]
@[simp ↓] theorem qB_e (τ : TQ) (ρ : List D) (Q : List D → Bool → Prop) : qB τ ρ Q = (τ ρ fun ρ1 d => lookD d fun w => toB Q ρ1 w) := by rw [qB]
@[simp ↓] theorem qAnd_e (a b : TTQ) (ρ : List D) (Q : List D → Bool → Prop) : qAnd a b ρ Q = (a ρ fun ρ1 c => if c = true then b ρ1 Q else Q ρ1 false) := by rw [qAnd]
@[simp ↓] theorem qOr_e (a b : TTQ) (ρ : List D) (Q : List D → Bool → Prop) : qOr a b ρ Q = (a ρ fun ρ1 c => if c = true then Q ρ1 true else b ρ1 Q) := by rw [qOr]
@[simp ↓] theorem qNot_e (a : TTQ) (ρ : List D) (Q : List D → Bool → Prop) : qNot a ρ Q = (a ρ fun ρ1 c => Q ρ1 (!c)) := by rw [qNot]
@[simp ↓] theorem qYes_e  (ρ : List D) (Q : List D → Bool → Prop) : qYes  ρ Q = (Q ρ true) := by rw [qYes]
@[simp ↓] theorem qAndV_e (a t : TQ) (ρ : List D) (Q : KQ) : qAndV a t ρ Q = (a ρ fun ρ1 d => lookD d fun w => toB (fun ρ1 k => if k = true then t ρ1 Q else Q ρ1 (.bl false)) ρ1 w) := by rw [qAndV]
@[simp ↓] theorem qNotV_e (a : TQ) (ρ : List D) (Q : KQ) : qNotV a ρ Q = (a ρ fun ρ1 d => lookD d fun w => toB (fun ρ1 k => Q ρ1 (.bl (!k))) ρ1 w) := by rw [qNotV]
@[simp ↓] theorem qIf_e (t : TTQ) (a b : TQ) (ρ : List D) (Q : KQ) : qIf t a b ρ Q = (t ρ fun ρ1 k => if k = true then a ρ1 Q else b ρ1 Q) := by rw [qIf]
@[simp ↓] theorem qChain_e (ω ω' : W → W → (D → Prop) → Prop) (ta tb tc : TVQ) (ρ : List D) (Q : KQ) : qChain ω ω' ta tb tc ρ Q = (ta ρ fun ρ1 p => tb ρ1 fun ρ2 q => look ρ2 p fun x => look ρ2 q fun y => ω x y fun d => lookD d fun w => toB (fun ρ2 k => if k = true then tc ρ2 fun ρ3 s => look ρ3 q fun y => look ρ3 s fun z => ω' y z fun d => Q ρ3 d else Q ρ2 (.bl false)) ρ2 w) := by rw [qChain]
@[simp ↓] theorem gqName_e (i : Nat) (d : D) (ρ : List D) (Q : List D → Prop) : gqName i d ρ Q = (Q (ρ.set i d)) := by rw [gqName]
@[simp ↓] theorem sNext_e  (E : EQ) (ρ : List D) : sNext  E ρ = (E.nx ρ) := by rw [sNext]
@[simp ↓] theorem sSeq_e (t u : TSQ) (E : EQ) (ρ : List D) : sSeq t u E ρ = (t { E with nx := u E } ρ) := by rw [sSeq]
@[simp ↓] theorem sDrop_e (t : TQ) (E : EQ) (ρ : List D) : sDrop t E ρ = (t ρ fun ρ1 _ => E.nx ρ1) := by rw [sDrop]
@[simp ↓] theorem sRet_e (t : TQ) (E : EQ) (ρ : List D) : sRet t E ρ = (t ρ fun _ d => E.rt d) := by rw [sRet]
@[simp ↓] theorem sIf_e (t : TTQ) (a b : TSQ) (E : EQ) (ρ : List D) : sIf t a b E ρ = (t ρ fun ρ1 k => if k = true then a E ρ1 else b E ρ1) := by rw [sIf]
@[simp ↓] theorem sNever_e  (x0 : EQ) (x1 : List D) : sNever  x0 x1 = (False) := by rw [sNever]
@[simp ↓] theorem sAsg_e (t : TQ) (g : TGQ) (E : EQ) (ρ : List D) : sAsg t g E ρ = (t ρ fun ρ1 d => g d ρ1 E.nx) := by rw [sAsg]
@[simp ↓] theorem sPar_e (i j : Nat) (a b : TQ) (E : EQ) (ρ : List D) : sPar i j a b E ρ = (i ≠ j ∧ a ρ fun ρ1 d => b ρ1 fun ρ2 e => E.nx ((ρ2.set j e).set i d)) := by rw [sPar]
@[simp ↓] theorem sFor_e (it : TIQ) (g : TGQ) (b : TSQ) (E : EQ) (ρ : List D) : sFor it g b E ρ = (it ρ fun ρ1 ws => qLoop g b E ws ρ1) := by rw [sFor]
@[simp ↓] theorem qLc_e (it : TIQ) (g : TGQ) (tt : TTQ) (te : TQ) (vs : List Nat) (ρ : List D) (Q : KQ) : qLc it g tt te vs ρ Q = (it ρ fun ρ1 ws => ws.length ≤ 100000 ∧ qLcL g tt te vs (fun ρ2 acc => Q (mrg ρ1 ρ2 vs) (.lst acc)) ws (wipeD ρ1 vs) []) := by rw [qLc]
@[simp ↓] theorem runF_e (τ : TSQ) (m : Nat) (ws : List W) (Q : D → Prop) : runF τ m ws Q = (τ { nx := fun _ => Q .non, rt := Q } (ws.map D.sh ++ List.replicate m .un)) := by rw [runF]
@[simp ↓] theorem qCall_e (f : PF) (n : Nat) (t : TAQ) (ρ : List D) (Q : KQ) : qCall f n t ρ Q = (t ρ fun ρ1 ws => f ws fun d => Q ρ1 d) := by rw [qCall]
@[simp ↓] theorem qMeth_e (C : Addr) (m : Str) (f : PF) (n : Nat) (ta : TQ) (t : TAQ) (ρ : List D) (Q : KQ) : qMeth C m f n ta t ρ Q = (ta ρ fun ρ1 d => lookD d fun w => isObj C m w (t ρ1 fun ρ2 ws => f (w :: ws) fun d => Q ρ2 d)) := by rw [qMeth]
@[simp ↓] theorem runI_e (C : Addr) (τ : TSQ) (m : Nat) (ws : List W) (Q : List Str → List W → Prop) : runI C τ m ws Q = (τ { nx := endI C Q, rt := fun _ => False } (.mobj C [] [] :: (ws.map D.sh ++ List.replicate m .un))) := by rw [runI]
@[simp ↓] theorem qMake_e (C : Addr) (f : PI0) (t : TAQ) (ρ : List D) (Q : KQ) : qMake C f t ρ Q = (t ρ fun ρ1 ws => f ws fun fs zs => Q ρ1 (.obj C fs zs)) := by rw [qMake]
@[simp ↓] theorem qDc_e (it : TIQ) (g : TGQ) (tt : TTQ) (tk tv : TQ) (vs : List Nat) (ρ : List D) (Q : KQ) : qDc it g tt tk tv vs ρ Q = (it ρ fun ρ1 ws => ws.length ≤ 100000 ∧ qDcL g tt tk tv vs (fun ρ2 ks acc => Q (mrg ρ1 ρ2 vs) (.dit ks acc)) ws (wipeD ρ1 vs) [] []) := by rw [qDc]
@[simp ↓] theorem qLenSc_e (it : TIQ) (g : TGQ) (tt : TTQ) (te : TQ) (vs : List Nat) (ρ : List D) (Q : KQ) : qLenSc it g tt te vs ρ Q = (it ρ fun ρ1 ws => ws.length ≤ 62 ∧ qScL g tt te vs (fun ρ2 acc => Q (mrg ρ1 ρ2 vs) (.int (ndiff acc : Int))) ws (wipeD ρ1 vs) []) := by rw [qLenSc]
@[simp ↓] theorem oNone_e  (ρ : List D) (Q : List D → Option Int → Prop) : oNone  ρ Q = (Q ρ none) := by rw [oNone]
structure Dum.{u} {α : Sort u} (k : α) : Type where
def asInt (d : D) (k : Int → Prop) : Prop := match d with
 | .sh (.v (.int i)) => k i
 | _ => False
@[simp ↓] theorem asInt_e (i : Int) (k : Int → Prop) : asInt (.sh (.v (.int i))) k = k i := by rw [asInt]
def asLw (w : W) (k : List W → Prop) : Prop := match w with
 | .lst ws => k ws
 | _ => False
@[simp ↓] theorem asLw_e (ws : List W) (k : List W → Prop) : asLw (.lst ws) k = k ws := by rw [asLw]
def kpO (o : Option D) : D := match o with
 | some d => keepSh d
 | none => .un
def onK (o : Option (List Key)) (k : List Key → Prop) (_ : Dum k) : Prop := match o with
 | some d => k d
 | none => False
@[simp ↓] theorem onK_some (d : List Key) (k : List Key → Prop) (u : Dum k) : onK (some d) k u = k d := by rw [onK]
def onI (o : Option (List Int)) (k : List Int → Prop) (_ : Dum k) : Prop := match o with
 | some d => k d
 | none => False
@[simp ↓] theorem onI_some (d : List Int) (k : List Int → Prop) (u : Dum k) : onI (some d) k u = k d := by rw [onI]
def onB (o : Option Bool) (k : Bool → Prop) (_ : Dum k) : Prop := match o with
 | some d => k d
 | none => False
@[simp ↓] theorem onB_some (d : Bool) (k : Bool → Prop) (u : Dum k) : onB (some d) k u = k d := by rw [onB]
@[simp ↓] theorem lookD_sh (w : W) (k : W → Prop) : lookD (.sh w) k = k w := by rw [lookD, D.fz]
@[simp ↓] theorem lookD_lst (ws : List W) (k : W → Prop) : lookD (.lst ws) k = k (.lst ws) := by rw [lookD, D.fz]
@[simp ↓] theorem lookD_dic (ks : List Key) (ws : List W) (k : W → Prop) : lookD (.dic ks ws) k = k (.dic ks ws) := by rw [lookD, D.fz]
@[simp ↓] theorem lookD_dit (ks : List (List Key)) (ws : List W) (k : W → Prop) : lookD (.dit ks ws) k = k (.dit ks ws) := by rw [lookD, D.fz]
@[simp ↓] theorem lookD_obj (C : Addr) (fs : List Str) (ws : List W) (k : W → Prop) : lookD (.obj C fs ws) k = k (.obj C fs ws) := by rw [lookD, D.fz]
@[simp ↓] theorem lookD_set (S : Int → Bool) (n : Nat) (k : W → Prop) : lookD (.set S n) k = k (.set S n) := by rw [lookD, D.fz]
def onS (o : Option D) (k : D → Prop) (_ : Dum k) : Prop := match o with
 | some d => k d
 | none => False
@[simp ↓] theorem onS_some (d : D) (k : D → Prop) (u : Dum k) : onS (some d) k u = k d := by rw [onS]
@[simp ↓] theorem look_r (ρ : List D) (w : W) (k : W → Prop) : look ρ (.inr w) k = k w := by rw [look]
@[simp ↓] theorem look_l (ρ : List D) (i : Nat) (k : W → Prop) : look ρ (.inl i) k = onS ρ[i]? (fun d => lookD d k) ⟨⟩ := by
 unfold look onS
 rfl
@[simp ↓] theorem lookL_nil (ρ : List D) (k : List W → Prop) : lookL ρ [] k = k [] := by rw [lookL]
@[simp ↓] theorem lookL_cons (ρ : List D) (p : PV) (ps : List PV) (k : List W → Prop) : lookL ρ (p :: ps) k = look ρ p fun w => lookL ρ ps fun ws => k (w :: ws) := by rw [lookL]
def shr (d : D) (i : Nat) (ρ : List D) (Q : KQ) : Prop := match d with
 | .sh w => Q ρ (.sh w)
 | d => lookD d fun w => Q (ρ.set i (.sh w)) (.sh w)
@[simp ↓] theorem shr_sh (w : W) (i : Nat) (ρ : List D) (Q : KQ) : shr (.sh w) i ρ Q = Q ρ (.sh w) := by rw [shr]
@[simp ↓] theorem shr_lst (ws : List W) (i : Nat) (ρ : List D) (Q : KQ) : shr (.lst ws) i ρ Q = Q (ρ.set i (.sh (.lst ws))) (.sh (.lst ws)) := by simp only [shr, lookD_lst]
@[simp ↓] theorem shr_dic (ks : List Key) (ws : List W) (i : Nat) (ρ : List D) (Q : KQ) : shr (.dic ks ws) i ρ Q = Q (ρ.set i (.sh (.dic ks ws))) (.sh (.dic ks ws)) := by simp only [shr, lookD_dic]
@[simp ↓] theorem shr_dit (ks : List (List Key)) (ws : List W) (i : Nat) (ρ : List D) (Q : KQ) : shr (.dit ks ws) i ρ Q = Q (ρ.set i (.sh (.dit ks ws))) (.sh (.dit ks ws)) := by simp only [shr, lookD_dit]
@[simp ↓] theorem shr_obj (C : Addr) (fs : List Str) (ws : List W) (i : Nat) (ρ : List D) (Q : KQ) : shr (.obj C fs ws) i ρ Q = Q (ρ.set i (.sh (.obj C fs ws))) (.sh (.obj C fs ws)) := by simp only [shr, lookD_obj]
@[simp ↓] theorem shr_set (S : Int → Bool) (n : Nat) (i : Nat) (ρ : List D) (Q : KQ) : shr (.set S n) i ρ Q = Q (ρ.set i (.sh (.set S n))) (.sh (.set S n)) := by simp only [shr, lookD_set]
@[simp ↓] theorem qVar_e (i : Nat) (ρ : List D) (Q : KQ) : qVar i ρ Q = onS ρ[i]? (fun d => shr d i ρ Q) ⟨⟩ := by
 unfold qVar onS shr
 split <;> simp_all
def thr (d : D) (k : Prop) : Prop := match d with
 | .un => False
 | _ => k
@[simp ↓] theorem thr_sh (w : W) (k : Prop) : thr (.sh w) k = k := by simp [thr]
@[simp ↓] theorem thr_lst (ws : List W) (k : Prop) : thr (.lst ws) k = k := by simp [thr]
@[simp ↓] theorem thr_dic (ks : List Key) (ws : List W) (k : Prop) : thr (.dic ks ws) k = k := by simp [thr]
@[simp ↓] theorem thr_dit (ks : List (List Key)) (ws : List W) (k : Prop) : thr (.dit ks ws) k = k := by simp [thr]
@[simp ↓] theorem thr_obj (C : Addr) (fs : List Str) (ws : List W) (k : Prop) : thr (.obj C fs ws) k = k := by simp [thr]
@[simp ↓] theorem thr_set (S : Int → Bool) (n : Nat) (k : Prop) : thr (.set S n) k = k := by simp [thr]
@[simp ↓] theorem thr_ntup (ds : List D) (k : Prop) : thr (.ntup ds) k = k := by simp [thr]
@[simp ↓] theorem thr_nlst (ds : List D) (k : Prop) : thr (.nlst ds) k = k := by simp [thr]
@[simp ↓] theorem vVar_e (i : Nat) (ρ : List D) (Q : List D → PV → Prop) : vVar i ρ Q = onS ρ[i]? (fun d => thr d (Q ρ (.inl i))) ⟨⟩ := by
 unfold vVar onS thr
 split <;> simp_all
@[simp ↓] theorem sRetV_e (i : Nat) (E : EQ) (ρ : List D) : sRetV i E ρ = onS ρ[i]? (fun d => thr d (E.rt d)) ⟨⟩ := by
 unfold sRetV onS thr
 split <;> simp_all
@[simp ↓] theorem toB_bl (Q : List D → Bool → Prop) (ρ : List D) (c : Bool) : toB Q ρ (.v (.bl c)) = Q ρ c := by rw [toB]
@[simp ↓] theorem oI_e (C : Int → Int → Prop) (g : Int → Int → V) (i j : Int) (k : D → Prop) : oI C g (.v (.int i)) (.v (.int j)) k = (C i j ∧ k (.sh (.v (g i j)))) := by rw [oI]
@[simp ↓] theorem oI0_e (g : Int → Int → V) (i j : Int) (k : D → Prop) : oI0 g (.v (.int i)) (.v (.int j)) k = k (.sh (.v (g i j))) := by rw [oI0]
@[simp ↓] theorem oPlus_i (i j : Int) (k : D → Prop) : oPlus (.v (.int i)) (.v (.int j)) k = k (.int (i + j)) := by rw [oPlus]
@[simp ↓] theorem oPlus_l (a b : List W) (k : D → Prop) : oPlus (.lst a) (.lst b) k = (a.length + b.length ≤ 100000 ∧ k (.lst (a ++ b))) := by rw [oPlus]
@[simp ↓] theorem oPlus_t (a b : List W) (k : D → Prop) : oPlus (.tup a) (.tup b) k = (a.length + b.length ≤ 100000 ∧ k (.sh (.tup (a ++ b)))) := by rw [oPlus]
@[simp ↓] theorem oPlus_s (a b : Str) (k : D → Prop) : oPlus (.v (.str a)) (.v (.str b)) k = (a.length + b.length ≤ 100000 ∧ k (.str (a ++ b))) := by rw [oPlus]
@[simp ↓] theorem oTimes_i (i j : Int) (k : D → Prop) : oTimes (.v (.int i)) (.v (.int j)) k = (CMulW i j ∧ k (.int (i * j))) := by rw [oTimes]
@[simp ↓] theorem oTimes_l (a : List W) (j : Int) (k : D → Prop) : oTimes (.lst a) (.v (.int j)) k = ((-100000 ≤ j ∧ j ≤ 100000 ∧ a.length * j.toNat ≤ 100000) ∧ k (.lst (List.replicate j.toNat a).flatten)) := by rw [oTimes]
@[simp ↓] theorem oEq_e (neg : Bool) (x y : W) (k : D → Prop) : oEq neg x y k = ((x.ok 20 = true ∧ y.ok 20 = true) ∧ k (.bl (neg != W.eq x y))) := by rw [oEq]
@[simp ↓] theorem oEqF_e (neg : Bool) (a b : V) (k : D → Prop) : oEqF neg (.v a) (.v b) k = (scal a b = true ∧ k (.bl (neg != decide (a = b)))) := by rw [oEqF]
@[simp ↓] theorem oIn_l (neg : Bool) (x : W) (ws : List W) (k : D → Prop) : oIn neg x (.lst ws) k = ((x.ok 20 = true ∧ (W.lst ws).ok 20 = true) ∧ k (.bl (neg != ws.any fun z => W.eq z x))) := by rw [oIn]
@[simp ↓] theorem oIn_t (neg : Bool) (x : W) (ws : List W) (k : D → Prop) : oIn neg x (.tup ws) k = ((x.ok 20 = true ∧ (W.lst ws).ok 20 = true) ∧ k (.bl (neg != ws.any fun z => W.eq z x))) := by rw [oIn]
@[simp ↓] theorem oIsN_e (neg : Bool) (x : W) (k : D → Prop) : oIsN neg x (.v .non) k = k (.bl (neg != isNon x)) := by rw [oIsN]
def onW (o : Option W) (k : W → Prop) (_ : Dum k) : Prop := match o with
 | some d => k d
 | none => False
@[simp ↓] theorem onW_some (d : W) (k : W → Prop) (u : Dum k) : onW (some d) k u = k d := by rw [onW]
@[simp ↓] theorem oIx_l (ws : List W) (i : Int) (k : D → Prop) : oIx (.lst ws) (.v (.int i)) k = onW (atI ws i) (fun w => k (.sh w)) ⟨⟩ := by
 unfold oIx onW
 rfl
@[simp ↓] theorem oIx_t (ws : List W) (i : Int) (k : D → Prop) : oIx (.tup ws) (.v (.int i)) k = onW (atI ws i) (fun w => k (.sh w)) ⟨⟩ := by
 unfold oIx onW
 rfl
def onC (o : Option Nat) (k : Nat → Prop) (_ : Dum k) : Prop := match o with
 | some d => k d
 | none => False
@[simp ↓] theorem onC_some (d : Nat) (k : Nat → Prop) (u : Dum k) : onC (some d) k u = k d := by rw [onC]
@[simp ↓] theorem oPart_e (t : TQ) (ρ : List D) (Q : List D → Option Int → Prop) : oPart t ρ Q = (t ρ fun ρ1 d => asInt d fun i => Q ρ1 (some i)) := by
 unfold oPart asInt
 rfl
def slW (w : W) (lo hi : Option Int) (ρ : List D) (Q : KQ) : Prop := match w with
 | .lst ws => Q ρ (.lst (cutW ws lo hi))
 | .tup ws => Q ρ (.sh (.tup (cutW ws lo hi)))
 | _ => False
@[simp ↓] theorem slW_l (ws : List W) (lo hi : Option Int) (ρ : List D) (Q : KQ) : slW (.lst ws) lo hi ρ Q = Q ρ (.lst (cutW ws lo hi)) := by rw [slW]
@[simp ↓] theorem slW_t (ws : List W) (lo hi : Option Int) (ρ : List D) (Q : KQ) : slW (.tup ws) lo hi ρ Q = Q ρ (.sh (.tup (cutW ws lo hi))) := by rw [slW]
@[simp ↓] theorem qSl_e (ta : TVQ) (tl th : TOQ) (ρ : List D) (Q : KQ) : qSl ta tl th ρ Q = (ta ρ fun ρ1 p => tl ρ1 fun ρ2 lo => th ρ2 fun ρ3 hi => look ρ3 p fun w => slW w lo hi ρ3 Q) := by
 unfold qSl slW
 rfl
def rvW (w : W) (ρ : List D) (Q : KQ) : Prop := match w with
 | .lst ws => Q ρ (.lst ws.reverse)
 | _ => False
@[simp ↓] theorem rvW_l (ws : List W) (ρ : List D) (Q : KQ) : rvW (.lst ws) ρ Q = Q ρ (.lst ws.reverse) := by rw [rvW]
@[simp ↓] theorem qRev_e (ta : TVQ) (ρ : List D) (Q : KQ) : qRev ta ρ Q = (ta ρ fun ρ1 p => look ρ1 p fun w => rvW w ρ1 Q) := by
 unfold qRev rvW
 rfl
def fldW (C : Addr) (f : Str) (w : W) (ρ : List D) (Q : KQ) : Prop := match w with
 | .obj C' fs ws => C' = C ∧ onW ((fs.zip ws).lookup f) (fun w => Q ρ (.sh w)) ⟨⟩
 | _ => False
@[simp ↓] theorem fldW_e (C C' : Addr) (f : Str) (fs : List Str) (ws : List W) (ρ : List D) (Q : KQ) : fldW C f (.obj C' fs ws) ρ Q = (C' = C ∧ onW ((fs.zip ws).lookup f) (fun w => Q ρ (.sh w)) ⟨⟩) := by rw [fldW]
@[simp ↓] theorem qFld_e (C : Addr) (f : Str) (ta : TVQ) (ρ : List D) (Q : KQ) : qFld C f ta ρ Q = (ta ρ fun ρ1 p => look ρ1 p fun w => fldW C f w ρ1 Q) := by
 unfold qFld fldW onW
 rfl
@[simp ↓] theorem isObj_e (C C' : Addr) (m : Str) (fs : List Str) (ws : List W) (k : Prop) : isObj C m (.obj C' fs ws) k = ((C' = C ∧ fs.contains m = false) ∧ k) := by rw [isObj]
@[simp ↓] theorem bLen_l (ws : List W) (k : D → Prop) : bLen [.lst ws] k = k (.int (ws.length : Int)) := by rw [bLen]
@[simp ↓] theorem bLen_t (ws : List W) (k : D → Prop) : bLen [.tup ws] k = k (.int (ws.length : Int)) := by rw [bLen]
@[simp ↓] theorem bSum_e (ws : List W) (k : D → Prop) : bSum [.lst ws] k = asI (fun ns => k (.int ns.sum)) ws := by rw [bSum]
@[simp ↓] theorem bAll_e (ws : List W) (k : D → Prop) : bAll [.lst ws] k = asB (fun ns => k (.bl (ns.all id))) ws := by rw [bAll]
@[simp ↓] theorem bAny_e (ws : List W) (k : D → Prop) : bAny [.lst ws] k = asB (fun ns => k (.bl (ns.any id))) ws := by rw [bAny]
theorem map_v_inj {α : Type} {f : α → V} (hf : ∀ x y, f x = f y → x = y) : ∀ {a b : List α}, (a.map fun x => W.v (f x)) = (b.map fun x => W.v (f x)) → a = b
 | [], [], _ => rfl
 | [], _ :: _, h => by cases h
 | _ :: _, [], h => by cases h
 | x :: a, y :: b, h => by
  rw [List.map_cons, List.map_cons] at h
  injection h with h1 h2
  injection h1 with h3
  rw [hf x y h3, map_v_inj hf h2]
@[simp ↓] theorem asI_map (k : List Int → Prop) (ns : List Int) : asI k (ns.map fun n => W.v (.int n)) = k ns := by
 refine propext ⟨fun ⟨ms, e, h⟩ => ?_, fun h => ⟨ns, rfl, h⟩⟩
 rw [map_v_inj (f := V.int) (fun x y h => by cases h; rfl) e]; exact h
@[simp ↓] theorem asB_map (k : List Bool → Prop) (ns : List Bool) : asB k (ns.map fun n => W.v (.bl n)) = k ns := by
 refine propext ⟨fun ⟨ms, e, h⟩ => ?_, fun h => ⟨ns, rfl, h⟩⟩
 rw [map_v_inj (f := V.bl) (fun x y h => by cases h; rfl) e]; exact h
@[simp ↓] theorem bMax_i (i j : Int) (k : D → Prop) : bMax [.v (.int i), .v (.int j)] k = k (.int (max i j)) := by rw [bMax]
@[simp ↓] theorem bMax_l (ws : List W) (k : D → Prop) : bMax [.lst ws] k = asI (fun ns => 0 < ns.length ∧ ∀ m, m ∈ ns → (∀ y, y ∈ ns → y ≤ m) → k (.int m)) ws := by rw [bMax]
@[simp ↓] theorem bTup_l (ws : List W) (k : D → Prop) : bTup [.lst ws] k = k (.sh (.tup ws)) := by rw [bTup]
@[simp ↓] theorem bTup_t (ws : List W) (k : D → Prop) : bTup [.tup ws] k = k (.sh (.tup ws)) := by rw [bTup]
@[simp ↓] theorem bList_l (ws : List W) (k : D → Prop) : bList [.lst ws] k = k (.lst ws) := by rw [bList]
@[simp ↓] theorem bList_t (ws : List W) (k : D → Prop) : bList [.tup ws] k = k (.lst ws) := by rw [bList]
@[simp ↓] theorem bIsi_e (x : W) (T : String) (k : D → Prop) : bIsi [x, .v (.ty T)] k = ((tyW x).isSome = true ∧ tys.contains T = true ∧ k (.bl (isA x T))) := by rw [bIsi]
@[simp ↓] theorem bRepr_e (w : W) (k : D → Prop) : bRepr [w] k = (shows w ∧ k (.str w.dat.shown)) := by rw [bRepr]
@[simp ↓] theorem gqNil_e (ρ : List D) (Q : List D → Prop) : gqNil [] ρ Q = Q ρ := by rw [gqNil]
@[simp ↓] theorem gqCons_e (t : TGQ) (u : TGsQ) (d : D) (ds : List D) (ρ : List D) (Q : List D → Prop) : gqCons t u (d :: ds) ρ Q = t d ρ fun ρ1 => u ds ρ1 Q := by rw [gqCons]
@[simp ↓] theorem gqTup_1 (n : Nat) (t : TGsQ) (a : W) (ρ : List D) (Q : List D → Prop) : gqTup n t (.sh (.tup [a])) ρ Q = (1 = n ∧ t [.sh a] ρ Q) := by rw [gqTup]; rfl
@[simp ↓] theorem gqTup_2 (n : Nat) (t : TGsQ) (a b : W) (ρ : List D) (Q : List D → Prop) : gqTup n t (.sh (.tup [a, b])) ρ Q = (2 = n ∧ t [.sh a, .sh b] ρ Q) := by rw [gqTup]; rfl
@[simp ↓] theorem gqTup_3 (n : Nat) (t : TGsQ) (a b c : W) (ρ : List D) (Q : List D → Prop) : gqTup n t (.sh (.tup [a, b, c])) ρ Q = (3 = n ∧ t [.sh a, .sh b, .sh c] ρ Q) := by rw [gqTup]; rfl
@[simp ↓] theorem gqTup_n (n : Nat) (t : TGsQ) (ds : List D) (ρ : List D) (Q : List D → Prop) : gqTup n t (.ntup ds) ρ Q = (ds.length = n ∧ t ds ρ Q) := by rw [gqTup]
def asL (d : D) (k : List W → Prop) : Prop := match d with
 | .lst ws => k ws
 | _ => False
@[simp ↓] theorem asL_e (ws : List W) (k : List W → Prop) : asL (.lst ws) k = k ws := by rw [asL]
theorem sub_in {di : D} {o : Option D} {k : Int → List W → Nat → Prop} : (match di, o with
  | .sh (.v (.int i)), some (.lst ws) => (match ixN ws.length i with
   | some j => k i ws j
   | none => False)
  | _, _ => False) = asInt di fun i => onS o (fun d1 => asL d1 fun ws => onC (ixN ws.length i) (fun j => k i ws j) ⟨⟩) ⟨⟩ := by
 cases di with
 | sh w =>
  cases w with
  | v x =>
   cases x with
   | int i =>
    cases o with
    | none => rfl
    | some d1 => cases d1 <;> rfl
   | _ => rfl
  | _ => rfl
 | _ => rfl
@[simp ↓] theorem gqSub_e (s : Nat) (ti : TQ) (d : D) (ρ : List D) (Q : List D → Prop) : gqSub s ti d ρ Q = lookD d fun w => onS ρ[s]? (fun d0 => asL d0 fun _ => ti ρ fun ρ1 di => asInt di fun i => onS ρ1[s]? (fun d1 => asL d1 fun ws => onC (ixN ws.length i) (fun j => Q (ρ1.set s (.lst (ws.set j w)))) ⟨⟩) ⟨⟩) ⟨⟩ := by
 unfold gqSub
 congr 1
 funext w
 cases e : ρ[s]? with
 | none => rfl
 | some d0 =>
  cases d0 with
  | lst ws0 =>
   show ti ρ _ = ti ρ _
   congr 1
   funext ρ1 di
   exact sub_in
  | _ => rfl
@[simp ↓] theorem qAppend_e (s : Nat) (t : TQ) (ρ : List D) (Q : KQ) : qAppend s t ρ Q = onS ρ[s]? (fun d0 => asL d0 fun _ => t ρ fun ρ1 d => lookD d fun w => onS ρ1[s]? (fun d1 => asL d1 fun ws => ws.length < 100000 ∧ Q (ρ1.set s (.lst (ws ++ [w]))) .non) ⟨⟩) ⟨⟩ := by
 unfold qAppend
 cases e : ρ[s]? with
 | none => rfl
 | some d0 =>
  cases d0 with
  | lst ws0 =>
   show t ρ _ = t ρ _
   congr 1
   funext ρ1 d
   congr 1
   funext w
   cases ρ1[s]? with
   | none => rfl
   | some d1 => cases d1 <;> rfl
  | _ => rfl
def seqS (w : W) (ρ : List D) (Q : List D → List W → Prop) : Prop := match w with
 | .lst ws => Q ρ ws
 | .tup ws => Q ρ ws
 | .v (.str z) => Q ρ (strW z)
 | _ => False
@[simp ↓] theorem seqS_l (ws : List W) (ρ : List D) (Q : List D → List W → Prop) : seqS (.lst ws) ρ Q = Q ρ ws := by rw [seqS]
@[simp ↓] theorem seqS_t (ws : List W) (ρ : List D) (Q : List D → List W → Prop) : seqS (.tup ws) ρ Q = Q ρ ws := by rw [seqS]
@[simp ↓] theorem seqS_s (z : Str) (ρ : List D) (Q : List D → List W → Prop) : seqS (.v (.str z)) ρ Q = Q ρ (strW z) := by rw [seqS]
@[simp ↓] theorem iqSeq_e (t : TQ) (ρ : List D) (Q : List D → List W → Prop) : iqSeq t ρ Q = (t ρ fun ρ1 d => lookD d fun w => seqS w ρ1 Q) := by
 unfold iqSeq seqS
 rfl
@[simp ↓] theorem seqW_l (ws : List W) (k : List W → Prop) : seqW (.lst ws) k = k ws := by rw [seqW]
@[simp ↓] theorem seqW_t (ws : List W) (k : List W → Prop) : seqW (.tup ws) k = k ws := by rw [seqW]
def twoW (ws : List W) (k : W → W → Prop) : Prop := match ws with
 | [x, y] => k x y
 | _ => False
@[simp ↓] theorem twoW_e (x y : W) (k : W → W → Prop) : twoW [x, y] k = k x y := by rw [twoW]
def oneW (ws : List W) (k : W → Prop) : Prop := match ws with
 | [x] => k x
 | _ => False
@[simp ↓] theorem oneW_e (x : W) (k : W → Prop) : oneW [x] k = k x := by rw [oneW]
@[simp ↓] theorem iqZip_e (t : TAQ) (ρ : List D) (Q : List D → List W → Prop) : iqZip t ρ Q = (t ρ fun ρ1 ws => twoW ws fun x y => seqW x fun xs => seqW y fun ys => Q ρ1 (pairW xs ys)) := by
 unfold iqZip twoW
 rfl
@[simp ↓] theorem iqEnum_e (t : TAQ) (ρ : List D) (Q : List D → List W → Prop) : iqEnum t ρ Q = (t ρ fun ρ1 ws => oneW ws fun x => asLw x fun xs => Q ρ1 (pairW (numW xs.length) xs)) := by
 unfold iqEnum
 congr 1
 funext ρ1 ws
 match ws with
 | [] => rfl
 | [x] => cases x <;> rfl
 | x :: y :: ws => cases x <;> rfl
def asIw (w : W) (k : Int → Prop) : Prop := match w with
 | .v (.int i) => k i
 | _ => False
@[simp ↓] theorem asIw_e (i : Int) (k : Int → Prop) : asIw (.v (.int i)) k = k i := by rw [asIw]
@[simp ↓] theorem iqRng1_e (t : TVAQ) (ρ : List D) (Q : List D → List W → Prop) : iqRng1 t ρ Q = (t ρ fun ρ1 ps => lookL ρ1 ps fun ws => oneW ws fun x => asIw x fun j => (-100000 ≤ j ∧ j ≤ 100000) ∧ Q ρ1 (rngW 0 j.toNat)) := by
 unfold iqRng1
 congr 1
 funext ρ1 ps
 congr 1
 funext ws
 match ws with
 | [] => rfl
 | [x] =>
  cases x with
  | v x => cases x <;> rfl
  | _ => rfl
 | x :: y :: ws =>
  cases x with
  | v x => cases x <;> rfl
  | _ => rfl
@[simp ↓] theorem iqRng2_e (t : TVAQ) (ρ : List D) (Q : List D → List W → Prop) : iqRng2 t ρ Q = (t ρ fun ρ1 ps => lookL ρ1 ps fun ws => twoW ws fun x y => asIw x fun i => asIw y fun j => (-100000 ≤ i ∧ i ≤ 100000 ∧ -100000 ≤ j ∧ j ≤ 100000) ∧ Q ρ1 (rngW i (j - i).toNat)) := by
 unfold iqRng2
 congr 1
 funext ρ1 ps
 congr 1
 funext ws
 match ws with
 | [] => rfl
 | [x] =>
  cases x with
  | v x => cases x <;> rfl
  | _ => rfl
 | [x, y] =>
  cases x with
  | v x =>
   cases x with
   | int i =>
    cases y with
    | v y => cases y <;> rfl
    | _ => rfl
   | _ => rfl
  | _ => rfl
 | x :: y :: z :: ws =>
  cases x with
  | v x =>
   cases x with
   | int i =>
    cases y with
    | v y => cases y <;> rfl
    | _ => rfl
   | _ => rfl
  | _ => rfl
@[simp ↓] theorem qLoop_nil (g : TGQ) (b : TSQ) (E : EQ) (ρ : List D) : qLoop g b E [] ρ = E.nx ρ := by rw [qLoop]
@[simp ↓] theorem qLoop_cons (g : TGQ) (b : TSQ) (E : EQ) (w : W) (ws : List W) (ρ : List D) : qLoop g b E (w :: ws) ρ = g (.sh w) ρ fun ρ1 => b { nx := qLoop g b E ws, ct := qLoop g b E ws, bk := E.nx, rt := E.rt } ρ1 := by rw [qLoop]
@[simp ↓] theorem qLcL_nil (g : TGQ) (tt : TTQ) (te : TQ) (vs : List Nat) (k : List D → List W → Prop) (ρ : List D) (acc : List W) : qLcL g tt te vs k [] ρ acc = k ρ acc := by rw [qLcL]
@[simp ↓] theorem qLcL_cons (g : TGQ) (tt : TTQ) (te : TQ) (vs : List Nat) (k : List D → List W → Prop) (w : W) (ws : List W) (ρ : List D) (acc : List W) : qLcL g tt te vs k (w :: ws) ρ acc = g (.sh w) ρ fun ρ1 => tt ρ1 fun ρ2 b => if b = true then te ρ2 fun ρ3 d => lookD d fun w => qLcL g tt te vs k ws (wipeD ρ3 vs) (acc ++ [w]) else qLcL g tt te vs k ws (wipeD ρ2 vs) acc := by rw [qLcL]
@[simp] theorem wipeD_nil (ρ : List D) : wipeD ρ [] = ρ := by rw [wipeD]
@[simp] theorem wipeD_cons (ρ : List D) (v : Nat) (vs : List Nat) : wipeD ρ (v :: vs) = (wipeD ρ vs).set v .un := by rw [wipeD]
@[simp] theorem mrg_nil (ρ ρ' : List D) : mrg ρ ρ' [] = ρ' := by rw [mrg]
@[simp] theorem mrg_cons (ρ ρ' : List D) (v : Nat) (vs : List Nat) : mrg ρ ρ' (v :: vs) = (mrg ρ ρ' vs).set v (kpO ρ[v]?) := by
 rw [mrg]
 unfold kpO
 rfl
@[simp] theorem kpO_sh (w : W) : kpO (some (.sh w)) = .sh w := by rw [kpO, keepSh]
@[simp] theorem kpO_un : kpO (some .un) = .un := by rw [kpO, keepSh]; exact fun w h => nomatch h
@[simp] theorem kpO_lst (w : List W) : kpO (some (.lst w)) = .un := by rw [kpO, keepSh]; exact fun w h => nomatch h
@[simp] theorem kpO_none : kpO none = .un := by rw [kpO]
def endO (d : D) (C : Addr) (Q : List Str → List W → Prop) : Prop := match d with
 | .mobj C' fs zs => C' = C ∧ Q fs zs
 | _ => False
@[simp ↓] theorem endO_e (C C' : Addr) (fs : List Str) (zs : List W) (Q : List Str → List W → Prop) : endO (.mobj C' fs zs) C Q = (C' = C ∧ Q fs zs) := by rw [endO]
@[simp ↓] theorem endI_e (C : Addr) (Q : List Str → List W → Prop) (ρ : List D) : endI C Q ρ = onS ρ[0]? (fun d => endO d C Q) ⟨⟩ := by
 unfold endI onS endO
 cases (ρ[0]? : Option D) with
 | none => rfl
 | some d => cases d <;> rfl
def fldO (d : D) (C : Addr) (s : Nat) (f : Str) (w : W) (ρ : List D) (Q : List D → Prop) : Prop := match d with
 | .mobj C' fs zs => (C' = C ∧ fs.contains f = false ∧ fs.length < 100) ∧ Q (ρ.set s (.mobj C (fs ++ [f]) (zs ++ [w])))
 | _ => False
@[simp ↓] theorem fldO_e (C C' : Addr) (fs : List Str) (zs : List W) (s : Nat) (f : Str) (w : W) (ρ : List D) (Q : List D → Prop) : fldO (.mobj C' fs zs) C s f w ρ Q = ((C' = C ∧ fs.contains f = false ∧ fs.length < 100) ∧ Q (ρ.set s (.mobj C (fs ++ [f]) (zs ++ [w])))) := by rw [fldO]
@[simp ↓] theorem sFldQ_e (C : Addr) (s : Nat) (f : Str) (t : TQ) (E : EQ) (ρ : List D) : sFldQ C s f t E ρ = (t ρ fun ρ1 d => lookD d fun w => onS ρ1[s]? (fun d0 => fldO d0 C s f w ρ1 E.nx) ⟨⟩) := by
 unfold sFldQ
 congr 1
 funext ρ1 d
 congr 1
 funext w
 unfold onS fldO
 cases ρ1[s]? with
 | none => rfl
 | some d => cases d <;> rfl
@[simp] theorem keysW_nil : keysW [] = some [] := by rw [keysW]
@[simp] theorem keysW_i (i : Int) (ws : List W) : keysW (.v (.int i) :: ws) = (keysW ws).map fun ks => .inl i :: ks := by rw [keysW, keyW]; rfl
@[simp ↓] theorem qDcL_nil (g : TGQ) (tt : TTQ) (tk tv : TQ) (vs : List Nat) (k : List D → List (List Key) → List W → Prop) (ρ : List D) (ks : List (List Key)) (acc : List W) : qDcL g tt tk tv vs k [] ρ ks acc = k ρ ks acc := by rw [qDcL]
def keyO (wk : W) (k : List Key → Prop) : Prop := match wk with
 | .tup us => onK (keysW us) k ⟨⟩
 | _ => False
@[simp ↓] theorem keyO_t (us : List W) (k : List Key → Prop) : keyO (.tup us) k = onK (keysW us) k ⟨⟩ := by rw [keyO]
@[simp ↓] theorem qDcL_cons (g : TGQ) (tt : TTQ) (tk tv : TQ) (vs : List Nat) (k : List D → List (List Key) → List W → Prop) (w : W) (ws : List W) (ρ : List D) (ks : List (List Key)) (acc : List W) : qDcL g tt tk tv vs k (w :: ws) ρ ks acc = g (.sh w) ρ fun ρ1 => tt ρ1 fun ρ2 b => if b = true then tk ρ2 fun ρ3 dk => lookD dk fun wk => tv ρ3 fun ρ4 d => lookD d fun w => keyO wk fun key => qDcL g tt tk tv vs k ws (wipeD ρ4 vs) (dput ks acc key w).1 (dput ks acc key w).2 else qDcL g tt tk tv vs k ws (wipeD ρ2 vs) ks acc := by
 rw [qDcL]
 unfold keyO onK
 rfl
@[simp ↓] theorem qScL_nil (g : TGQ) (tt : TTQ) (te : TQ) (vs : List Nat) (k : List D → List (List Int) → Prop) (ρ : List D) (acc : List (List Int)) : qScL g tt te vs k [] ρ acc = k ρ acc := by rw [qScL]
def intO (wk : W) (k : List Int → Prop) : Prop := match wk with
 | .tup us => onI (intsW us) k ⟨⟩
 | _ => False
@[simp ↓] theorem intO_t (us : List W) (k : List Int → Prop) : intO (.tup us) k = onI (intsW us) k ⟨⟩ := by rw [intO]
@[simp ↓] theorem qScL_cons (g : TGQ) (tt : TTQ) (te : TQ) (vs : List Nat) (k : List D → List (List Int) → Prop) (w : W) (ws : List W) (ρ : List D) (acc : List (List Int)) : qScL g tt te vs k (w :: ws) ρ acc = g (.sh w) ρ fun ρ1 => tt ρ1 fun ρ2 b => if b = true then te ρ2 fun ρ3 d => lookD d fun w => intO w fun key => qScL g tt te vs k ws (wipeD ρ3 vs) (acc ++ [key]) else qScL g tt te vs k ws (wipeD ρ2 vs) acc := by
 rw [qScL]
 unfold intO onI
 rfl
@[simp] theorem intsW_nil : intsW [] = some [] := by rw [intsW]
@[simp] theorem intsW_i (i : Int) (ws : List W) : intsW (.v (.int i) :: ws) = (intsW ws).map fun is => i :: is := by rw [intsW]
@[simp] theorem truW_int (i : Int) : truW (.v (.int i)) = some (i != 0) := by rw [truW]
@[simp] theorem truW_bl (i : Bool) : truW (.v (.bl i)) = some i := by rw [truW]
@[simp] theorem truW_non : truW (.v .non) = some false := by rw [truW]
@[simp] theorem truW_lst (i : List W) : truW (.lst i) = some (!i.isEmpty) := by rw [truW]
@[simp] theorem truW_tup (i : List W) : truW (.tup i) = some (!i.isEmpty) := by rw [truW]
@[simp ↓] theorem qOrT_e (ta tb : TQ) (ρ : List D) (Q : KQ) : qOrT ta tb ρ Q = (ta ρ fun ρ1 d => lookD d fun w => onB (truW w) (fun k => if k = true then Q ρ1 d else tb ρ1 Q) ⟨⟩) := by
 unfold qOrT onB
 congr 1
 funext ρ1 d
 congr 1
 funext w
 cases truW w with
 | none => rfl
 | some k => cases k <;> simp
@[simp ↓] theorem f_take_e (m : Int) (Q : D → Prop) : f_take [.bag, .v (.int m)] Q = ((0 < m ∧ m < 2 ^ 200) ∧ ∀ v : Int, 0 ≤ v → v < m → Q (.int v)) := by rw [f_take]
@[simp] theorem tyW_int (i : Int) : tyW (.v (.int i)) = some "int" := by rw [tyW]
@[simp] theorem tyW_bl (i : Bool) : tyW (.v (.bl i)) = some "bool" := by rw [tyW]
@[simp] theorem tyW_str (i : Str) : tyW (.v (.str i)) = some "str" := by rw [tyW]
@[simp] theorem tyW_non : tyW (.v .non) = some "NoneType" := by rw [tyW]
@[simp] theorem tyW_lst (i : List W) : tyW (.lst i) = some "list" := by rw [tyW]
@[simp] theorem tyW_tup (i : List W) : tyW (.tup i) = some "tuple" := by rw [tyW]
@[simp] theorem tyW_dic (ks : List Key) (i : List W) : tyW (.dic ks i) = some "dict" := by rw [tyW]
@[simp] theorem tyW_dit (ks : List (List Key)) (i : List W) : tyW (.dit ks i) = none := by rw [tyW] <;> simp
@[simp] theorem tyW_set (S : Int → Bool) (n : Nat) : tyW (.set S n) = some "set" := by rw [tyW]
@[simp] theorem tys_int : "int" ∈ tys := by decide
@[simp] theorem tys_bool : "bool" ∈ tys := by decide
@[simp] theorem tys_str : "str" ∈ tys := by decide
@[simp] theorem tys_list : "list" ∈ tys := by decide
@[simp] theorem tys_tuple : "tuple" ∈ tys := by decide
@[simp] theorem tys_dict : "dict" ∈ tys := by decide
@[simp] theorem vok_int (i : Int) : vOk (.int i) = true := rfl
@[simp] theorem vok_bl (i : Bool) : vOk (.bl i) = true := rfl
@[simp] theorem vok_non : vOk .non = true := rfl
@[simp] theorem tyW_byt (i : Array UInt8) : tyW (.v (.byt i)) = none := by simp [tyW]
@[simp] theorem tyW_flt (i : UInt64) : tyW (.v (.flt i)) = none := by simp [tyW]
@[simp] theorem tyW_ref (i : Addr) : tyW (.v (.ref i)) = none := by simp [tyW]
@[simp] theorem tyW_ty (i : String) : tyW (.v (.ty i)) = none := by simp [tyW]
@[simp] theorem tyW_obj (C : Addr) (fs : List Str) (ws : List W) : tyW (.obj C fs ws) = none := by simp [tyW]
@[simp] theorem tyW_bag : tyW .bag = none := by simp [tyW]
@[simp ↓] theorem isIns_e (C C' : Addr) (fs : List Str) (ws : List W) (k : Prop) : isIns C (.obj C' fs ws) k = (C' = C ∧ k) := by rw [isIns]
@[simp ↓] theorem asBo_e (r : Bool) (k : Bool → Prop) : asBo (.sh (.v (.bl r))) k = k r := by rw [asBo]
@[simp ↓] theorem qCmpO_e (neg : Bool) (C : Addr) (f : PF) (ta tb : TQ) (ρ : List D) (Q : KQ) : qCmpO neg C f ta tb ρ Q = (ta ρ fun ρ1 d => lookD d fun w => tb ρ1 fun ρ2 d2 => lookD d2 fun u => isIns C w (isIns C u (f [w, u] fun d => asBo d fun r => Q ρ2 (.bl (neg != r))))) := by rw [qCmpO]
@[simp ↓] theorem bIsC_obj (C C' C1 : Addr) (fs : List Str) (ws : List W) (k : D → Prop) : bIsC C [.obj C1 fs ws, .v (.ref C')] k = (C' = C ∧ C1 = C ∧ k (.bl true)) := by rw [bIsC]
@[simp] theorem scal_str (a b : Str) : scal (.str a) (.str b) = true := rfl
@[simp] theorem scal_int (a b : Int) : scal (.int a) (.int b) = true := rfl
@[simp ↓] theorem flatD_e (x : V) (k : D → Prop) : flatD (.sh (.v x)) k = k (.sh (.v x)) := by rw [flatD]
@[simp ↓] theorem bF_e (n : Nat) (f : PF) (ws : List W) (k : D → Prop) : bF n f ws k = (ws.length = n ∧ f ws fun d => flatD d k) := by rw [bF]
@[simp ↓] theorem nNil_e (ρ : List D) (Q : List D → List D → Prop) : nNil ρ Q = Q ρ [] := by rw [nNil]
@[simp ↓] theorem nCons_e (a : TQ) (t : TDQ) (ρ : List D) (Q : List D → List D → Prop) : nCons a t ρ Q = (a ρ fun ρ1 d => t ρ1 fun ρ2 ds => Q ρ2 (d :: ds)) := by rw [nCons]
@[simp ↓] theorem qNTup_e (t : TDQ) (ρ : List D) (Q : KQ) : qNTup t ρ Q = (t ρ fun ρ1 ds => Q ρ1 (.ntup ds)) := by rw [qNTup]
@[simp ↓] theorem qMove_e (i : Nat) (ρ : List D) (Q : KQ) : qMove i ρ Q = onS ρ[i]? (fun d => thr d (Q (ρ.set i .un) d)) ⟨⟩ := by
 unfold qMove onS thr
 split <;> simp_all
end R
namespace R
open PySem PySem.Spec PyProof.Rows L2 G
section
variable {X : L2.Cx} {elt tg iter tg1 iter1 : Expr} {ifs ifs1 : List Expr} {scope : Scope} {own : List (PySem.Str × Nat)} {pos : Pos} {wi wi1 : TI} {g g1 : TG} {tt tt1 : TT} {te : TE} {vs vs1 : List Nat}
end
@[simp ↓] theorem gqTup_4 (n : Nat) (t : TGsQ) (a b c d : W) (ρ : List D) (Q : List D → Prop) : gqTup n t (.sh (.tup [a, b, c, d])) ρ Q = (4 = n ∧ t [.sh a, .sh b, .sh c, .sh d] ρ Q) := by rw [gqTup]; rfl
@[simp ↓] theorem gqTup_5 (n : Nat) (t : TGsQ) (a b c d e : W) (ρ : List D) (Q : List D → Prop) : gqTup n t (.sh (.tup [a, b, c, d, e])) ρ Q = (5 = n ∧ t [.sh a, .sh b, .sh c, .sh d, .sh e] ρ Q) := by rw [gqTup]; rfl
section
variable {K : PySem.W.Frag} {c : Cx K}
end
end R
namespace R
open PySem PySem.Spec PyProof.Rows L2 G
section
variable {K : PySem.W.Frag} {c : Cx K}
theorem RepL.all {b : Addr} {F : Hp} : ∀ {us : List V} {ws : List W}, us.length = ws.length → (∀ (j : Nat) v w, us[j]? = some v → ws[j]? = some w → Rep K b F v w) → RepL K b F us ws
 | [], [], _, _ => .nil
 | [], _ :: _, l, _ => nomatch l
 | _ :: _, [], l, _ => nomatch l
 | u :: us, w :: ws, l, h => .cons (h 0 u w rfl rfl) (RepL.all (by simpa using l) fun j v x e q => h (j + 1) v x e q)
end
end R
namespace R
open PySem PySem.Spec PyProof.Rows L2 G
section
variable {K : PySem.W.Frag} {c : Cx K}
end
end R
namespace R
open PySem PySem.Spec PyProof.Rows L2 G
section
variable {K : PySem.W.Frag} {c : Cx K}
end
end R
namespace R
open PySem PySem.Spec PyProof.Rows L2 G
theorem vals_ints : ∀ {ns : List Int} {us : List Value}, Vals (ns.map V.int) us → PyProof.Rows.IntsAre us ns
 | [], _, .nil => .nil
 | n :: ns, _, .cons h t => by
  obtain ⟨tk, rfl⟩ := h
  exact .cons n tk (vals_ints t)
section
variable {K : PySem.W.Frag} {c : Cx K}
end
end R
namespace R
open PySem PySem.Spec PyProof.Rows L2 G
section
variable {K : PySem.W.Frag} {c : Cx K}
end
section
variable {X : L2.Cx} {kx vx tg iter : Expr} {ifs : List Expr} {scope : Scope} {own : List (PySem.Str × Nat)} {pos : Pos} {wi : TI} {g : TG} {tt : TT} {tk tv : TE} {vs : List Nat}
end
end R
namespace R
open PySem PySem.Spec PyProof.Rows L2 G
section
variable {K : PySem.W.Frag} {c : Cx K}
end
end R
namespace R
open PySem PySem.Spec PyProof.Rows L2 G
section
variable {X : L2.Cx} {kx vx tg iter : Expr} {ifs : List Expr} {scope : Scope} {own : List (PySem.Str × Nat)} {pos : Pos} {wi : TI} {g : TG} {tt : TT} {tk tv : TE} {vs : List Nat}
end
end R
namespace R
open PySem PySem.Spec PyProof.Rows L2 G
theorem def_mkF {K : PySem.W.Frag} {mg : Str → Option Value} {h : Heap} {x : Str} {st : Stmt} {ps : List Str} (X : K.In h) (G : h.Ns mainGlobals mg) (a : (He.Fa.glo x).ok K = true) (F : ∃ fd, FunD K x x (defArgs st) (defBody st) (defScope st) [] [] (He.fAd K (x, none)) fd)
  (hb : ∀ (kV doc pm : Value) (an : Option Addr) (cdv ct : Value) (us : List Value), us.length = ps.length → bindArgs (PySem.W.fnOf x x (defArgs st) (defBody st) (defScope st) .none kV doc pm an cdv ct) ⟨us, []⟩ = pure (ps.zip us)) : Def K mg x st ps := by
 obtain ⟨fd, ⟨oc, od, dV, kV, doc, pm, an, cdv, ct, osl, rfl, lk, hc, hd, hk⟩, kp⟩ := F
 rcases hd with ⟨_, rfl⟩ | ⟨ne, _⟩
 ·exact def_mk X G (He.eqO_ok a) lk hc kp hb
 ·exact absurd rfl ne
theorem mdef_mkF {K : PySem.W.Frag} {Cn m q : Str} {st : Stmt} {ps : List Str} (a : (He.Fa.meth Cn m).ok K = true) (F : ∃ fd, FunD K m q (defArgs st) (defBody st) (defScope st) [] [] (He.fAd K (Cn, some m)) fd)
  (hb : ∀ (kV doc pm : Value) (an : Option Addr) (cdv ct : Value) (us : List Value), us.length = ps.length → bindArgs (PySem.W.fnOf m q (defArgs st) (defBody st) (defScope st) .none kV doc pm an cdv ct) ⟨us, []⟩ = pure (ps.zip us)) : MDef K (He.ga K Cn) m q st ps := by
 obtain ⟨fd, ⟨oc, od, dV, kV, doc, pm, an, cdv, ct, osl, rfl, lk, hc, hd, hk⟩, kp⟩ := F
 obtain ⟨m1, m2, m3⟩ := He.meth_ok a
 rcases hd with ⟨_, rfl⟩ | ⟨ne, _⟩
 ·exact mdef_mk m1 m2 lk hc kp hb
 ·exact absurd rfl ne
theorem walk_ofGE {l : PySem.W.OpenLaw} {n k : Nat} {q : Program} {loose : List Str} {XP : (Str → Option Value) → Heap → Prop} {YP : World → Heap → Prop} {d : DefRec} {cx : World → CXT} {x : Str}
  (hn : l.most = some n) (hn2 : n ≤ sizeLine) (hdf : d.params.defaults = []) (hr : Room k callerA)
  (F : ∀ (w : World) (mg : Str → Option Value) (fa : Addr) (h : Heap), YP w h → h.Ns mainGlobals mg → mg d.name = some (.ref fa) →
   ∃ (K : PySem.W.Frag) (fd : FuncData) (sp : Sp), K.In h ∧ (∀ (s : Shared) (u : Value), BindsTo s fd ⟨[u], []⟩ [(x, u)]) ∧
    (∀ (H : Hp) (a : Addr) (ns : List Int), ns.length ≤ n → L2.Only H → SqL K H a (ns.map V.int) → sp [.ref a] H (fun v _ => v = .bl true) fun _ _ _ => False) ∧
    ∀ base : Heap, K.In base → base.Ns mainGlobals mg → FnG l.prog w K mg base (cx w) k fa fd [x] sp)
  (hcx : ∀ (w : World) (H : Hp) (s : Shared) (e : Value) (s' : Shared), cx w [] H s (fun _ _ _ => False) e s' → False) :
  PySem.W.WalkO q loose XP YP l.row.toRowW d [] (fun f vs => PySem.call f vs) := by
 refine Att.attach_call hn hdf fun w s₀ s₁ mg mb fa o pm cd doc a vs ns gr y ho hd hcd hmg hobj hints hlen hg => ?_
 obtain ⟨K, fd, sp, KX, hb, hsp, hF⟩ := F w mg fa _ y gr.T.g hmg
 exact law_callG KX gr.T.g gr.T.b gr.T.builtins gr.T.nolimit hg hobj hints (Nat.le_trans hlen hn2) hr hF hb (fun H only hS => hsp H a ns hlen only hS) fun H e s' => hcx w H s₁ e s'
end R
namespace R
open PySem PySem.Spec PyProof.Rows L2 G
def p_is_integer (A : Ad) : TSQ :=
  (sRet (qAndV (qCB bIsi (vCons (vVar 0) (vCons (vE (qC (.ty "int"))) vNil))) (qNotV (qCB bIsi (vCons (vVar 0) (vCons (vE (qC (.ty "bool"))) vNil))))))
def f_is_integer (A : Ad) : PF := runF (p_is_integer A) 0
def p_is_between (A : Ad) : TSQ :=
  (sRet (qAndV (qCall (f_is_integer A) 1 (aCons (qVar 0) aNil)) (qChain (oI0 fun i j => .bl (decide (i ≤ j))) (oI0 fun i j => .bl (decide (i ≤ j))) (vVar 1) (vVar 0) (vVar 2))))
def f_is_between (A : Ad) : PF := runF (p_is_between A) 0
def p_is_amount (A : Ad) : TSQ :=
  (sRet (qCall (f_is_between A) 3 (aCons (qVar 0) (aCons (qC (.int 0)) (aCons (qC (.int 1000000000000000000000000000000)) aNil)))))
def f_is_amount (A : Ad) : PF := runF (p_is_amount A) 0
def p_is_count (A : Ad) : TSQ :=
  (sRet (qCall (f_is_between A) 3 (aCons (qVar 0) (aCons (qC (.int 1)) (aCons (qC (.int 1000000000000000000)) aNil)))))
def f_is_count (A : Ad) : PF := runF (p_is_count A) 0
def p_is_broker (A : Ad) : TSQ :=
  (sRet (qCall (f_is_between A) 3 (aCons (qVar 0) (aCons (qC (.int 0)) (aCons (qOp (oI0 fun i j => .int (i - j)) (vVar 1) (vE (qC (.int 1)))) aNil)))))
def f_is_broker (A : Ad) : PF := runF (p_is_broker A) 0
def p_is_bound (A : Ad) : TSQ :=
  (sSeq (sIf (qOr (qNot (qB (qCB bIsi (vCons (vVar 0) (vCons (vE (qC (.ty "tuple"))) vNil))))) (qB (qOp (oEq true) (vE (qCB bLen (vCons (vVar 0) vNil))) (vE (qC (.int 2)))))) (sRet (qC (.bl false))) sNext)
  (sRet (qAndV (qCall (f_is_amount A) 1 (aCons (qOp oIx (vVar 0) (vE (qC (.int 0)))) aNil)) (qAndV (qCall (f_is_amount A) 1 (aCons (qOp oIx (vVar 0) (vE (qC (.int 1)))) aNil)) (qOp (oI0 fun i j => .bl (decide (i ≤ j))) (vE (qOp oIx (vVar 0) (vE (qC (.int 0))))) (vE (qOp oIx (vVar 0) (vE (qC (.int 1))))))))))
def f_is_bound (A : Ad) : PF := runF (p_is_bound A) 0
def p_are_bounds_e0 (A : Ad) : TQ :=
  (qCall (f_is_bound A) 1 (aCons (qVar 1) aNil))
def p_are_bounds (A : Ad) : TSQ :=
  (sSeq (sIf (qOr (qNot (qB (qCB bIsi (vCons (vVar 0) (vCons (vE (qC (.ty "list"))) vNil))))) (qNot (qB (qChain (oI0 fun i j => .bl (decide (i ≤ j))) (oI0 fun i j => .bl (decide (i ≤ j))) (vE (qC (.int 2))) (vE (qCB bLen (vCons (vVar 0) vNil))) (vE (qC (.int 10))))))) (sRet (qC (.bl false))) sNext)
  (sRet (qCB bAll (vCons (vE (qLc (iqSeq (qVar 0)) (gqName 1) qYes (p_are_bounds_e0 A) [1])) vNil))))
def f_are_bounds (A : Ad) : PF := runF (p_are_bounds A) 1
def p_is_bundle (A : Ad) : TSQ :=
  (sSeq (sIf (qOr (qNot (qB (qCB bIsi (vCons (vVar 0) (vCons (vE (qC (.ty "tuple"))) vNil))))) (qOr (qB (qOp (oEq true) (vE (qCB bLen (vCons (vVar 0) vNil))) (vE (qC (.int 3))))) (qNot (qB (qCall (f_is_count A) 1 (aCons (qOp oIx (vVar 0) (vE (qC (.int 2)))) aNil)))))) (sRet (qC (.bl false))) sNext)
  (sRet (qAndV (qCall (f_is_broker A) 2 (aCons (qOp oIx (vVar 0) (vE (qC (.int 0)))) (aCons (qVar 1) aNil))) (qAndV (qCall (f_is_broker A) 2 (aCons (qOp oIx (vVar 0) (vE (qC (.int 1)))) (aCons (qVar 1) aNil))) (qOp (oI0 fun i j => .bl (decide (i < j))) (vE (qOp oIx (vVar 0) (vE (qC (.int 0))))) (vE (qOp oIx (vVar 0) (vE (qC (.int 1))))))))))
def f_is_bundle (A : Ad) : PF := runF (p_is_bundle A) 0
def p_are_bundles_e0 (A : Ad) : TQ :=
  (qCall (f_is_bundle A) 2 (aCons (qVar 2) (aCons (qVar 1) aNil)))
def p_are_bundles_e1 (A : Ad) : TQ :=
  (qSl (vVar 2) oNone (oPart (qC (.int 2))))
def p_are_bundles (A : Ad) : TSQ :=
  (sSeq (sIf (qOr (qNot (qB (qCB bIsi (vCons (vVar 0) (vCons (vE (qC (.ty "list"))) vNil))))) (qB (qOp (oI0 fun i j => .bl (decide (j < i))) (vE (qCB bLen (vCons (vVar 0) vNil))) (vE (qC (.int 45)))))) (sRet (qC (.bl false))) sNext)
  (sSeq (sIf (qNot (qB (qCB bAll (vCons (vE (qLc (iqSeq (qVar 0)) (gqName 2) qYes (p_are_bundles_e0 A) [2])) vNil)))) (sRet (qC (.bl false))) sNext)
  (sRet (qOp (oEq false) (vE (qLenSc (iqSeq (qVar 0)) (gqName 2) qYes (p_are_bundles_e1 A) [2])) (vE (qCB bLen (vCons (vVar 0) vNil)))))))
def f_are_bundles (A : Ad) : PF := runF (p_are_bundles A) 1
def p_Clusteru_initu (A : Ad) : TSQ :=
  (sSeq (sIf (qNot (qB (qCall (f_are_bounds A) 1 (aCons (qVar 1) aNil)))) sNever sNext)
  (sSeq (sIf (qNot (qB (qCall (f_are_bundles A) 2 (aCons (qVar 2) (aCons (qCB bLen (vCons (vVar 1) vNil)) aNil))))) sNever sNext)
  (sSeq (sFldQ A.Cluster 0 "limits" (qCB bList (vCons (vVar 1) vNil)))
  (sSeq (sFldQ A.Cluster 0 "rows" (qCB bList (vCons (vVar 2) vNil)))
  (sFldQ A.Cluster 0 "numbers" (qDc (iqEnum (aCons (qVar 2) aNil)) (gqTup 2 (gqCons (gqName 3) (gqCons (gqName 4) gqNil))) qYes (qSl (vVar 4) oNone (oPart (qC (.int 2)))) (qVar 3) [3, 4]))))))
def f_Clusteru_initu (A : Ad) : PI0 := runI A.Cluster (p_Clusteru_initu A) 2
def p__law_amount (A : Ad) : TSQ :=
  (sSeq (sIf (qAnd (qB (qVar 1)) (qB (qOp (oEq false) (vE (qCall f_take 2 (aCons (qVar 0) (aCons (qC (.int 2)) aNil)))) (vE (qC (.int 0)))))) (sRet (qOp oIx (vE (qLst (aCons (qOp (oI0 fun i j => .int (i - j)) (vE (qOp (oI CPow fun i j => .int (i ^ j.toNat)) (vE (qC (.int 10))) (vE (qC (.int 18))))) (vE (qCall f_take 2 (aCons (qVar 0) (aCons (qC (.int 3)) aNil))))) (aCons (qOp oPlus (vE (qC (.int 1))) (vE (qCall f_take 2 (aCons (qVar 0) (aCons (qOp (oI CPow fun i j => .int (i ^ j.toNat)) (vE (qC (.int 10))) (vE (qC (.int 18)))) aNil))))) aNil)))) (vE (qCall f_take 2 (aCons (qVar 0) (aCons (qC (.int 2)) aNil)))))) sNext)
  (sRet (qOp oPlus (vE (qC (.int 1))) (vE (qCall f_take 2 (aCons (qVar 0) (aCons (qOp oIx (vE (qLst (aCons (qC (.int 1)) (aCons (qC (.int 3)) (aCons (qC (.int 9)) aNil))))) (vE (qCall f_take 2 (aCons (qVar 0) (aCons (qC (.int 3)) aNil))))) aNil)))))))
def f__law_amount (A : Ad) : PF := runF (p__law_amount A) 0
def p__law_bundles_g0 (A : Ad) : TGQ :=
  (gqName 6)
def p__law_bundles_b0 (A : Ad) : TSQ :=
  (sIf (qB (qOp (oEq false) (vE (qCall f_take 2 (aCons (qVar 0) (aCons (qVar 3) aNil)))) (vE (qC (.int 0))))) (sDrop (qAppend 4 (qTup (aCons (qVar 5) (aCons (qVar 6) (aCons (qCall (f__law_amount A) 2 (aCons (qVar 0) (aCons (qVar 2) aNil))) aNil)))))) sNext)
def p__law_bundles_g1 (A : Ad) : TGQ :=
  (gqName 5)
def p__law_bundles_b1 (A : Ad) : TSQ :=
  (sFor (iqRng2 (vCons (vE (qOp oPlus (vVar 5) (vE (qC (.int 1))))) (vCons (vVar 1) vNil))) (p__law_bundles_g0 A) (p__law_bundles_b0 A))
def p__law_bundles (A : Ad) : TSQ :=
  (sSeq (sPar 3 4 (qOp oPlus (vE (qC (.int 1))) (vE (qCall f_take 2 (aCons (qVar 0) (aCons (qC (.int 3)) aNil))))) (qLst aNil))
  (sSeq (sFor (iqRng1 (vCons (vVar 1) vNil)) (p__law_bundles_g1 A) (p__law_bundles_b1 A))
  (sSeq (sAsg (qOrT (qVar 4) (qLst (aCons (qTup (aCons (qC (.int 0)) (aCons (qC (.int 1)) (aCons (qCall (f__law_amount A) 2 (aCons (qVar 0) (aCons (qVar 2) aNil))) aNil)))) aNil))) (gqName 4))
  (sRet (qIf (qB (qOp (oEq false) (vE (qCall f_take 2 (aCons (qVar 0) (aCons (qC (.int 3)) aNil)))) (vE (qC (.int 0))))) (qRev (vVar 4)) (qVar 4))))))
def f__law_bundles (A : Ad) : PF := runF (p__law_bundles A) 4
def p__law_bounds_g0 (A : Ad) : TGQ :=
  (gqName 3)
def p__law_bounds_b0 (A : Ad) : TSQ :=
  (sSeq (sAsg (qOp oIx (vE (qLst (aCons (qC (.int 0)) (aCons (qC (.int 0)) (aCons (qC (.int 1)) (aCons (qCall f_take 2 (aCons (qVar 0) (aCons (qC (.int 4)) aNil))) (aCons (qVar 3) aNil))))))) (vE (qCall f_take 2 (aCons (qVar 0) (aCons (qC (.int 5)) aNil))))) (gqName 4))
  (sSeq (sAsg (qOp oIx (vE (qLst (aCons (qC (.int 0)) (aCons (qC (.int 0)) (aCons (qC (.int 1)) (aCons (qCall f_take 2 (aCons (qVar 0) (aCons (qC (.int 4)) aNil))) (aCons (qOp (oI CPow fun i j => .int (i ^ j.toNat)) (vE (qC (.int 10))) (vE (qC (.int 19)))) aNil))))))) (vE (qCall f_take 2 (aCons (qVar 0) (aCons (qC (.int 5)) aNil))))) (gqName 5))
  (sDrop (qAppend 2 (qTup (aCons (qCB bMax (vCons (vE (qC (.int 0))) (vCons (vE (qOp (oI0 fun i j => .int (i - j)) (vVar 3) (vVar 4))) vNil))) (aCons (qOp oPlus (vVar 3) (vVar 5)) aNil)))))))
def p__law_bounds (A : Ad) : TSQ :=
  (sSeq (sAsg (qLst aNil) (gqName 2))
  (sSeq (sFor (iqSeq (qVar 1)) (p__law_bounds_g0 A) (p__law_bounds_b0 A))
  (sRetV 2)))
def f__law_bounds (A : Ad) : PF := runF (p__law_bounds A) 4
def p__law_loads_g0 (A : Ad) : TGQ :=
  (gqTup 2 (gqCons (gqName 4) (gqCons (gqTup 3 (gqCons (gqName 5) (gqCons (gqName 6) (gqCons (gqName 7) gqNil)))) gqNil)))
def p__law_loads_b0 (A : Ad) : TSQ :=
  (sSeq (sAsg (qOp oPlus (vE (qOp oIx (vVar 3) (vVar 5))) (vVar 4)) (gqSub 3 (qVar 5)))
  (sAsg (qOp (oI0 fun i j => .int (i - j)) (vE (qOp oPlus (vE (qOp oIx (vVar 3) (vVar 6))) (vVar 7))) (vVar 4)) (gqSub 3 (qVar 6))))
def p__law_loads (A : Ad) : TSQ :=
  (sSeq (sAsg (qOp oTimes (vE (qLst (aCons (qC (.int 0)) aNil))) (vVar 0)) (gqName 3))
  (sSeq (sFor (iqZip (aCons (qVar 2) (aCons (qVar 1) aNil))) (p__law_loads_g0 A) (p__law_loads_b0 A))
  (sRetV 3)))
def f__law_loads (A : Ad) : PF := runF (p__law_loads A) 5
def p_Cluster_bundles (A : Ad) : TSQ :=
  (sRet (qCB bList (vCons (vE (qFld A.Cluster "rows" (vVar 0))) vNil)))
def f_Cluster_bundles (A : Ad) : PF := runF (p_Cluster_bundles A) 0
def p__law_alike (A : Ad) : TSQ :=
  (sRet (qAndV (qOp (oEq false) (vVar 0) (vVar 1)) (qOp (oEqF false) (vE (qCB bRepr (vCons (vVar 0) vNil))) (vE (qCB bRepr (vCons (vVar 1) vNil))))))
def f__law_alike (A : Ad) : PF := runF (p__law_alike A) 0
def p_Clusteru_equ (A : Ad) : TSQ :=
  (sSeq (sIf (qNot (qB (qCB (bIsC A.Cluster) (vCons (vVar 1) (vCons (vE (qC (.ref A.Cluster))) vNil))))) (sRet (qC (.bl false))) sNext)
  (sRet (qAndV (qOp (oEq false) (vE (qFld A.Cluster "limits" (vVar 0))) (vE (qFld A.Cluster "limits" (vVar 1)))) (qOp (oEq false) (vE (qFld A.Cluster "rows" (vVar 0))) (vE (qFld A.Cluster "rows" (vVar 1)))))))
def f_Clusteru_equ (A : Ad) : PF := runF (p_Clusteru_equ A) 0
end R
namespace R
open PySem PySem.Spec PyProof.Rows L2 G
theorem lcL_map {α : Type} {g : TGQ} {tt : TTQ} {te : TQ} {vs : List Nat} {k : List D → List W → Prop} {ρ : List D} (enc f : α → W) : ∀ {xs : List α} {acc : List W}, (∀ x ∈ xs, ∀ acc ws', qLcL g tt te vs k (enc x :: ws') ρ acc = qLcL g tt te vs k ws' ρ (acc ++ [f x])) → qLcL g tt te vs k (xs.map enc) ρ acc = k ρ (acc ++ xs.map f)
 | [], acc, _ => by simp
 | x :: xs, acc, h => by
  rw [List.map_cons, h x List.mem_cons_self, lcL_map enc f fun y hy => h y (List.mem_cons_of_mem _ hy), List.append_assoc]
  rfl
theorem loop_fold {α S : Type} {g : TGQ} {b : TSQ} {E : EQ} (enc : α → W) (R : S → List D) (st : S → α → S) (I : S → Prop) : ∀ {xs : List α} {s : S}, I s → (∀ x ∈ xs, ∀ s, I s → I (st s x) ∧ ∀ ws', qLoop g b E (enc x :: ws') (R s) = qLoop g b E ws' (R (st s x))) → qLoop g b E (xs.map enc) (R s) = E.nx (R (xs.foldl st s))
 | [], s, _, _ => by simp
 | x :: xs, s, hi, h => by
  obtain ⟨h1, h2⟩ := h x List.mem_cons_self s hi
  rw [List.map_cons, h2, loop_fold enc R st I h1 fun y hy => h y (List.mem_cons_of_mem _ hy)]
  rfl
@[simp ↓] theorem asB_mapf {α : Type} (k : List Bool → Prop) (f : α → Bool) (xs : List α) : asB k (xs.map fun x => W.v (.bl (f x))) = k (xs.map f) := by
 have e : (xs.map fun x => W.v (.bl (f x))) = (xs.map f).map fun b => W.v (.bl b) := by rw [List.map_map]; rfl
 rw [e, asB_map]
@[simp ↓] theorem asI_mapf {α : Type} (k : List Int → Prop) (f : α → Int) (xs : List α) : asI k (xs.map fun x => W.v (.int (f x))) = k (xs.map f) := by
 have e : (xs.map fun x => W.v (.int (f x))) = (xs.map f).map fun b => W.v (.int b) := by rw [List.map_map]; rfl
 rw [e, asI_map]
def isIntW : W → Bool
 | .v (.int _) => true
 | _ => false
def betwW (w : W) (lo hi : Int) : Bool := match w with
 | .v (.int i) => decide (lo ≤ i) && decide (i ≤ hi)
 | _ => false
def tyd (w : W) : Prop := (tyW w).isSome = true
@[simp] theorem tyd_int (i : Int) : tyd (.v (.int i)) := rfl
@[simp] theorem tyd_bl (i : Bool) : tyd (.v (.bl i)) := rfl
@[simp] theorem tyd_str (i : Str) : tyd (.v (.str i)) := rfl
@[simp] theorem tyd_non : tyd (.v .non) := rfl
@[simp] theorem tyd_lst (i : List W) : tyd (.lst i) := rfl
@[simp] theorem tyd_tup (i : List W) : tyd (.tup i) := rfl
theorem f_is_integer_eq {A : Ad} {w : W} {Q : D → Prop} (h : tyd w) : f_is_integer A [w] Q = Q (.bl (isIntW w)) := by
 unfold tyd at h
 cases w with
 | v x => cases x <;> simp [f_is_integer, p_is_integer, isA, isIntW] at h ⊢
 | _ => simp [f_is_integer, p_is_integer, isA, isIntW] at h ⊢
theorem f_is_between_eq {A : Ad} {w : W} {lo hi : Int} {Q : D → Prop} (h : tyd w) : f_is_between A [w, .v (.int lo), .v (.int hi)] Q = Q (.bl (betwW w lo hi)) := by
 cases w with
 | v x =>
  cases x with
  | int i =>
   simp [f_is_between, p_is_between, f_is_integer_eq h, betwW, isIntW]
   by_cases hl : lo ≤ i
   ·rw [if_pos (by omega), decide_eq_true hl]; rfl
   ·rw [if_neg (by omega), decide_eq_false hl]; rfl
  | _ => simp [f_is_between, p_is_between, f_is_integer_eq h, betwW, isIntW]
 | _ => simp [f_is_between, p_is_between, f_is_integer_eq h, betwW, isIntW]
theorem f_is_amount_eq {A : Ad} {w : W} {Q : D → Prop} (h : tyd w) : f_is_amount A [w] Q = Q (.bl (betwW w 0 1000000000000000000000000000000)) := by
 simp [f_is_amount, p_is_amount, f_is_between_eq h]
theorem f_is_count_eq {A : Ad} {w : W} {Q : D → Prop} (h : tyd w) : f_is_count A [w] Q = Q (.bl (betwW w 1 1000000000000000000)) := by
 simp [f_is_count, p_is_count, f_is_between_eq h]
theorem f_is_broker_eq {A : Ad} {w : W} {n : Int} {Q : D → Prop} (h : tyd w) : f_is_broker A [w, .v (.int n)] Q = Q (.bl (betwW w 0 (n - 1))) := by
 simp [f_is_broker, p_is_broker, f_is_between_eq h]
def tydL : Nat → W → Prop
 | 0, w => tyd w
 | n + 1, w => tyd w ∧ match w with
  | .lst ws => ∀ x ∈ ws, tydL n x
  | .tup ws => ∀ x ∈ ws, tydL n x
  | _ => True
def leW (x y : W) : Bool := match x, y with
 | .v (.int i), .v (.int j) => decide (i ≤ j)
 | _, _ => false
def ltW (x y : W) : Bool := match x, y with
 | .v (.int i), .v (.int j) => decide (i < j)
 | _, _ => false
def isBoundW : W → Bool
 | .tup [a, b] => betwW a 0 1000000000000000000000000000000 && betwW b 0 1000000000000000000000000000000 && leW a b
 | _ => false
theorem betw_ex {w : W} {lo hi : Int} (h : betwW w lo hi = true) : ∃ i, w = .v (.int i) ∧ lo ≤ i ∧ i ≤ hi := by
 unfold betwW at h
 split at h
 next i => exact ⟨i, rfl, by simpa using h⟩
 next => cases h
theorem f_is_bound_eq {A : Ad} {w : W} {Q : D → Prop} (h : tydL 1 w) : f_is_bound A [w] Q = Q (.bl (isBoundW w)) := by
 obtain ⟨h0, h1⟩ := h
 have hh := h0
 unfold tyd at hh
 cases w with
 | tup ws =>
  match ws, h1 with
  | [], _ => simp [f_is_bound, p_is_bound, isA, isBoundW]
  | [a], _ => simp [f_is_bound, p_is_bound, isA, isBoundW]
  | [a, b], h1 =>
   have ha : tyd a := h1 a (by simp)
   have hb : tyd b := h1 b (by simp)
   simp [f_is_bound, p_is_bound, isA, isBoundW, atI, ixN, f_is_amount_eq ha, f_is_amount_eq hb]
   cases e1 : betwW a 0 1000000000000000000000000000000 with
   | false => simp
   | true =>
    cases e2 : betwW b 0 1000000000000000000000000000000 with
    | false => simp
    | true =>
     obtain ⟨i, rfl, _⟩ := betw_ex e1
     obtain ⟨j, rfl, _⟩ := betw_ex e2
     simp [leW]
  | a :: b :: c :: ws, _ =>
   simp [f_is_bound, p_is_bound, isA, isBoundW]
   omega
 | v x => cases x <;> simp [f_is_bound, p_is_bound, isA, isBoundW] at hh ⊢
 | _ => simp [f_is_bound, p_is_bound, isA, isBoundW] at hh ⊢
end R
namespace R
open PySem PySem.Spec PyProof.Rows L2 G
def areBoundsW : W → Bool
 | .lst ws => decide (2 ≤ ws.length) && decide (ws.length ≤ 10) && ws.all isBoundW
 | _ => false
theorem map_id (ws : List W) : ws.map (fun w => w) = ws := by simp
theorem all_map {α : Type} (f : α → Bool) (xs : List α) : (xs.map f).all id = xs.all f := by rw [List.all_map]; rfl
theorem f_are_bounds_eq {A : Ad} {w : W} {Q : D → Prop} (h : tydL 2 w) : f_are_bounds A [w] Q = Q (.bl (areBoundsW w)) := by
 obtain ⟨h0, h1⟩ := h
 have hh := h0
 unfold tyd at hh
 cases w with
 | lst ws =>
  have lc : ∀ k, qLcL (gqName 1) qYes (p_are_bounds_e0 A) [1] k ws [.sh (.lst ws), .un] [] = k [.sh (.lst ws), .un] (ws.map fun x => W.v (.bl (isBoundW x))) := fun k => by
   have := lcL_map (k := k) (g := gqName 1) (tt := qYes) (te := p_are_bounds_e0 A) (vs := [1]) (ρ := [.sh (.lst ws), .un]) (fun w => w) (fun x => W.v (.bl (isBoundW x))) (xs := ws) (acc := []) fun x hx acc ws' => by
    simp [p_are_bounds_e0, f_is_bound_eq (h1 x hx)]
   rwa [map_id] at this
  simp [f_are_bounds, p_are_bounds, isA, areBoundsW]
  by_cases h2 : 2 ≤ ws.length
  ·by_cases h10 : ws.length ≤ 10
   ·rw [if_pos (by omega), if_neg (by omega), lc]
    simp [h2, h10, all_map]
    omega
   ·rw [if_pos (by omega), if_pos (by omega)]
    simp [h2, h10]
  ·rw [if_neg (by omega)]
   simp [h2]
 | v x => cases x <;> simp [f_are_bounds, p_are_bounds, isA, areBoundsW] at hh ⊢
 | _ => simp [f_are_bounds, p_are_bounds, isA, areBoundsW] at hh ⊢
def isBundleW (n : Int) : W → Bool
 | .tup [a, b, c] => betwW c 1 1000000000000000000 && betwW a 0 (n - 1) && betwW b 0 (n - 1) && ltW a b
 | _ => false
theorem f_is_bundle_eq {A : Ad} {w : W} {n : Int} {Q : D → Prop} (h : tydL 1 w) : f_is_bundle A [w, .v (.int n)] Q = Q (.bl (isBundleW n w)) := by
 obtain ⟨h0, h1⟩ := h
 have hh := h0
 unfold tyd at hh
 cases w with
 | tup ws =>
  match ws, h1 with
  | [], _ => simp [f_is_bundle, p_is_bundle, isA, isBundleW]
  | [a], _ => simp [f_is_bundle, p_is_bundle, isA, isBundleW]
  | [a, b], _ => simp [f_is_bundle, p_is_bundle, isA, isBundleW]
  | [a, b, c], h1 =>
   have ha : tyd a := h1 a (by simp)
   have hb : tyd b := h1 b (by simp)
   have hc : tyd c := h1 c (by simp)
   simp [f_is_bundle, p_is_bundle, isA, isBundleW, atI, ixN, f_is_broker_eq ha, f_is_broker_eq hb, f_is_count_eq hc]
   cases e0 : betwW c 1 1000000000000000000 with
   | false => simp
   | true =>
    cases e1 : betwW a 0 (n - 1) with
    | false => simp
    | true =>
     cases e2 : betwW b 0 (n - 1) with
     | false => simp
     | true =>
      obtain ⟨i, rfl, _⟩ := betw_ex e1
      obtain ⟨j, rfl, _⟩ := betw_ex e2
      simp [ltW]
  | a :: b :: c :: d :: ws, _ =>
   simp [f_is_bundle, p_is_bundle, isA, isBundleW]
   omega
 | v x => cases x <;> simp [f_is_bundle, p_is_bundle, isA, isBundleW] at hh ⊢
 | _ => simp [f_is_bundle, p_is_bundle, isA, isBundleW] at hh ⊢
def rowKey : W → List Int
 | .tup (.v (.int a) :: .v (.int b) :: _) => [a, b]
 | _ => []
def areBundlesW (n : Int) : W → Bool
 | .lst ws => decide (ws.length ≤ 45) && ws.all (isBundleW n) && decide ((ws.map rowKey).Nodup)
 | _ => false
theorem bundle_ex {n : Int} {w : W} (h : isBundleW n w = true) : ∃ a b c : Int, w = .tup [.v (.int a), .v (.int b), .v (.int c)] ∧ 0 ≤ a ∧ a < b ∧ b ≤ n - 1 ∧ 1 ≤ c ∧ c ≤ 1000000000000000000 := by
 unfold isBundleW at h
 split at h
 next a b c =>
  simp only [Bool.and_eq_true] at h
  obtain ⟨⟨⟨h1, h2⟩, h3⟩, h4⟩ := h
  obtain ⟨c, rfl, _, _⟩ := betw_ex h1
  obtain ⟨a, rfl, _, _⟩ := betw_ex h2
  obtain ⟨b, rfl, _, _⟩ := betw_ex h3
  exact ⟨a, b, c, rfl, by assumption, by simpa [ltW] using h4, by assumption, by assumption, by assumption⟩
 next => cases h
theorem scL_map {α : Type} {g : TGQ} {tt : TTQ} {te : TQ} {vs : List Nat} {k : List D → List (List Int) → Prop} {ρ : List D} (enc : α → W) (f : α → List Int) : ∀ {xs : List α} {acc : List (List Int)}, (∀ x ∈ xs, ∀ acc ws', qScL g tt te vs k (enc x :: ws') ρ acc = qScL g tt te vs k ws' ρ (acc ++ [f x])) → qScL g tt te vs k (xs.map enc) ρ acc = k ρ (acc ++ xs.map f)
 | [], acc, _ => by simp
 | x :: xs, acc, h => by
  rw [List.map_cons, h x List.mem_cons_self, scL_map enc f fun y hy => h y (List.mem_cons_of_mem _ hy), List.append_assoc]
  rfl
theorem cutW_2 {α : Type} (a b : α) (xs : List α) : cutW (a :: b :: xs) none (some 2) = [a, b] := by
 simp [cutW, HT.sIx]
theorem f_are_bundles_eq {A : Ad} {w : W} {n : Int} {Q : D → Prop} (h : tydL 2 w) : f_are_bundles A [w, .v (.int n)] Q = Q (.bl (areBundlesW n w)) := by
 obtain ⟨h0, h1⟩ := h
 have hh := h0
 unfold tyd at hh
 cases w with
 | lst ws =>
  have lc : ∀ k, qLcL (gqName 2) qYes (p_are_bundles_e0 A) [2] k ws [.sh (.lst ws), .sh (.v (.int n)), .un] [] = k [.sh (.lst ws), .sh (.v (.int n)), .un] (ws.map fun x => W.v (.bl (isBundleW n x))) := fun k => by
   have := lcL_map (k := k) (g := gqName 2) (tt := qYes) (te := p_are_bundles_e0 A) (vs := [2]) (ρ := [.sh (.lst ws), .sh (.v (.int n)), .un]) (fun w => w) (fun x => W.v (.bl (isBundleW n x))) (xs := ws) (acc := []) fun x hx acc ws' => by
    simp [p_are_bundles_e0, f_is_bundle_eq (h1 x hx)]
   rwa [map_id] at this
  simp [f_are_bundles, p_are_bundles, isA, areBundlesW]
  by_cases h45 : ws.length ≤ 45
  ·rw [if_neg (by omega), lc]
   simp [h45, all_map]
   cases hb : ws.all (isBundleW n) with
   | false =>
    have hx : ∃ a, a ∈ ws ∧ isBundleW n a = false := by
     rw [List.all_eq_false] at hb
     obtain ⟨x, h1, h2⟩ := hb
     exact ⟨x, h1, by simpa using h2⟩
    rw [if_pos hx]
    simp
    omega
   | true =>
    rw [List.all_eq_true] at hb
    have sc : ∀ k, qScL (gqName 2) qYes (p_are_bundles_e1 A) [2] k ws [.sh (.lst ws), .sh (.v (.int n)), .un] [] = k [.sh (.lst ws), .sh (.v (.int n)), .un] (ws.map rowKey) := fun k => by
     have := scL_map (k := k) (g := gqName 2) (tt := qYes) (te := p_are_bundles_e1 A) (vs := [2]) (ρ := [.sh (.lst ws), .sh (.v (.int n)), .un]) (fun w => w) rowKey (xs := ws) (acc := []) fun x hx acc ws' => by
      obtain ⟨a, b, c, rfl, _⟩ := bundle_ex (hb x hx)
      simp [p_are_bundles_e1, cutW_2, rowKey]
     rwa [map_id] at this
    rw [if_neg (fun ⟨a, h1, h2⟩ => by rw [hb a h1] at h2; cases h2), sc]
    have e : ((ndiff (ws.map rowKey) : Int) = (ws.length : Int)) ↔ (ws.map rowKey).Nodup := by
     rw [← ndiff_eq, List.length_map]
     omega
    have h62 : ws.length ≤ 62 := by omega
    have hbig : ws.length ≤ 100000 := by omega
    simp [e, h62, hbig]
  ·rw [if_pos (by omega)]
   simp [h45]
 | v x => cases x <;> simp [f_are_bundles, p_are_bundles, isA, areBundlesW] at hh ⊢
 | _ => simp [f_are_bundles, p_are_bundles, isA, areBundlesW] at hh ⊢
end R
namespace R
open PySem PySem.Spec PyProof.Rows L2 G
theorem nodup_of_map {α β : Type} {f : α → β} : ∀ {l : List α}, (l.map f).Nodup → l.Nodup
 | [], _ => List.nodup_nil
 | a :: l, h => by
  rw [List.map_cons, List.nodup_cons] at h
  exact List.nodup_cons.mpr ⟨fun z => h.1 (List.mem_map_of_mem z), nodup_of_map h.2⟩
theorem nodup_map {α β : Type} {f : α → β} (hf : ∀ a b, f a = f b → a = b) {l : List α} (h : l.Nodup) : (l.map f).Nodup := List.Pairwise.map f (fun a b n z => n (hf a b z)) h
def bunW (t : Bun) : W := .tup [.v (.int t.1), .v (.int t.2.1), .v (.int t.2.2)]
def bndW (c : Bnd) : W := .tup [.v (.int c.1), .v (.int c.2)]
abbrev clF : List Str := ["limits", "rows", "numbers"]
def kK (t : Bun) : List Key := [.inl t.1, .inl t.2.1]
def clW (A : Ad) (bs : List Bun) (cs : List Bnd) : W := .obj A.Cluster clF [.lst (cs.map bndW), .lst (bs.map bunW), .dit (bs.map kK) (numW bs.length)]
structure ClOk (bs : List Bun) (cs : List Bnd) : Prop where
 bnds : areBoundsW (.lst (cs.map bndW)) = true
 buns : areBundlesW (cs.length : Int) (.lst (bs.map bunW)) = true
theorem tyd_bnds (cs : List Bnd) : tydL 2 (.lst (cs.map bndW)) := by
 refine ⟨rfl, fun x hx => ?_⟩
 obtain ⟨c, _, rfl⟩ := List.mem_map.mp hx
 refine ⟨rfl, fun y hy => ?_⟩
 have : y = .v (.int c.1) ∨ y = .v (.int c.2) := by simpa using hy
 rcases this with rfl | rfl <;> rfl
theorem tyd_buns (bs : List Bun) : tydL 2 (.lst (bs.map bunW)) := by
 refine ⟨rfl, fun x hx => ?_⟩
 obtain ⟨t, _, rfl⟩ := List.mem_map.mp hx
 refine ⟨rfl, fun y hy => ?_⟩
 have : y = .v (.int t.1) ∨ y = .v (.int t.2.1) ∨ y = .v (.int t.2.2) := by simpa using hy
 rcases this with rfl | rfl | rfl <;> rfl
theorem ClOk.nd {bs : List Bun} {cs : List Bnd} (h : ClOk bs cs) : (bs.map bkey).Nodup := by
 have q := h.buns
 simp only [areBundlesW, Bool.and_eq_true, decide_eq_true_eq, List.map_map] at q
 have e : (bs.map (rowKey ∘ bunW)) = (bs.map bkey).map fun p => [p.1, p.2] := by
  rw [List.map_map]; rfl
 rw [e] at q
 exact nodup_of_map q.2
theorem ClOk.each {bs : List Bun} {cs : List Bnd} (h : ClOk bs cs) : ∀ t ∈ bs, BunOk (cs.length : Int) t := fun t ht => by
 have q := h.buns
 simp only [areBundlesW, Bool.and_eq_true, decide_eq_true_eq, List.all_eq_true] at q
 obtain ⟨a, b, c, e, h1, h2, h3, h4, h5⟩ := bundle_ex (q.1.2 _ (List.mem_map_of_mem ht))
 unfold bunW at e
 injection e with e
 injection e with e1 e
 injection e with e2 e
 injection e with e3 _
 injection e1 with e1
 injection e1 with e1
 injection e2 with e2
 injection e2 with e2
 injection e3 with e3
 injection e3 with e3
 exact ⟨by omega, by omega, by omega, by omega, by omega⟩
theorem ClOk.len {bs : List Bun} {cs : List Bnd} (h : ClOk bs cs) : bs.length ≤ 45 ∧ 2 ≤ cs.length ∧ cs.length ≤ 10 := by
 have q := h.buns
 have r := h.bnds
 simp only [areBundlesW, areBoundsW, Bool.and_eq_true, decide_eq_true_eq, List.length_map] at q r
 exact ⟨q.1.1, r.1.1, r.1.2⟩
theorem pairW_enum {α : Type} (f : α → W) (xs : List α) : pairW (numW xs.length) (xs.map f) = xs.zipIdx.map fun p => W.tup [.v (.int (p.2 : Int)), f p.1] := by
 apply List.ext_getElem?
 intro i
 simp only [pairW, List.getElem?_zipWith, List.getElem?_map, List.getElem?_zipIdx, numW]
 by_cases h : i < xs.length
 ·simp [h]
 ·simp [h]
theorem dcL_enum {g : TGQ} {tt : TTQ} {tk tv : TQ} {vs : List Nat} {k : List D → List (List Key) → List W → Prop} {ρ : List D} : ∀ (bs : List Bun) (n : Nat) (ks : List (List Key)) (acc : List W), acc.length = ks.length → (∀ t ∈ bs, kK t ∉ ks) → (bs.map kK).Nodup →
  (∀ t (i : Nat) ks acc ws', qDcL g tt tk tv vs k (.tup [.v (.int (i : Int)), bunW t] :: ws') ρ ks acc = qDcL g tt tk tv vs k ws' ρ (dput ks acc (kK t) (.v (.int (i : Int)))).1 (dput ks acc (kK t) (.v (.int (i : Int)))).2) →
  qDcL g tt tk tv vs k ((bs.zipIdx n).map fun p => W.tup [.v (.int (p.2 : Int)), bunW p.1]) ρ ks acc = k ρ (ks ++ bs.map kK) (acc ++ (List.range' n bs.length).map fun (i : Nat) => W.v (.int (i : Int)))
 | [], n, ks, acc, _, _, _, _ => by simp
 | t :: bs, n, ks, acc, hl, hn, nd, hs => by
  rw [List.zipIdx_cons, List.map_cons, hs]
  have h1 : kK t ∉ ks := hn t List.mem_cons_self
  have hd : dput ks acc (kK t) (W.v (.int (n : Int))) = (ks ++ [kK t], acc ++ [.v (.int (n : Int))]) := by unfold dput; rw [if_neg h1]
  rw [hd, List.map_cons, List.nodup_cons] at *
  rw [dcL_enum bs (n + 1) _ _ (by simp [hl]) (fun s hs' => ?_) nd.2 hs]
  ·simp [List.range'_succ]
  ·simp only [List.mem_append, List.mem_singleton, not_or]
   exact ⟨hn s (List.mem_cons_of_mem _ hs'), fun e => nd.1 (by rw [← e]; exact List.mem_map_of_mem hs')⟩
theorem kK_nd {bs : List Bun} (h : (bs.map bkey).Nodup) : (bs.map kK).Nodup := by
 have e : bs.map kK = (bs.map bkey).map fun p => [(Sum.inl p.1 : Key), .inl p.2] := by rw [List.map_map]; rfl
 rw [e]
 exact nodup_map (fun p q z => by cases p; cases q; simpa using z) h
theorem f_init_eq {A : Ad} {bs : List Bun} {cs : List Bnd} {Q : List Str → List W → Prop} (h : ClOk bs cs) : f_Clusteru_initu A [.lst (cs.map bndW), .lst (bs.map bunW)] Q = Q clF [.lst (cs.map bndW), .lst (bs.map bunW), .dit (bs.map kK) (numW bs.length)] := by
 have hb := h.bnds
 have hu := h.buns
 have h45 := h.len.1
 have dc : ∀ k ρ, ρ = [.mobj A.Cluster ["limits", "rows"] [.lst (cs.map bndW), .lst (bs.map bunW)], .sh (.lst (cs.map bndW)), .sh (.lst (bs.map bunW)), .un, .un] → qDcL (gqTup 2 (gqCons (gqName 3) (gqCons (gqName 4) gqNil))) qYes (qSl (vVar 4) oNone (oPart (qC (.int 2)))) (qVar 3) [3, 4] k (bs.zipIdx.map fun p => W.tup [.v (.int (p.2 : Int)), bunW p.1]) ρ [] [] = k ρ (bs.map kK) (numW bs.length) := fun k ρ e => by
  subst e
  rw [dcL_enum bs 0 [] [] rfl (by simp) (kK_nd h.nd) fun t i ks acc ws' => by simp [bunW, cutW_2, kK]]
  simp [numW, List.range_eq_range']
 simp [f_Clusteru_initu, p_Clusteru_initu, f_are_bounds_eq (tyd_bnds cs), f_are_bundles_eq (tyd_buns bs), hb, hu, -List.map_map]
 rw [pairW_enum, dc _ _ rfl]
 have n1 : ¬ (("rows" : Str) = "limits") := by decide +kernel
 have n2 : ¬ (("numbers" : Str) = "limits") := by decide +kernel
 have n3 : ¬ (("numbers" : Str) = "rows") := by decide +kernel
 have hbig : bs.length ≤ 100000 := by omega
 simp [n1, n2, n3, hbig]
end R
namespace R
open PySem PySem.Spec PyProof.Rows L2 G
@[simp] theorem ofString_inj (a b : String) : (Str.ofString a = Str.ofString b) = (a = b) := by
 refine propext ⟨fun h => ?_, fun h => by rw [h]⟩
 rw [Str.ofString_eq_toList, Str.ofString_eq_toList] at h
 injection h with h
 have h2 : a.toList.map Char.toNat = b.toList.map Char.toNat := by simpa using h
 have h3 : a.toList = b.toList := by
  have key : ∀ (l m : List Char), l.map Char.toNat = m.map Char.toNat → l = m := fun l => by
   induction l with
   | nil => intro m h; cases m with | nil => rfl | cons => cases h
   | cons c l ih =>
    intro m h
    cases m with
    | nil => cases h
    | cons d m =>
     rw [List.map_cons, List.map_cons] at h
     injection h with h1 h2
     have : c = d := by
      apply Char.ext
      exact UInt32.toNat.inj h1
     rw [this, ih m h2]
  exact key _ _ h2
 exact String.toList_inj.mp h3
@[simp] theorem lk_cons (k a : Str) (b : W) (l : List (Str × W)) : ((a, b) :: l).lookup k = if k = a then some b else l.lookup k := by
 rw [List.lookup_cons]
 by_cases h : k = a
 ·rw [if_pos h, beq_iff_eq.mpr h]
 ·rw [if_neg h, beq_eq_false_iff_ne.mpr h]
theorem f_bundles_eq {A : Ad} {bs : List Bun} {cs : List Bnd} {Q : D → Prop} : f_Cluster_bundles A [clW A bs cs] Q = Q (.lst (bs.map bunW)) := by
 simp [f_Cluster_bundles, p_Cluster_bundles, clW]
end R
namespace R
open PySem PySem.Spec PyProof.Rows L2 G
abbrev iW (ms : List Int) : List W := ms.map fun m => W.v (.int m)
@[simp ↓] theorem isObj_cl (A : Ad) (m : String) (bs : List Bun) (cs : List Bnd) (k : Prop) : isObj A.Cluster (Str.ofString m) (clW A bs cs) k = ((¬ m = "limits" ∧ ¬ m = "rows" ∧ ¬ m = "numbers") ∧ k) := by
 simp [clW]
theorem ldAll_fold : ∀ (ms : List Int) (bs : List Bun) (acc : List Int), ldAll acc ms bs = (ms.zip bs).foldl (fun a p => ld a p.1 p.2) acc
 | [], bs, acc => by simp [ldAll]
 | m :: ms, [], acc => by simp [ldAll]
 | m :: ms, t :: bs, acc => by rw [ldAll, ldAll_fold ms bs]; rfl
theorem pairW_zip {α β : Type} (f : α → W) (g : β → W) (xs : List α) (ys : List β) : pairW (xs.map f) (ys.map g) = (xs.zip ys).map fun p => W.tup [f p.1, g p.2] := by
 unfold pairW
 rw [List.zipWith_map_left, List.zipWith_map_right, List.zip, List.map_zipWith]
theorem loop_fold' {α S : Type} {g : TGQ} {b : TSQ} {E : EQ} (enc : α → W) (R : S → List D) (st : S → α → S) (I : S → Prop) {xs : List α} {s : S} {Z : Prop} (hi : I s) (h : ∀ x ∈ xs, ∀ s, I s → I (st s x) ∧ ∀ ws', qLoop g b E (enc x :: ws') (R s) = qLoop g b E ws' (R (st s x))) (hz : E.nx (R (xs.foldl st s)) = Z) : qLoop g b E (xs.map enc) (R s) = Z := by
 rw [loop_fold enc R st I hi h, hz]
theorem foldl_fst {α S T : Type} (f : S → α → S) (g : S × T → α → S × T) (hg : ∀ p x, (g p x).1 = f p.1 x) : ∀ (xs : List α) (p : S × T), (xs.foldl g p).1 = xs.foldl f p.1
 | [], p => rfl
 | x :: xs, p => by rw [List.foldl_cons, List.foldl_cons, foldl_fst f g hg, hg]
end R
namespace R
open PySem PySem.Spec PyProof.Rows L2 G
theorem atI_at {α : Type} {xs : List α} {n : Nat} {x : α} (h : xs[n]? = some x) : atI xs (n : Int) = some x := by
 have hl := get_lt h
 unfold atI
 rw [ixN_nat (by omega) (by omega)]
 simpa using h
end R
namespace R
open PySem PySem.Spec PyProof.Rows L2 G
theorem cutW_to {α : Type} (xs : List α) (n : Nat) : cutW xs none (some (n : Int)) = xs.take n := by
 unfold cutW
 rw [HT.sIx_none, HT.sIx_nat, List.drop_zero, Nat.sub_zero]
 by_cases h : n ≤ xs.length
 ·rw [Nat.min_eq_left h]
 ·rw [Nat.min_eq_right (by omega), List.take_of_length_le (Nat.le_refl _), List.take_of_length_le (by omega)]
theorem cutW_from {α : Type} (xs : List α) (n : Nat) : cutW xs (some (n : Int)) none = xs.drop n := by
 unfold cutW
 rw [HT.sIx_none, HT.sIx_nat]
 by_cases h : n ≤ xs.length
 ·rw [Nat.min_eq_left h, List.take_of_length_le (by rw [List.length_drop]; exact Nat.le_refl _)]
 ·rw [Nat.min_eq_right (by omega), List.drop_of_length_le (Nat.le_refl _), List.drop_of_length_le (by omega), List.take_nil]
end R
namespace R
open PySem PySem.Spec PyProof.Rows L2 G
structure Sh (n B : Nat) (w : W) : Prop where
 ok : w.ok n = true
 sm : Sm n B w.dat
theorem Sh.up {n m B C : Nat} {w : W} (h : Sh n B w) (a : n ≤ m) (b : B ≤ C) : Sh m C w := ⟨W.ok_up w n m h.ok a, h.sm.up a b⟩
theorem Sh.int {i : Int} (h : i.natAbs < 10 ^ 45) : Sh 0 46 (.v (.int i)) := ⟨rfl, Sm.int h⟩
theorem Sh.bl (b : Bool) : Sh 0 5 (.v (.bl b)) := ⟨rfl, Sm.bool b⟩
theorem Sh.non : Sh 0 5 (.v .non) := ⟨rfl, Sm.none⟩
theorem Sh.lst {n B m : Nat} {ws : List W} (h : ∀ w ∈ ws, Sh n B w) (hm : ws.length ≤ m) : Sh (n + 1) ((B + 2) * m + 3) (.lst ws) := by
 refine ⟨by rw [ok_lst, List.all_eq_true]; exact fun w hw => (h w hw).ok, ?_⟩
 rw [W.dat, datL_map]
 exact Sm.list (fun d hd => by obtain ⟨w, hw, rfl⟩ := List.mem_map.mp hd; exact (h w hw).sm) (by rw [List.length_map]; exact hm)
theorem Sh.tup {n B m : Nat} {ws : List W} (h : ∀ w ∈ ws, Sh n B w) (hm : ws.length ≤ m) : Sh (n + 1) ((B + 2) * m + 3) (.tup ws) := by
 refine ⟨by rw [ok_tup, List.all_eq_true]; exact fun w hw => (h w hw).ok, ?_⟩
 rw [W.dat, datL_map]
 exact Sm.tuple (fun d hd => by obtain ⟨w, hw, rfl⟩ := List.mem_map.mp hd; exact (h w hw).sm) (by rw [List.length_map]; exact hm)
theorem Sh.shows {n B : Nat} {w : W} (h : Sh n B w) (a : n ≤ 20) (b : B ≤ 1000000) : shows w := ⟨W.ok_up w n 20 h.ok a, h.sm.up (by omega) b⟩
theorem sh_ints {m : Nat} {is : List Int} (h : ∀ i ∈ is, i.natAbs < 10 ^ 45) (hm : is.length ≤ m) : Sh 1 (48 * m + 3) (.lst (iW is)) := Sh.lst (fun w hw => by obtain ⟨i, hi, rfl⟩ := List.mem_map.mp hw; exact Sh.int (h i hi)) (by rw [List.length_map]; exact hm)
theorem sh_intsT {m : Nat} {is : List Int} (h : ∀ i ∈ is, i.natAbs < 10 ^ 45) (hm : is.length ≤ m) : Sh 1 (48 * m + 3) (.tup (iW is)) := Sh.tup (fun w hw => by obtain ⟨i, hi, rfl⟩ := List.mem_map.mp hw; exact Sh.int (h i hi)) (by rw [List.length_map]; exact hm)
theorem f_alike_eq {A : Ad} {w : W} {Q : D → Prop} (h : shows w) : f__law_alike A [w, w] Q = Q (.bl true) := by
 have h1 := h.1
 simp [f__law_alike, p__law_alike, h1, h, eq_refl h1]
theorem loop_inv {α : Type} {g : TGQ} {b : TSQ} {E : EQ} (enc : α → W) {xs : List α} (I : Nat → List D → Prop) {ρ : List D} (h0 : I 0 ρ) (st : ∀ (i : Nat) x ρ, xs[i]? = some x → I i ρ → ∀ T : List D → Prop, (∀ ρ', I (i + 1) ρ' → T ρ') → g (.sh (enc x)) ρ fun ρ1 => b { nx := T, ct := T, bk := E.nx, rt := E.rt } ρ1) (fin : ∀ ρ, I xs.length ρ → E.nx ρ) : qLoop g b E (xs.map enc) ρ := by
 have : ∀ (n : Nat) (i : Nat) ρ, i + n = xs.length → I i ρ → qLoop g b E ((xs.drop i).map enc) ρ := by
  intro n
  induction n with
  | zero =>
   intro i ρ h hi
   have e : i = xs.length := by omega
   subst e
   rw [List.drop_length]
   simpa using fin ρ hi
  | succ n ih =>
   intro i ρ h hi
   rw [List.drop_eq_getElem_cons (by omega), List.map_cons, qLoop_cons]
   exact st i _ ρ (List.getElem?_eq_getElem (by omega)) hi _ fun ρ' h' => ih (i + 1) ρ' (by omega) h'
 simpa using this xs.length 0 ρ (by omega) h0
theorem onW_pick {ws : List W} {v : Int} {k : W → Prop} {u : Dum k} (h0 : 0 ≤ v) (h1 : v < (ws.length : Int)) (h : ∀ w ∈ ws, k w) : onW (atI ws v) k u := by
 obtain ⟨w, hw⟩ : ∃ w, ws[v.toNat]? = some w := ⟨_, List.getElem?_eq_getElem (by omega)⟩
 have e := atI_at hw
 rw [Int.toNat_of_nonneg h0] at e
 rw [e, onW_some]
 exact h w (List.mem_of_getElem? hw)
theorem cpow18 : CPow 10 18 := by unfold CPow; decide
theorem cpow19 : CPow 10 19 := by unfold CPow; decide
theorem f_amount_of {A : Ad} {g : Bool} {Q : D → Prop} (h : ∀ p : Int, 1 ≤ p → p ≤ 1000000000000000000 → Q (.int p)) : f__law_amount A [.bag, .v (.bl g)] Q := by
 have tl : ∀ v : Int, 0 ≤ v → v < 3 → onW (atI [W.v (V.int 1), W.v (V.int 3), W.v (V.int 9)] v)
      (fun w =>
       lookD (D.sh w) fun w =>
        aNil (List.map D.sh [W.bag, W.v (V.bl g)] ++ []) fun ρ2 ws =>
         f_take (W.bag :: w :: ws) fun d =>
          lookD d fun w =>
           look ρ2 (Sum.inr (W.v (V.int 1))) fun x => look ρ2 (Sum.inr w) fun y => oPlus x y fun d => Q d)
      ⟨⟩ := fun v v0 v1 => onW_pick v0 (by simpa using v1) fun w hw => by
  simp only [List.mem_cons, List.not_mem_nil, or_false] at hw
  rcases hw with rfl | rfl | rfl <;> simp <;> intro v h0 h1 <;> exact h _ (by omega) (by omega)
 simp [f__law_amount, p__law_amount]
 split
 ·intro v v0 v1
  split
  ·refine ⟨cpow18, fun a a0 a1 => ⟨cpow18, fun b b0 b1 x x0 x1 => onW_pick x0 (by simpa using x1) fun w hw => ?_⟩⟩
   simp only [List.mem_cons, List.not_mem_nil, or_false] at hw
   rcases hw with rfl | rfl <;> exact h _ (by omega) (by omega)
  ·exact tl
 ·exact tl
theorem loop_rng {g : TGQ} {b : TSQ} {E : EQ} {lo : Int} {n : Nat} (I : Nat → List D → Prop) {ρ : List D} (h0 : I 0 ρ) (st : ∀ (i : Nat) ρ, i < n → I i ρ → ∀ T : List D → Prop, (∀ ρ', I (i + 1) ρ' → T ρ') → g (.sh (W.v (.int (lo + (i : Int))))) ρ fun ρ1 => b { nx := T, ct := T, bk := E.nx, rt := E.rt } ρ1) (fin : ∀ ρ, I n ρ → E.nx ρ) : qLoop g b E (rngW lo n) ρ := by
 have := loop_inv (g := g) (b := b) (E := E) (fun i : Nat => W.v (.int (lo + (i : Int)))) (xs := List.range n) I h0 (fun i x ρ hx hi ws' k => by
  have hl := get_lt hx
  rw [List.length_range] at hl
  rw [List.getElem?_range hl] at hx
  cases hx
  exact st i ρ hl hi ws' k) (fun ρ h => fin ρ (by simpa using h))
 exact this
theorem f_bundles_of {A : Ad} {n : Int} {g : Bool} {Q : D → Prop} (n0 : 2 ≤ n) (n1 : n ≤ 10) (h : ∀ bs : List Bun, BunsOk n bs → bs ≠ [] → Q (.lst (bs.map bunW)) ∧ Q (.sh (.lst (bs.map bunW)))) : f__law_bundles A [.bag, .v (.int n), .v (.bl g)] Q := by
 simp [f__law_bundles, p__law_bundles]
 intro r r0 r1
 refine ⟨by omega, loop_rng (fun i ρ => ∃ bs x5 x6, ρ = [.sh .bag, .int n, .bl g, .int (1 + r), .lst (bs.map bunW), x5, x6] ∧ BunsTo n i 0 bs ∧ bs.length ≤ tri i) ⟨[], _, _, rfl, BunsTo.nil, Nat.le_refl _⟩ ?_ ?_⟩
 ·rintro i _ hi ⟨bs, x5, x6, rfl, ho, hlen⟩ T k
  simp [p__law_bundles_g1, p__law_bundles_b1]
  refine ⟨by omega, loop_rng (fun j ρ => ∃ bs x6, ρ = [.sh .bag, .int n, .bl g, .int (1 + r), .lst (bs.map bunW), .int (i : Int), x6] ∧ BunsTo n i (i + 1 + (j : Int)) bs ∧ bs.length ≤ tri i + j) ⟨bs, _, rfl, ho.on (Or.inr ⟨by omega, by omega⟩), by omega⟩ ?_ ?_⟩
  ·clear k
   rintro j _ hj ⟨bs, x6, rfl, ho, hlen⟩ T k
   have ht := tri45 i (by omega)
   simp [p__law_bundles_g0, p__law_bundles_b0]
   refine ⟨by omega, fun v v0 v1 => ?_⟩
   split
   ·refine f_amount_of fun p p0 p1 => ?_
    simp
    refine ⟨by omega, k _ ⟨bs ++ [((i : Int), (i : Int) + 1 + (j : Int), p)], _, by rw [List.map_append]; rfl, ho.snoc ⟨by show (0 : Int) ≤ i; omega, by show (i : Int) < i + 1 + j; omega, by show (i : Int) + 1 + j < n; omega, p0, p1⟩ (by omega), by rw [List.length_append, List.length_singleton]; omega⟩⟩
   ·exact k _ ⟨bs, _, rfl, ho.on (Or.inr ⟨rfl, by omega⟩), by omega⟩
  ·rintro _ ⟨bs, x6, rfl, ho, hlen⟩
   refine k _ ⟨bs, _, _, rfl, ho.on (Or.inl (by omega)), ?_⟩
   show bs.length ≤ tri i + (9 - i)
   omega
 ·rintro _ ⟨bs, x5, x6, rfl, ho, hlen⟩
  have ht := tri45 n.toNat (by omega)
  have ends : ∀ bs : List Bun, BunsOk n bs → bs ≠ [] → ∀ v : Int, (if v = 0 then Q (D.lst (bs.map bunW).reverse) else Q (D.sh (.lst (bs.map bunW)))) := fun bs ho hne v => by
   split
   ·rw [← List.map_reverse]; exact (h _ ho.rev (by simpa using hne)).1
   ·exact (h _ ho hne).2
  simp
  split
  ·refine f_amount_of fun p p0 p1 => ?_
   simp
   intro v _ _
   refine ends [(0, 1, p)] ⟨n0, n1, by show 1 ≤ 45; decide, fun t ht => ?_, by simp⟩ (by simp) v
   rw [List.mem_singleton.mp ht]
   exact ⟨by show (0 : Int) ≤ 0; decide, by show (0 : Int) < 1; decide, by show 1 < n; omega, p0, p1⟩
  ·rename_i hne
   exact fun v _ _ => ends bs ⟨n0, n1, by omega, ho.each, ho.nd⟩ hne v
theorem f_bounds_of {A : Ad} {hs : List Int} {Q : D → Prop} (hl : hs.length ≤ 1000) (hh : ∀ x ∈ hs, 0 ≤ x ∧ x ≤ 100000000000000000000) (h : ∀ cs : List Bnd, BndsAt cs hs → Q (.lst (cs.map bndW))) : f__law_bounds A [.bag, .lst (iW hs)] Q := by
 simp [f__law_bounds, p__law_bounds]
 refine loop_inv (fun x : Int => W.v (.int x)) (fun i ρ => ∃ cs x3 x4 x5, ρ = [.sh .bag, .sh (.lst (iW hs)), .lst (cs.map bndW), x3, x4, x5] ∧ BndsAt cs (hs.take i)) ⟨[], _, _, _, rfl, rfl, fun i c x h => by cases h⟩ ?_ ?_
 ·rintro i x _ hx ⟨cs, x3, x4, x5, rfl, hc⟩ T k
  have hm := hh x (List.mem_of_getElem? hx)
  have hlen : cs.length ≤ 1000 := by rw [hc.1, List.length_take]; omega
  simp [p__law_bounds_g0, p__law_bounds_b0]
  intro v v0 v1 v' v0' v1'
  refine onW_pick v0' (by simpa using v1') fun w hw => ?_
  obtain ⟨un, rfl, u0⟩ : ∃ un : Int, w = .v (.int un) ∧ 0 ≤ un := by
   simp only [List.mem_cons, List.not_mem_nil, or_false] at hw
   rcases hw with rfl | rfl | rfl | rfl | rfl <;> exact ⟨_, rfl, by omega⟩
  simp
  refine fun a a0 a1 => ⟨cpow19, fun a' a0' a1' => onW_pick a0' (by simpa using a1') fun w hw => ?_⟩
  obtain ⟨ov, rfl, o0, o1⟩ : ∃ ov : Int, w = .v (.int ov) ∧ 0 ≤ ov ∧ ov ≤ 10000000000000000000 := by
   simp only [List.mem_cons, List.not_mem_nil, or_false] at hw
   rcases hw with rfl | rfl | rfl | rfl | rfl <;> exact ⟨_, rfl, by omega, by omega⟩
  simp
  refine ⟨by omega, k _ ⟨cs ++ [(max 0 (x - un), x + ov)], _, _, _, by rw [List.map_append]; rfl, hc.snoc hx ⟨by show 0 ≤ max 0 (x - un); omega, by show max 0 (x - un) ≤ x; omega, by show x ≤ x + ov; omega, by show x + ov ≤ 1000000000000000000000; omega⟩⟩⟩
 ·rintro _ ⟨cs, x3, x4, x5, rfl, hc⟩
  rw [List.take_length] at hc
  simp
  exact h cs hc
theorem f_law_loads_eq {A : Ad} {bs : List Bun} {n : Nat} {ms : List Int} {t : Bool} {Q : D → Prop} (h : ∀ t ∈ bs, BunOk (n : Int) t) (hc : n ≤ 1000) (hl : ms.length = bs.length) :
  f__law_loads A [.v (.int (n : Int)), .lst (bs.map bunW), if t then .tup (iW ms) else .lst (iW ms)] Q = Q (.lst (iW (loadsP n ms bs))) := by
 obtain ⟨w, hw, hs⟩ : ∃ w, (if t then W.tup (iW ms) else .lst (iW ms)) = w ∧ ∀ k, seqW w k = k (iW ms) := ⟨_, rfl, fun k => by cases t <;> simp⟩
 rw [hw]
 have lp : ∀ (E : EQ) Z, (∀ d : D × D × D × D, E.nx [.int (n : Int), .sh (.lst (bs.map bunW)), .sh w, .lst (iW (loadsP n ms bs)), d.1, d.2.1, d.2.2.1, d.2.2.2] = Z) → qLoop (p__law_loads_g0 A) (p__law_loads_b0 A) E ((ms.zip bs).map fun p => W.tup [.v (.int p.1), bunW p.2]) [.int (n : Int), .sh (.lst (bs.map bunW)), .sh w, .lst (List.replicate n (.v (.int 0))), .un, .un, .un, .un] = Z := fun E Z hE => by
  have e0 : List.replicate n (W.v (.int 0)) = iW (List.replicate n 0) := by simp
  rw [e0]
  refine loop_fold' (S := List Int × (D × D × D × D)) (fun p : Int × Bun => W.tup [.v (.int p.1), bunW p.2]) (fun s => [.int (n : Int), .sh (.lst (bs.map bunW)), .sh w, .lst (iW s.1), s.2.1, s.2.2.1, s.2.2.2.1, s.2.2.2.2]) (fun s p => (ld s.1 p.1 p.2, .int p.1, .int p.2.1, .int p.2.2.1, .int p.2.2.2)) (fun s => s.1.length = n) (s := (List.replicate n 0, .un, .un, .un, .un)) (by simp) (fun p hp s hs => ⟨by rw [ld_len]; exact hs, fun ws' => ?_⟩) ?_
  ·obtain ⟨m, t⟩ := p
   obtain ⟨acc, d1, d2, d3, d4⟩ := s
   have ob := h t (List.of_mem_zip hp).2
   have f0 := ob.f0
   have fs := ob.fs
   have sn := ob.sn
   have hs' : acc.length = n := hs
   obtain ⟨x, hx⟩ : ∃ x, acc[t.1.toNat]? = some x := ⟨_, List.getElem?_eq_getElem (by omega)⟩
   obtain ⟨y, hy⟩ : ∃ y, acc[t.2.1.toNat]? = some y := ⟨_, List.getElem?_eq_getElem (by omega)⟩
   have i1 := ixN_nat (n := acc.length) f0 (by omega)
   have i2 := ixN_nat (n := acc.length) (k := t.2.1) (by omega) (by omega)
   have ne : t.1.toNat ≠ t.2.1.toNat := by omega
   have f1 : 0 ≤ t.2.1 := by omega
   have el : ld acc m t = (acc.set t.1.toNat (x + m)).set t.2.1.toNat (y + t.2.2 - m) := by
    unfold G.ld ld1
    rw [getD_set_ne ne, List.getD_eq_getElem?_getD, List.getD_eq_getElem?_getD, hx, hy]
    rfl
   have a1 : atI (iW acc) t.1 = some (.v (.int x)) := by
    have := atI_at (xs := iW acc) (n := t.1.toNat) (x := W.v (.int x)) (by simp [hx])
    rwa [Int.toNat_of_nonneg f0] at this
   have a2 : ∀ z, atI ((iW acc).set t.1.toNat z) t.2.1 = some (.v (.int y)) := fun z => by
    have := atI_at (xs := (iW acc).set t.1.toNat z) (n := t.2.1.toNat) (x := W.v (.int y)) (by rw [List.getElem?_set_ne ne]; simp [hy])
    rwa [Int.toNat_of_nonneg f1] at this
   simp [p__law_loads_g0, p__law_loads_b0, bunW, a1, a2, i1, i2, el, List.map_set]
  ·rw [← hE ((ms.zip bs).foldl (fun s p => (ld s.1 p.1 p.2, D.int p.1, D.int p.2.1, D.int p.2.2.1, D.int p.2.2.2)) (List.replicate n 0, D.un, D.un, D.un, D.un)).2]
   rw [loadsP, ldAll_fold, foldl_fst (fun a p => ld a p.1 p.2) _ (fun _ _ => rfl)]
 have hc' : (n : Int) ≤ 100000 ∧ n ≤ 100000 := by omega
 simp [f__law_loads, p__law_loads, hs, pairW_zip, hc']
 exact Eq.to_iff (lp _ _ fun d => by simp)
end R
namespace R
open PySem PySem.Spec PyProof.Rows L2 G
theorem clok_of {bs : List Bun} {cs : List Bnd} (hb : ∀ t ∈ bs, BunOk (cs.length : Int) t) (nd : (bs.map bkey).Nodup) (h45 : bs.length ≤ 45) (c2 : 2 ≤ cs.length) (c10 : cs.length ≤ 10) (hc : ∀ c ∈ cs, 0 ≤ c.1 ∧ c.1 ≤ c.2 ∧ c.2 ≤ 1000000000000000000000000000000) : ClOk bs cs := by
 refine ⟨?_, ?_⟩
 ·simp only [areBoundsW, Bool.and_eq_true, decide_eq_true_eq, List.length_map, List.all_eq_true]
  refine ⟨⟨c2, c10⟩, fun w hw => ?_⟩
  obtain ⟨c, hm, rfl⟩ := List.mem_map.mp hw
  obtain ⟨h0, h1, h2⟩ := hc c hm
  simp only [bndW, isBoundW, betwW, leW, Bool.and_eq_true, decide_eq_true_eq]
  omega
 ·simp only [areBundlesW, Bool.and_eq_true, decide_eq_true_eq, List.length_map, List.all_eq_true]
  refine ⟨⟨h45, fun w hw => ?_⟩, ?_⟩
  ·obtain ⟨t, hm, rfl⟩ := List.mem_map.mp hw
   have o := hb t hm
   have := o.f0
   have := o.fs
   have := o.sn
   have := o.p1
   have := o.pm
   simp only [bunW, isBundleW, betwW, ltW, Bool.and_eq_true, decide_eq_true_eq]
   omega
  ·rw [List.map_map]
   have e : (bs.map (rowKey ∘ bunW)) = (bs.map bkey).map fun p => [p.1, p.2] := by
    rw [List.map_map]; rfl
   rw [e]
   exact nodup_map (fun p q z => by cases p; cases q; simpa using z) nd
theorem net_ok {n : Int} {bs : List Bun} {ms : List Int} {cs : List Bnd} (h : NetOk n bs ms cs) : ClOk bs cs := by
 have hs := h.size
 refine clok_of (by rw [hs]; exact h.buns.each) h.buns.nd h.buns.len (by have := h.buns.n2; omega) (by have := h.buns.n10; omega) fun c hc => ?_
 obtain ⟨i, hi, e⟩ := List.mem_iff_getElem.mp hc
 have hl := h.bnds.1
 have q := h.bnds.2 i c _ (by rw [← e]; exact List.getElem?_eq_getElem hi) (List.getElem?_eq_getElem (by omega))
 have := q.lo
 have := q.le
 have := q.ge
 have := q.hi
 omega
theorem f_eq_same {A : Ad} {bs : List Bun} {cs : List Bnd} {Q : D → Prop} : f_Clusteru_equ A [clW A bs cs, clW A bs cs] Q = Q (.bl true) := by
 have h1 : (W.lst (cs.map bndW)).ok 20 = true := by
  rw [ok_lst, List.all_eq_true]
  intro w hw
  obtain ⟨c, _, rfl⟩ := List.mem_map.mp hw
  rfl
 have h2 : (W.lst (bs.map bunW)).ok 20 = true := by
  rw [ok_lst, List.all_eq_true]
  intro w hw
  obtain ⟨c, _, rfl⟩ := List.mem_map.mp hw
  rfl
 have e1 := eq_refl h1
 have e2 := eq_refl h2
 rw [eq_lst] at e1 e2
 simp only [ok_lst] at h1 h2
 simp [f_Clusteru_equ, p_Clusteru_equ, clW, h1, h2, e1, e2, -List.all_map]
theorem idx_cons (t : Bun) (bs : List Bun) (f s : Int) : idx (t :: bs) f s = if t.1 = f ∧ t.2.1 = s then some 0 else (idx bs f s).map (· + 1) := by
 unfold idx
 rw [List.findIdx?_cons]
 by_cases h : t.1 = f ∧ t.2.1 = s
 ·rw [if_pos h, if_pos (by simp [h])]
 ·rw [if_neg h, if_neg (by simpa using h)]
@[simp] theorem atI_c0 {α : Type} (a : α) (l : List α) : atI (a :: l) 0 = some a := atI_at (n := 0) rfl
@[simp] theorem atI_c1 {α : Type} (a b : α) (l : List α) : atI (a :: b :: l) 1 = some b := atI_at (n := 1) rfl
@[simp] theorem atI_c2 {α : Type} (a b c : α) (l : List α) : atI (a :: b :: c :: l) 2 = some c := atI_at (n := 2) rfl
end R
namespace R
open PySem PySem.Spec PyProof.Rows L2 G
def p__law_net_1_g0 (A : Ad) : TGQ :=
  (gqTup 3 (gqCons (gqName 6) (gqCons (gqName 7) (gqCons (gqName 8) gqNil))))
def p__law_net_1_b0 (A : Ad) : TSQ :=
  (sDrop (qAppend 5 (qOp oIx (vE (qLst (aCons (qC (.int 0)) (aCons (qVar 8) (aCons (qCall f_take 2 (aCons (qVar 0) (aCons (qOp oPlus (vVar 8) (vE (qC (.int 1)))) aNil))) aNil))))) (vE (qCall f_take 2 (aCons (qVar 0) (aCons (qC (.int 3)) aNil)))))))
def p__law_net_1 (A : Ad) : TSQ :=
  (sSeq (sAsg (qOp oPlus (vE (qC (.int 2))) (vE (qCall f_take 2 (aCons (qVar 0) (aCons (qOp (oI0 fun i j => .int (i - j)) (vVar 1) (vE (qC (.int 1)))) aNil))))) (gqName 3))
  (sSeq (sAsg (qCall (f__law_bundles A) 3 (aCons (qVar 0) (aCons (qVar 3) (aCons (qVar 2) aNil)))) (gqName 4))
  (sSeq (sAsg (qLst aNil) (gqName 5))
  (sSeq (sFor (iqSeq (qVar 4)) (p__law_net_1_g0 A) (p__law_net_1_b0 A))
  (sRet (qNTup (nCons (qCall (f__law_bounds A) 2 (aCons (qVar 0) (aCons (qCall (f__law_loads A) 3 (aCons (qVar 3) (aCons (qVar 4) (aCons (qVar 5) aNil)))) aNil))) (nCons (qMove 4) (nCons (qCB bTup (vCons (vVar 5) vNil)) nNil)))))))))
def f__law_net_1 (A : Ad) : PF := runF (p__law_net_1 A) 6
end R
namespace R
open PySem PySem.Spec PyProof.Rows L2 G
theorem f_net1_of {A : Ad} {m : Int} {g : Bool} {Q : D → Prop} (m0 : 2 ≤ m) (m1 : m ≤ 10) (h : ∀ (n : Int) (bs : List Bun) (ms : List Int) (cs : List Bnd), n ≤ m → NetOk n bs ms cs → Q (.ntup [.lst (cs.map bndW), .sh (.lst (bs.map bunW)), .sh (.tup (iW ms))])) : f__law_net_1 A [.bag, .v (.int m), .v (.bl g)] Q := by
 simp [f__law_net_1, p__law_net_1]
 refine ⟨by omega, fun v v0 v1 => f_bundles_of (by omega) (by omega) fun bs ho hne => ?_⟩
 have hn : (2 + v) = ((2 + v).toNat : Int) := by omega
 constructor
 all_goals
  simp
  refine loop_inv bunW (xs := bs) (fun i ρ => ∃ ms y6 y7 y8, ρ = [.sh .bag, .int m, .bl g, .int (2 + v), .sh (.lst (bs.map bunW)), .lst (iW ms), y6, y7, y8] ∧ LeadsOk ms (bs.take i)) ⟨[], _, _, _, rfl, ⟨rfl, fun i c x h => by cases h⟩⟩ ?_ ?_
  ·rintro i t _ ht ⟨ms, y6, y7, y8, rfl, hm⟩ T k
   have ob := ho.each t (List.mem_of_getElem? ht)
   have p1 := ob.p1
   have pm := ob.pm
   have hil := get_lt ht
   have hml : ms.length ≤ 45 := by rw [hm.1, List.length_take]; have := ho.len; omega
   simp [p__law_net_1_g0, p__law_net_1_b0, bunW]
   refine ⟨by omega, fun u u0 u1 x x0 x1 => onW_pick x0 (by simpa using x1) fun w hw => ?_⟩
   obtain ⟨q, rfl, q0, q1⟩ : ∃ q : Int, w = .v (.int q) ∧ 0 ≤ q ∧ q ≤ t.2.2 := by
    simp only [List.mem_cons, List.not_mem_nil, or_false] at hw
    rcases hw with rfl | rfl | rfl <;> exact ⟨_, rfl, by omega, by omega⟩
   simp
   exact ⟨by omega, k _ ⟨ms ++ [q], .int t.1, .int t.2.1, .int t.2.2, by simp, hm.snoc ht (by omega) (by omega)⟩⟩
  ·rintro _ ⟨ms, y6, y7, y8, rfl, hm⟩
   rw [List.take_length] at hm
   have ldin := loads_in (k := (2 + v).toNat) ho hm
   have ldln := loadsP_len (2 + v).toNat ms bs
   have fl : ∀ Q, f__law_loads A [.v (.int (2 + v)), .lst (bs.map bunW), .lst (iW ms)] Q = Q (.lst (iW (loadsP (2 + v).toNat ms bs))) := fun Q => by
    rw [hn]
    exact f_law_loads_eq (t := false) (by rw [← hn]; exact ho.each) (by omega) hm.1
   simp [fl]
   refine f_bounds_of (by omega) ldin fun cs hcs => ?_
   exact h (2 + v) bs ms cs (by omega) ⟨ho, hne, hm, hcs⟩
end R
namespace R
open PySem PySem.Spec PyProof.Rows L2 G
theorem idx_of : ∀ {bs : List Bun} {n : Nat} {t : Bun}, (bs.map bkey).Nodup → bs[n]? = some t → idx bs t.1 t.2.1 = some n
 | [], _, _, _, h => by cases h
 | b :: bs, 0, t, nd, h => by
  cases h
  rw [idx_cons, if_pos ⟨rfl, rfl⟩]
 | b :: bs, n + 1, t, nd, h => by
  rw [List.map_cons, List.nodup_cons] at nd
  have h' : bs[n]? = some t := by simpa using h
  rw [idx_cons, if_neg, idx_of nd.2 h']
  ·rfl
  ·intro e
   exact nd.1 (List.mem_map.mpr ⟨t, List.mem_of_getElem? h', by unfold bkey; rw [e.1, e.2]⟩)
section
variable {bs : List Bun} {cs : List Bnd} {ms : List Int} {i j q x : Int} {k n : Nat}
end
end R
namespace R
open PySem PySem.Spec PyProof.Rows L2 G
theorem at_map {α : Type} {f : α → W} {xs : List α} {i : Int} {x : α} (i0 : 0 ≤ i) (h : xs[i.toNat]? = some x) : atI (xs.map f) i = some (f x) := by
 have := atI_at (xs := xs.map f) (n := i.toNat) (x := f x) (by simp [h])
 rwa [Int.toNat_of_nonneg i0] at this
theorem at2_0 {α : Type} (a b : α) : atI [a, b] 0 = some a := rfl
theorem at2_1 {α : Type} (a b : α) : atI [a, b] 1 = some b := rfl
end R
namespace R
open PySem PySem.Spec PyProof.Rows L2 G
theorem at3_0 {α : Type} (a b c : α) : atI [a, b, c] 0 = some a := rfl
theorem at3_1 {α : Type} (a b c : α) : atI [a, b, c] 1 = some b := rfl
theorem at3_2 {α : Type} (a b c : α) : atI [a, b, c] 2 = some c := rfl
theorem bnd_in {bs : List Bun} {cs : List Bnd} (ok : ClOk bs cs) : ∀ c ∈ cs, 0 ≤ c.1 ∧ c.1 ≤ c.2 ∧ c.2 ≤ 1000000000000000000000000000000 := fun c hc => by
 have h := ok.bnds
 simp only [areBoundsW, Bool.and_eq_true, List.all_eq_true] at h
 have := h.2 _ (List.mem_map_of_mem (f := bndW) hc)
 simp only [bndW, isBoundW, betwW, leW, Bool.and_eq_true, decide_eq_true_eq] at this
 omega
end R
namespace R
open PySem PySem.Spec PyProof.Rows L2 G
abbrev Run := Int × Int × Int
structure RunOk (bs : List Bun) (n : Nat) (r : Run) : Prop where
 a0 : 0 ≤ r.1
 a1 : r.1 < (n : Int)
 b0 : 0 ≤ r.2.1
 b1 : r.2.1 < (n : Int)
 ne : r.1 ≠ r.2.1
 ex : ∃ k, idx bs (min r.1 r.2.1) (max r.1 r.2.1) = some k
section
variable {bs : List Bun} {cs : List Bnd} {ms : List Int} {rs : List Run} {r : Run}
end
end R
namespace R
open PySem PySem.Spec PyProof.Rows L2 G
end R
namespace R
open PySem PySem.Spec PyProof.Rows L2 G
end R
namespace R
open PySem PySem.Spec PyProof.Rows L2 G
def p__law_run (A : Ad) : TSQ :=
  (sSeq (sAsg (qOp oIx (vVar 1) (vE (qCall f_take 2 (aCons (qVar 0) (aCons (qCB bLen (vCons (vVar 1) vNil)) aNil))))) (gqName 3))
  (sSeq (sAsg (qOp oIx (vE (qLst (aCons (qC (.int 1)) (aCons (qOp oPlus (vE (qC (.int 1))) (vE (qCall f_take 2 (aCons (qVar 0) (aCons (qC (.int 3)) aNil))))) (aCons (qOp oPlus (vE (qC (.int 1))) (vE (qCall f_take 2 (aCons (qVar 0) (aCons (qOp oIx (vVar 3) (vE (qC (.int 2)))) aNil))))) aNil))))) (vE (qCall f_take 2 (aCons (qVar 0) (aCons (qC (.int 3)) aNil))))) (gqName 4))
  (sSeq (sIf (qAnd (qB (qVar 2)) (qB (qOp (oEq false) (vE (qCall f_take 2 (aCons (qVar 0) (aCons (qC (.int 6)) aNil)))) (vE (qC (.int 0)))))) (sAsg (qOp oPlus (vE (qC (.int 1))) (vE (qCall f_take 2 (aCons (qVar 0) (aCons (qOp (oI CPow fun i j => .int (i ^ j.toNat)) (vE (qC (.int 10))) (vE (qC (.int 18)))) aNil))))) (gqName 4)) sNext)
  (sRet (qOp oIx (vE (qLst (aCons (qTup (aCons (qOp oIx (vVar 3) (vE (qC (.int 0)))) (aCons (qOp oIx (vVar 3) (vE (qC (.int 1)))) (aCons (qVar 4) aNil)))) (aCons (qTup (aCons (qOp oIx (vVar 3) (vE (qC (.int 1)))) (aCons (qOp oIx (vVar 3) (vE (qC (.int 0)))) (aCons (qVar 4) aNil)))) aNil)))) (vE (qCall f_take 2 (aCons (qVar 0) (aCons (qC (.int 2)) aNil)))))))))
def f__law_run (A : Ad) : PF := runF (p__law_run A) 2
end R
namespace R
open PySem PySem.Spec PyProof.Rows L2 G
def tms (rs : List Run) : Nat := (rs.map fun r => r.2.2.natAbs).sum
section
variable {A : Ad} {bs : List Bun} {cs : List Bnd} {ms : List Int} {rs : List Run}
end
end R
namespace R
open PySem PySem.Spec PyProof.Rows L2 G
abbrev Blk := Int × List Run
def blkW (b : Blk) : W := .tup [.v (.int b.1), .lst (b.2.map bunW)]
structure BlkOk (bs : List Bun) (n : Nat) (b : Blk) : Prop where
 t0 : 0 ≤ b.1
 t1 : b.1.natAbs < 2 ^ 9000
 tm : tms b.2 < 2 ^ 9000
 rn : ∀ r ∈ b.2, RunOk bs n r
section
variable {A : Ad} {bs : List Bun} {cs : List Bnd} {ms : List Int} {rs : List Run}
end
end R
namespace R
open PySem PySem.Spec PyProof.Rows L2 G
end R
namespace R
open PySem PySem.Spec PyProof.Rows L2 G
section
variable {A : Ad} {bs : List Bun} {cs : List Bnd} {ms : List Int}
structure RunsIn (bs : List Bun) (n : Nat) (rs : List Run) : Prop where
 ok : ∀ r ∈ rs, RunOk bs n r
 tm : ∀ r ∈ rs, 1 ≤ r.2.2 ∧ r.2.2 ≤ 1000000000000000000
theorem RunsIn.nil {n : Nat} : RunsIn bs n [] := ⟨(fun _ h => nomatch h), (fun _ h => nomatch h)⟩
theorem RunsIn.app {n : Nat} {rs rs' : List Run} (h : RunsIn bs n rs) (h' : RunsIn bs n rs') : RunsIn bs n (rs ++ rs') := ⟨fun r hr => (List.mem_append.mp hr).elim (h.ok r) (h'.ok r), fun r hr => (List.mem_append.mp hr).elim (h.tm r) (h'.tm r)⟩
theorem RunsIn.one {n : Nat} {r : Run} (h : RunOk bs n r) (t1 : 1 ≤ r.2.2) (t2 : r.2.2 ≤ 1000000000000000000) : RunsIn bs n [r] := ⟨fun q hq => by rw [List.mem_singleton.mp hq]; exact h, fun q hq => by rw [List.mem_singleton.mp hq]; exact ⟨t1, t2⟩⟩
theorem RunsIn.tms {n : Nat} {rs : List Run} (h : RunsIn bs n rs) : R.tms rs ≤ rs.length * 1000000000000000000 := by
 have : ∀ {rs : List Run}, (∀ r ∈ rs, 1 ≤ r.2.2 ∧ r.2.2 ≤ 1000000000000000000) → R.tms rs ≤ rs.length * 1000000000000000000 := fun {rs} => by
  induction rs with
  | nil => intro _; simp [R.tms]
  | cons r rs ih =>
   intro h
   have h1 := h r List.mem_cons_self
   have h2 := ih fun r hr => h r (List.mem_cons_of_mem _ hr)
   show r.2.2.natAbs + R.tms rs ≤ _
   rw [List.length_cons, Nat.add_mul]
   omega
 exact this h.tm
theorem big9 : 100000 * 1000000000000000000 < 2 ^ 9000 := by
 have : (2 : Nat) ^ 80 ≤ 2 ^ 9000 := Nat.pow_le_pow_right (by decide) (by decide)
 have h : 100000 * 1000000000000000000 < 2 ^ 80 := by decide
 omega
theorem RunsIn.small {n : Nat} {rs : List Run} (h : RunsIn bs n rs) (hl : rs.length ≤ 100000) : R.tms rs < 2 ^ 9000 := by
 have h1 := h.tms
 have h2 : rs.length * 1000000000000000000 ≤ 100000 * 1000000000000000000 := Nat.mul_le_mul_right _ hl
 have := big9
 omega
theorem runOk_row (ok : ClOk bs cs) {t : Bun} (h : t ∈ bs) (q : Int) : RunOk bs cs.length (t.1, t.2.1, q) ∧ RunOk bs cs.length (t.2.1, t.1, q) := by
 have ot := ok.each t h
 have f0 := ot.f0
 have fs := ot.fs
 have sn := ot.sn
 obtain ⟨n, hn, en⟩ := List.mem_iff_getElem.mp h
 have hx := idx_of ok.nd (n := n) (t := t) (by rw [← en]; exact List.getElem?_eq_getElem hn)
 exact ⟨⟨f0, by show t.1 < _; omega, by show 0 ≤ t.2.1; omega, sn, by show t.1 ≠ t.2.1; omega, n, by show idx bs (min t.1 t.2.1) (max t.1 t.2.1) = _; rw [Int.min_eq_left (by omega), Int.max_eq_right (by omega)]; exact hx⟩,
  ⟨by show 0 ≤ t.2.1; omega, sn, f0, by show t.1 < _; omega, by show t.2.1 ≠ t.1; omega, n, by show idx bs (min t.2.1 t.1) (max t.2.1 t.1) = _; rw [Int.min_eq_right (by omega), Int.max_eq_left (by omega)]; exact hx⟩⟩
theorem f_run_of {g : Bool} {Q : D → Prop} (ok : ClOk bs cs) (hne : bs ≠ []) (h : ∀ r : Run, RunOk bs cs.length r → 1 ≤ r.2.2 → r.2.2 ≤ 1000000000000000000 → Q (.sh (bunW r))) : f__law_run A [.bag, .lst (bs.map bunW), .v (.bl g)] Q := by
 have hlen := ok.len
 have hb0 : 0 < bs.length := List.length_pos_iff.mpr hne
 simp [f__law_run, p__law_run]
 refine ⟨by omega, fun v v0 v1 => ?_⟩
 obtain ⟨t, ht⟩ : ∃ t, bs[v.toNat]? = some t := ⟨_, List.getElem?_eq_getElem (by omega)⟩
 have hm := List.mem_of_getElem? ht
 have p1 := (ok.each t hm).p1
 have pm := (ok.each t hm).pm
 rw [at_map (f := bunW) v0 ht]
 simp [bunW, at3_2]
 intro a a0 a1
 refine ⟨by omega, fun b b0 b1 x x0 x1 => onW_pick x0 (by simpa using x1) fun w hw => ?_⟩
 obtain ⟨q, rfl, q0, q1⟩ : ∃ q : Int, w = .v (.int q) ∧ 1 ≤ q ∧ q ≤ 1000000000000000000 := by
  simp only [List.mem_cons, List.not_mem_nil, or_false] at hw
  rcases hw with rfl | rfl | rfl <;> exact ⟨_, rfl, by omega, by omega⟩
 have fin : ∀ q : Int, 1 ≤ q → q ≤ 1000000000000000000 → ∀ y : Int, 0 ≤ y → y < 2 → onW (atI [W.tup [.v (.int t.1), .v (.int t.2.1), .v (.int q)], W.tup [.v (.int t.2.1), .v (.int t.1), .v (.int q)]] y) (fun w => Q (.sh w)) ⟨⟩ := fun q q0 q1 y y0 y1 => onW_pick y0 (by simpa using y1) fun w hw => by
  simp only [List.mem_cons, List.not_mem_nil, or_false] at hw
  rcases hw with rfl | rfl
  ·exact h (t.1, t.2.1, q) (runOk_row ok hm q).1 q0 q1
  ·exact h (t.2.1, t.1, q) (runOk_row ok hm q).2 q0 q1
 cases g with
 | false =>
  simp [at3_0, at3_1]
  exact fun y y0 y1 => fin q q0 q1 y y0 y1
 | true =>
  simp [at3_0, at3_1]
  intro y y0 y1
  split
  ·exact ⟨cpow18, fun z z0 z1 u u0 u1 => fin _ (by omega) (by omega) u u0 u1⟩
  ·exact fun u u0 u1 => fin q q0 q1 u u0 u1
end
end R
namespace R
open PySem PySem.Spec PyProof.Rows L2 G
section
variable {bs : List Bun} {cs : List Bnd} {ms : List Int} {rs : List Run}
theorem big100 : 2 ^ 110 ≤ 2 ^ 9000 := Nat.pow_le_pow_right (by decide) (by decide)
end
end R
namespace R
open PySem PySem.Spec PyProof.Rows L2 G
section
variable {A : Ad} {bs : List Bun} {cs : List Bnd} {ms : List Int} {rs : List Run}
theorem blk_ok {t : Int} (hr : RunsIn bs cs.length rs) (hl : rs.length ≤ 10000) (t0 : 0 ≤ t) (t1 : t ≤ 10000000000000000000000000000000) : BlkOk bs cs.length (t, rs) := by
 refine ⟨t0, ?_, hr.small (by omega), hr.ok⟩
 have h1 := big100
 have h2 : (10000000000000000000000000000000 : Nat) < 2 ^ 110 := by decide
 show t.natAbs < _
 omega
end
theorem lcL_inv' {α : Type} {g : TGQ} {tt : TTQ} {te : TQ} {vs : List Nat} {k : List D → List W → Prop} {ρ : List D} (enc : α → W) {xs : List α} (I : Nat → List W → Prop) {acc : List W} (h0 : I 0 acc) (st : ∀ (i : Nat) x acc, xs[i]? = some x → I i acc → ∀ ws', (∀ acc', I (i + 1) acc' → qLcL g tt te vs k ws' ρ acc') → qLcL g tt te vs k (enc x :: ws') ρ acc) (fin : ∀ acc, I xs.length acc → k ρ acc) : qLcL g tt te vs k (xs.map enc) ρ acc := by
 have : ∀ (n : Nat) (i : Nat) acc, i + n = xs.length → I i acc → qLcL g tt te vs k ((xs.drop i).map enc) ρ acc := by
  intro n
  induction n with
  | zero =>
   intro i acc h hi
   have e : i = xs.length := by omega
   subst e
   rw [List.drop_length]
   simpa using fin acc hi
  | succ n ih =>
   intro i acc h hi
   rw [List.drop_eq_getElem_cons (by omega), List.map_cons]
   exact st i _ acc (List.getElem?_eq_getElem (by omega)) hi _ fun acc' h' => ih (i + 1) acc' (by omega) h'
 simpa using this xs.length 0 acc (by omega) h0
theorem lc_rng {g : TGQ} {tt : TTQ} {te : TQ} {vs : List Nat} {k : List D → List W → Prop} {ρ : List D} {lo : Int} {n : Nat} (I : Nat → List W → Prop) {acc : List W} (h0 : I 0 acc) (st : ∀ (i : Nat) acc, i < n → I i acc → ∀ ws', (∀ acc', I (i + 1) acc' → qLcL g tt te vs k ws' ρ acc') → qLcL g tt te vs k (.v (.int (lo + (i : Int))) :: ws') ρ acc) (fin : ∀ acc, I n acc → k ρ acc) : qLcL g tt te vs k (rngW lo n) ρ acc := by
 have := lcL_inv' (g := g) (tt := tt) (te := te) (vs := vs) (k := k) (ρ := ρ) (fun i : Nat => W.v (.int (lo + (i : Int)))) (xs := List.range n) I h0 (fun i x acc hx hi ws' kk => by
  have hl := get_lt hx
  rw [List.length_range] at hl
  rw [List.getElem?_range hl] at hx
  cases hx
  exact st i acc hl hi ws' kk) (fun acc h => fin acc (by simpa using h))
 exact this
section
variable {A : Ad} {bs : List Bun} {cs : List Bnd} {ms : List Int} {rs : List Run}
end
end R
namespace R
open PySem PySem.Spec PyProof.Rows L2 G
section
variable {A : Ad} {bs : List Bun} {cs : List Bnd} {ms : List Int} {rs : List Run}
end
end R
namespace R
open PySem PySem.Spec PyProof.Rows L2 G
def p_is_run (A : Ad) : TSQ :=
  (sSeq (sIf (qOr (qNot (qB (qCB bIsi (vCons (vVar 0) (vCons (vE (qC (.ty "tuple"))) vNil))))) (qOr (qB (qOp (oEq true) (vE (qCB bLen (vCons (vVar 0) vNil))) (vE (qC (.int 3))))) (qNot (qB (qCall (f_is_count A) 1 (aCons (qOp oIx (vVar 0) (vE (qC (.int 2)))) aNil)))))) (sRet (qC (.bl false))) sNext)
  (sRet (qAndV (qCall (f_is_broker A) 2 (aCons (qOp oIx (vVar 0) (vE (qC (.int 0)))) (aCons (qVar 1) aNil))) (qAndV (qCall (f_is_broker A) 2 (aCons (qOp oIx (vVar 0) (vE (qC (.int 1)))) (aCons (qVar 1) aNil))) (qOp (oEq true) (vE (qOp oIx (vVar 0) (vE (qC (.int 0))))) (vE (qOp oIx (vVar 0) (vE (qC (.int 1))))))))))
def f_is_run (A : Ad) : PF := runF (p_is_run A) 0
def p_is_block_e0 (A : Ad) : TQ :=
  (qCall (f_is_run A) 2 (aCons (qVar 2) (aCons (qVar 1) aNil)))
def p_is_block (A : Ad) : TSQ :=
  (sSeq (sIf (qOr (qNot (qB (qCB bIsi (vCons (vVar 0) (vCons (vE (qC (.ty "tuple"))) vNil))))) (qOr (qB (qOp (oEq true) (vE (qCB bLen (vCons (vVar 0) vNil))) (vE (qC (.int 2))))) (qNot (qB (qCall (f_is_count A) 1 (aCons (qOp oIx (vVar 0) (vE (qC (.int 0)))) aNil)))))) (sRet (qC (.bl false))) sNext)
  (sSeq (sIf (qOr (qNot (qB (qCB bIsi (vCons (vE (qOp oIx (vVar 0) (vE (qC (.int 1))))) (vCons (vE (qC (.ty "list"))) vNil))))) (qNot (qB (qChain (oI0 fun i j => .bl (decide (i ≤ j))) (oI0 fun i j => .bl (decide (i ≤ j))) (vE (qC (.int 1))) (vE (qCB bLen (vCons (vE (qOp oIx (vVar 0) (vE (qC (.int 1))))) vNil))) (vE (qC (.int 1000))))))) (sRet (qC (.bl false))) sNext)
  (sRet (qCB bAll (vCons (vE (qLc (iqSeq (qOp oIx (vVar 0) (vE (qC (.int 1))))) (gqName 2) qYes (p_is_block_e0 A) [2])) vNil)))))
def f_is_block (A : Ad) : PF := runF (p_is_block A) 1
def p_are_blocks_e0 (A : Ad) : TQ :=
  (qCall (f_is_block A) 2 (aCons (qVar 4) (aCons (qVar 1) aNil)))
def p_are_blocks_e1 (A : Ad) : TQ :=
  (qCB bLen (vCons (vVar 3) vNil))
def p_are_blocks (A : Ad) : TSQ :=
  (sSeq (sIf (qOr (qNot (qB (qCB bIsi (vCons (vVar 0) (vCons (vE (qC (.ty "list"))) vNil))))) (qOr (qB (qOp (oI0 fun i j => .bl (decide (j < i))) (vE (qCB bLen (vCons (vVar 0) vNil))) (vE (qC (.int 400))))) (qNot (qB (qCB bAll (vCons (vE (qLc (iqSeq (qVar 0)) (gqName 4) qYes (p_are_blocks_e0 A) [4])) vNil)))))) (sRet (qC (.bl false))) sNext)
  (sRet (qOp (oI0 fun i j => .bl (decide (i ≤ j))) (vE (qCB bSum (vCons (vE (qLc (iqSeq (qVar 0)) (gqTup 2 (gqCons (gqName 2) (gqCons (gqName 3) gqNil))) qYes (p_are_blocks_e1 A) [2, 3])) vNil))) (vE (qC (.int 4000))))))
def f_are_blocks (A : Ad) : PF := runF (p_are_blocks A) 3
end R
namespace R
open PySem PySem.Spec PyProof.Rows L2 G
theorem all_yes {α : Type} (l : List α) : (l.all fun _ => true) = true := List.all_eq_true.mpr fun _ _ => rfl
structure PlanOk (bs : List Bun) (n : Nat) (bl : List Blk) : Prop where
 cn : bl.length ≤ 400
 tn : ∀ b ∈ bl, 1 ≤ b.1 ∧ b.1 ≤ 1000000000000000000
 rn : ∀ b ∈ bl, RunsIn bs n b.2
 ln : ∀ b ∈ bl, 1 ≤ b.2.length ∧ b.2.length ≤ 1000
 sm : (bl.map fun b : Blk => b.2.length).sum ≤ 4000
section
variable {A : Ad} {bs : List Bun} {cs : List Bnd} {ms : List Int} {rs : List Run}
theorem f_is_run_yes {r : Run} {n : Nat} {Q : D → Prop} (o : RunOk bs n r) (t0 : 1 ≤ r.2.2) (t1 : r.2.2 ≤ 1000000000000000000) : f_is_run A [bunW r, .v (.int (n : Int))] Q = Q (.bl true) := by
 have a0 := o.a0
 have a1 := o.a1
 have b0 := o.b0
 have b1 := o.b1
 have e1 : (decide (1 ≤ r.2.2) && decide (r.2.2 ≤ 1000000000000000000)) = true := by simp [t0, t1]
 have e2 : (decide (0 ≤ r.1) && decide (r.1 ≤ (n : Int) - 1)) = true := by simp [a0]; omega
 have e3 : (decide (0 ≤ r.2.1) && decide (r.2.1 ≤ (n : Int) - 1)) = true := by simp [b0]; omega
 have ne := o.ne
 simp [f_is_run, p_is_run, bunW, isA, at3_0, at3_1, at3_2, f_is_count_eq, f_is_broker_eq, betwW, e1, e2, e3, ne]
theorem f_is_block_yes {b : Blk} {n : Nat} {Q : D → Prop} (t0 : 1 ≤ b.1) (t1 : b.1 ≤ 1000000000000000000) (hr : RunsIn bs n b.2) (l0 : 1 ≤ b.2.length) (l1 : b.2.length ≤ 1000) : f_is_block A [blkW b, .v (.int (n : Int))] Q = Q (.bl true) := by
 have e1 : (decide (1 ≤ b.1) && decide (b.1 ≤ 1000000000000000000)) = true := by simp [t0, t1]
 have l2 : b.2.length ≤ 100000 := by omega
 have l3 : ¬ ((b.2.length : Int) < 1) := by omega
 have l4 : (1 : Int) ≤ (b.2.length : Int) := by omega
 have l5 : (b.2.length : Int) ≤ 1000 := by omega
 have lc : ∀ k ρ x0 x1, ρ = [x0, .sh (.v (.int (n : Int))), x1] → x1 = .un → qLcL (gqName 2) qYes (p_is_block_e0 A) [2] k (b.2.map bunW) ρ [] = k ρ (b.2.map fun _ => W.v (.bl true)) := fun k ρ x0 x1 e e1 => by
  subst e e1
  rw [lcL_map bunW (fun r : Run => W.v (.bl true)) fun r hm acc ws' => ?_, List.nil_append]
  have t := hr.tm r hm
  have fr : ∀ Q, f_is_run A [bunW r, .v (.int (n : Int))] Q = Q (.bl true) := fun Q => f_is_run_yes (hr.ok r hm) t.1 t.2
  simp [p_is_block_e0, fr]
 simp [f_is_block, p_is_block, blkW, isA, at2_0, at2_1, f_is_count_eq, betwW, e1, l2, l4, l5]
 rw [lc _ _ _ _ rfl rfl]
 simp [all_yes]
theorem f_are_blocks_yes {bl : List Blk} {n : Nat} {Q : D → Prop} (h : PlanOk bs n bl) : f_are_blocks A [.lst (bl.map blkW), .v (.int (n : Int))] Q = Q (.bl true) := by
 have h1 := h.cn
 have l2 : bl.length ≤ 100000 := by omega
 have l3 : ¬ (400 < (bl.length : Int)) := by omega
 have lc : ∀ k ρ, ρ = [.sh (.lst (bl.map blkW)), .sh (.v (.int (n : Int))), .un, .un, .un] → qLcL (gqName 4) qYes (p_are_blocks_e0 A) [4] k (bl.map blkW) ρ [] = k ρ (bl.map fun _ => W.v (.bl true)) := fun k ρ e => by
  subst e
  rw [lcL_map blkW (fun b : Blk => W.v (.bl true)) fun b hm acc ws' => ?_, List.nil_append]
  have t := h.tn b hm
  have l := h.ln b hm
  have fr : ∀ Q, f_is_block A [blkW b, .v (.int (n : Int))] Q = Q (.bl true) := fun Q => f_is_block_yes t.1 t.2 (h.rn b hm) l.1 l.2
  simp [p_are_blocks_e0, fr]
 have lc2 : ∀ k ρ, ρ = [.sh (.lst (bl.map blkW)), .sh (.v (.int (n : Int))), .un, .un, .un] → qLcL (gqTup 2 (gqCons (gqName 2) (gqCons (gqName 3) gqNil))) qYes (p_are_blocks_e1 A) [2, 3] k (bl.map blkW) ρ [] = k ρ (bl.map fun b : Blk => W.v (.int (b.2.length : Int))) := fun k ρ e => by
  subst e
  rw [lcL_map blkW (fun b : Blk => W.v (.int (b.2.length : Int))) fun b hm acc ws' => ?_, List.nil_append]
  simp [p_are_blocks_e1, blkW]
 have sm : (bl.map fun b : Blk => (b.2.length : Int)).sum ≤ 4000 := by
  have key : ∀ l : List Blk, (l.map fun b : Blk => (b.2.length : Int)).sum = (((l.map fun b : Blk => b.2.length).sum : Nat) : Int) := fun l => by
   induction l with
   | nil => rfl
   | cons b l ih => rw [List.map_cons, List.sum_cons, ih, List.map_cons, List.sum_cons]; omega
  rw [key]
  have := h.sm
  omega
 simp [f_are_blocks, p_are_blocks, isA, l2, l3]
 rw [lc _ _ rfl]
 simp [l2, all_yes]
 rw [lc2 _ _ rfl]
 simp [sm]
theorem PlanOk.blk {bl : List Blk} (h : PlanOk bs cs.length bl) : ∀ b ∈ bl, BlkOk bs cs.length b := fun b hb => by
 have h1 := h.ln b hb
 have h2 := h.tn b hb
 exact blk_ok (h.rn b hb) (by omega) (by omega) (by omega)
end
end R
namespace R
open PySem PySem.Spec PyProof.Rows L2 G
section
variable {A : Ad} {bs : List Bun} {cs : List Bnd} {ms : List Int} {rs : List Run}
end
end R
namespace R
open PySem PySem.Spec PyProof.Rows L2 G
def p_Cluster_bounds (A : Ad) : TSQ :=
  (sRet (qCB bList (vCons (vE (qFld A.Cluster "limits" (vVar 0))) vNil)))
def f_Cluster_bounds (A : Ad) : PF := runF (p_Cluster_bounds A) 0
end R
namespace R
open PySem PySem.Spec PyProof.Rows L2 G
end R
namespace R
open PySem PySem.Spec PyProof.Rows L2 G
end R
namespace R
open PySem PySem.Spec PyProof.Rows L2 G
section
variable {A : Ad} {bs : List Bun} {cs : List Bnd} {ms : List Int}
end
end R
namespace R
open PySem PySem.Spec PyProof.Rows L2 G
section
variable {A : Ad} {bs : List Bun} {cs : List Bnd} {ms : List Int}
end
end R
namespace R
open PySem PySem.Spec PyProof.Rows L2 G
section
variable {A : Ad} {bs : List Bun} {cs : List Bnd} {ms : List Int}
end
end R
namespace R
open PySem PySem.Spec PyProof.Rows L2 G
section
variable {A : Ad} {bs : List Bun} {cs : List Bnd} {ms : List Int}
end
end R
namespace R
open PySem PySem.Spec PyProof.Rows L2 G
section
variable {A : Ad} {bs : List Bun} {cs : List Bnd} {ms : List Int}
end
end R
namespace R
open PySem PySem.Spec PyProof.Rows L2 G
section
variable {A : Ad} {bs : List Bun} {cs : List Bnd} {ms : List Int}
theorem f_bounds_eq {Q : D → Prop} : f_Cluster_bounds A [clW A bs cs] Q = Q (.lst (cs.map bndW)) := by
 simp [f_Cluster_bounds, p_Cluster_bounds, clW, clF]
end
end R
namespace R
open PySem PySem.Spec PyProof.Rows L2 G
section
variable {K : PySem.W.Frag} {c : Cx K}
structure NC (K : PySem.W.Frag) where
 c : Cx K
 no : NoM c
instance {x : NC K} : NoM x.c := x.no
theorem TsOk.put {F H : Hp} {om om2 : Om} {L : Nat} {ts : List (V × D)} (hL : ts.length = L) (k : ∀ a j, om a = some (.inr j) → om2 a = some (.inr (j + L))) (t : TsOk c F H om2 ts) : ∀ {ts1 : List (V × D)}, TsOk c F H om ts1 → TsOk c F H om2 (ts1 ++ ts)
 | [], _ => t
 | u :: ts1, h => ⟨h.1.mono (Same.refl _) (fun a o _ e => e) fun a z => by
  show om2 a = some (.inr (ts1 ++ ts).length)
  rw [List.length_append, hL]; exact k a _ z, TsOk.put hL k t h.2⟩
theorem TsOk.recx {c' : Cx K} {F H : Hp} {om : Om} (hk : c'.pk = false) (hb : c'.b = c.b) (s : ∀ a i, om a = some i → ¬ c.M a) (n : ∀ a, ¬ c'.M a) : ∀ {ts : List (V × D)}, TsOk c' F H om ts → TsOk c F H om ts
 | [], _ => trivial
 | _ :: _, h => ⟨h.1.recx hk hb (fun a z => z) (fun a z => s a _ z) n, TsOk.recx hk hb s n h.2⟩
end
end R
namespace R
open PySem PySem.Spec PyProof.Rows L2 G
section
variable {K : PySem.W.Frag} {c : Cx K}
end
end R
namespace R
open PySem PySem.Spec PyProof.Rows L2 G
section
variable {K : PySem.W.Frag} {c : Cx K}
theorem RepL.da {F H : Hp} (e : Same F H) : ∀ {ws : List W} {us : List V}, RepL K c.b F us ws → (∀ w ∈ ws, w.ok 20 = true) → DaL K H us (ws.map W.dat)
 | _, _, .nil, _ => .nil
 | _, _, .cons a r, h => .cons (Dp.da (Vw.dp (Vw.of a) e (h _ List.mem_cons_self))) (RepL.da e r fun w hw => h w (List.mem_cons_of_mem _ hw))
end
end R
namespace R
open PySem PySem.Spec PyProof.Rows L2 G
section
variable {K : PySem.W.Frag} {c : Cx K}
end
end R
namespace R
open PySem PySem.Spec PyProof.Rows L2 G
section
variable {P : Program} {w : World} {A : Around} {E : Value → Shared → Prop} {s : Shared}
end
section
variable {K : PySem.W.Frag} {c : Cx K}
end
section
variable {K : PySem.W.Frag} {c : Cx K}
end
end R
namespace R
open PySem PySem.Spec PyProof.Rows L2 G
mutual
def W.dx : W → PyData
 | .v x => vDat x
 | .lst ws => .list (W.dxL ws)
 | .tup ws => .tuple (W.dxL ws)
 | .dic ks ws => .dict ((ks.map kD).zip (W.dxL ws))
 | .dit _ _ => .none
 | .obj _ _ _ => .none
 | .set _ _ => .none
 | .bag => .none
def W.dxL : List W → List PyData
 | [] => []
 | w :: ws => w.dx :: W.dxL ws
end
mutual
def W.okx : W → Bool
 | .v x => vOk x
 | .lst ws => W.okxL ws
 | .tup ws => W.okxL ws
 | .dic ks ws => decide (ks.length = ws.length) && W.okxL ws
 | .dit _ _ => false
 | .obj _ _ _ => false
 | .set _ _ => false
 | .bag => false
def W.okxL : List W → Bool
 | [] => true
 | w :: ws => w.okx && W.okxL ws
end
section
variable {K : PySem.W.Frag} {b : Addr} {F : Hp}
theorem DaE.of : ∀ {ks : List Key} {us : List V} {ds : List PyData}, DaL K F us ds → ks.length = us.length → DaE K F (ks.zip us) ((ks.map kD).zip ds)
 | [], [], _, .nil, _ => .nil
 | [], _ :: _, _, _, h => by simp at h
 | _ :: _, [], _, _, h => by simp at h
 | k :: ks, u :: us, _, .cons a r, h => .cons a (DaE.of r (by simpa using h))
end
def showsX (w : W) : Prop := w.okx = true ∧ Sm 60 1000000 w.dx
section
variable {K : PySem.W.Frag} {c : Cx K}
end
mutual
theorem W.okx_of : ∀ (w : W) (n : Nat), w.ok n = true → w.okx = true ∧ w.dx = w.dat
 | .v x, n, h => ⟨by rw [W.okx]; simpa using h, by rw [W.dx, W.dat]⟩
 | .lst ws, 0, h => by simp [W.ok] at h
 | .lst ws, n + 1, h => by
  rw [W.ok] at h
  obtain ⟨h1, h2⟩ := W.okxL_of ws n h
  exact ⟨by rw [W.okx]; exact h1, by rw [W.dx, W.dat, h2]⟩
 | .tup ws, 0, h => by simp [W.ok] at h
 | .tup ws, n + 1, h => by
  rw [W.ok] at h
  obtain ⟨h1, h2⟩ := W.okxL_of ws n h
  exact ⟨by rw [W.okx]; exact h1, by rw [W.dx, W.dat, h2]⟩
 | .dic _ _, n, h => by simp [W.ok] at h
 | .dit _ _, n, h => by simp [W.ok] at h
 | .obj _ _ _, n, h => by simp [W.ok] at h
 | .set _ _, n, h => by simp [W.ok] at h
 | .bag, n, h => by simp [W.ok] at h
theorem W.okxL_of : ∀ (ws : List W) (n : Nat), W.okL ws n = true → W.okxL ws = true ∧ W.dxL ws = W.datL ws
 | [], n, _ => ⟨by rw [W.okxL], by rw [W.dxL, W.datL]⟩
 | w :: ws, n, h => by
  rw [W.okL, Bool.and_eq_true] at h
  obtain ⟨h1, h2⟩ := W.okx_of w n h.1
  obtain ⟨h3, h4⟩ := W.okxL_of ws n h.2
  exact ⟨by rw [W.okxL, h1, h3]; rfl, by rw [W.dxL, W.datL, h2, h4]⟩
end
theorem shows.x {w : W} (h : shows w) : showsX w := by
 obtain ⟨h1, h2⟩ := W.okx_of w 20 h.1
 exact ⟨h1, by rw [h2]; exact h.2⟩
end R
namespace R
open PySem PySem.Spec PyProof.Rows L2 G
section
variable {K : PySem.W.Frag} {c : Cx K}
end
end R
namespace R
open PySem PySem.Spec PyProof.Rows L2 G
section
variable {K : PySem.W.Frag} {c : Cx K}
end
end R
namespace L2
open PySem PySem.W PySem.Spec PySem.Calls PyProof.Rows PyProof.V
section
variable {X : Cx} {pins : List (Addr × Obj)} {σ : St} {H : Hp} {s : Shared} {d : Addr} {o : Obj}
end
section
variable {P : Program} {w : World} {K : PySem.W.Frag} {d : Addr} {o : Obj} {es : Array DictEntry} {ep : Nat}
end
section
variable {X : Cx} {tg e : Expr} {td : TE} {apos cpos : Pos}
end
end L2
namespace L2
open PySem PySem.W PySem.Spec PySem.Calls PyProof.Rows PyProof.V
section
variable {prog : Program} {w : World} {κ : Type} [DecidableEq κ] {knd : HeapKind prog w κ} {A : Around} {E : Value → Shared → Prop} {s : Shared}
end
end L2
namespace R
open PySem PySem.Spec PyProof.Rows L2 G
section
variable {K : PySem.W.Frag} {c : Cx K}
mutual
/-- no small tuple of the heap in it -/
def D.noK : D → Bool
 | .kt _ => false
 | .ntup ds => D.noKL ds
 | .nlst ds => D.noKL ds
 | .nobj _ _ _ ds => D.noKL ds
 | .sh _ => true
 | .lst _ => true
 | .dic _ _ => true
 | .dit _ _ => true
 | .obj _ _ _ => true
 | .set _ _ => true
 | .lstP _ _ => true
 | .ditP _ _ _ => true
 | .mobj _ _ _ => true
 | .raw _ => true
 | .un => true
def D.noKL : List D → Bool
 | [] => true
 | d :: ds => D.noK d && D.noKL ds
/-- no own tuple in it -/
def D.noT : D → Bool
 | .ntup _ => false
 | .raw _ => false
 | .nlst ds => D.noTL ds
 | .nobj _ _ _ ds => D.noTL ds
 | .kt _ => true
 | .sh _ => true
 | .lst _ => true
 | .dic _ _ => true
 | .dit _ _ => true
 | .obj _ _ _ => true
 | .set _ _ => true
 | .lstP _ _ => true
 | .ditP _ _ _ => true
 | .mobj _ _ _ => true
 | .un => true
def D.noTL : List D → Bool
 | [] => true
 | d :: ds => D.noT d && D.noTL ds
end
theorem noKL_get : ∀ {ds : List D}, D.noKL ds = true → ∀ {j : Nat} {d : D}, ds[j]? = some d → d.noK = true
 | [], _, _, _, e => by cases e
 | d :: ds, h, 0, _, e => by rw [D.noKL, Bool.and_eq_true] at h; cases e; exact h.1
 | d :: ds, h, j + 1, _, e => by rw [D.noKL, Bool.and_eq_true] at h; exact noKL_get h.2 (j := j) e
theorem noTL_get : ∀ {ds : List D}, D.noTL ds = true → ∀ {j : Nat} {d : D}, ds[j]? = some d → d.noT = true
 | [], _, _, _, e => by cases e
 | d :: ds, h, 0, _, e => by rw [D.noTL, Bool.and_eq_true] at h; cases e; exact h.1
 | d :: ds, h, j + 1, _, e => by rw [D.noTL, Bool.and_eq_true] at h; exact noTL_get h.2 (j := j) e
theorem Ow.shrink {F H : Hp} {S : Addr → Prop} {v : V} {d : D} (h : Ow c F H S v d) : d.noT = true → Ow c F H (fun a => S a ∧ ∀ us, H a ≠ some (.tup us)) v d := by
 induction h with
 | sh r => intro _; exact .sh r
 | lst s0 m h r => intro _; exact .lst ⟨s0, by rw [h]; exact fun _ z => nomatch z⟩ m h r
 | dic s0 m h l r => intro _; exact .dic ⟨s0, by rw [h]; exact fun _ z => nomatch z⟩ m h l r
 | dit s0 m h l r => intro _; exact .dit ⟨s0, by rw [h]; exact fun _ z => nomatch z⟩ m h l r
 | obj s0 m h l r => intro _; exact .obj ⟨s0, by rw [h]; exact fun _ z => nomatch z⟩ m h l r
 | set s0 m h => intro _; exact .set ⟨s0, by rw [h]; exact fun _ z => nomatch z⟩ m h
 | ntup cm s0 m h l _ ih => intro z; rw [D.noT] at z; cases z
 | nlst cm s0 m h l _ ih =>
  intro z; rw [D.noT] at z
  exact .nlst cm ⟨s0, by rw [h]; exact fun _ z => nomatch z⟩ m h l fun j v d h1 h2 => (ih j v d h1 h2 (noTL_get z h2)).mono (Same.refl _) (fun _ _ _ e => e) fun a q => ⟨⟨q.1.1, q.2⟩, q.1.2⟩
 | nobj cm s0 m h l l2 _ ih =>
  intro z; rw [D.noT] at z
  exact .nobj cm ⟨s0, by rw [h]; exact fun _ z => nomatch z⟩ m h l l2 fun j v d h1 h2 => (ih j v d h1 h2 (noTL_get z h2)).mono (Same.refl _) (fun _ _ _ e => e) fun a q => ⟨⟨q.1.1, q.2⟩, q.1.2⟩
 | kt p h => intro _; exact .kt p h
 | lstP s0 m h r => intro _; exact .lstP ⟨s0, by rw [h]; exact fun _ z => nomatch z⟩ m h r
 | ditP s0 m h l r => intro _; exact .ditP ⟨s0, by rw [h]; exact fun _ z => nomatch z⟩ m h l r
 | mobj s0 m h l r => intro _; exact .mobj ⟨s0, by rw [h]; exact fun _ z => nomatch z⟩ m h l r
 | raw s0 m h => intro z; rw [D.noT] at z; cases z
 | un => intro _; exact .un
theorem Ow.ld {c c' : Cx K} (hb : c'.b = c.b) (hM : ∀ a, c'.M a ↔ c.M a) {F F' H H' : Hp} (e : Ld F F') {S : Addr → Prop} {v : V} {d : D} (h : Ow c F H S v d) : (d.noK = true ∨ ∀ q us, c.pk = true → c.H0 q = some (.tup us) → c'.pk = true ∧ c'.H0 q = some (.tup us)) → ∀ {S' : Addr → Prop}, (∀ a o, S a → H a = some o → H' a = some o) → (∀ a, S a → S' a) → Ow c' F' H' S' v d := by
 have mm : ∀ {a}, ¬ c.M a → ¬ c'.M a := fun m z => m ((hM _).mp z)
 induction h with
 | sh r => intro _ S' k s; exact .sh (by rw [hb]; exact Rep.upL e _ _ r)
 | lst s0 m h r => intro _ S' k s; exact .lst (s _ s0) (mm m) (k _ _ s0 h) (by rw [hb]; exact RepL.upL e _ _ r)
 | dic s0 m h l r => intro _ S' k s; exact .dic (s _ s0) (mm m) (k _ _ s0 h) l (by rw [hb]; exact RepL.upL e _ _ r)
 | dit s0 m h l r => intro _ S' k s; exact .dit (s _ s0) (mm m) (k _ _ s0 h) l (by rw [hb]; exact RepL.upL e _ _ r)
 | obj s0 m h l r => intro _ S' k s; exact .obj (s _ s0) (mm m) (k _ _ s0 h) l (by rw [hb]; exact RepL.upL e _ _ r)
 | set s0 m h => intro _ S' k s; exact .set (s _ s0) (mm m) (k _ _ s0 h)
 | ntup cm s0 m h l _ ih =>
  intro z S' k s
  exact .ntup cm (s _ s0) (mm m) (k _ _ s0 h) l fun j v d h1 h2 => ih j v d h1 h2 (z.imp_left fun z => by rw [D.noK] at z; exact noKL_get z h2) (fun a o q => k a o q.1) fun a q => ⟨s a q.1, q.2⟩
 | nlst cm s0 m h l _ ih =>
  intro z S' k s
  exact .nlst cm (s _ s0) (mm m) (k _ _ s0 h) l fun j v d h1 h2 => ih j v d h1 h2 (z.imp_left fun z => by rw [D.noK] at z; exact noKL_get z h2) (fun a o q => k a o q.1) fun a q => ⟨s a q.1, q.2⟩
 | nobj cm s0 m h l l2 _ ih =>
  intro z S' k s
  exact .nobj cm (s _ s0) (mm m) (k _ _ s0 h) l l2 fun j v d h1 h2 => ih j v d h1 h2 (z.imp_left fun z => by rw [D.noK] at z; exact noKL_get z h2) (fun a o q => k a o q.1) fun a q => ⟨s a q.1, q.2⟩
 | kt p h =>
  intro z S' k s
  rcases z with z | z
  ·rw [D.noK] at z; cases z
  ·exact .kt (z _ _ p h).1 (z _ _ p h).2
 | lstP s0 m h r => intro _ S' k s; exact .lstP (s _ s0) (mm m) (k _ _ s0 h) (by rw [hb]; exact RepL.upL e _ _ r)
 | ditP s0 m h l r => intro _ S' k s; exact .ditP (s _ s0) (mm m) (k _ _ s0 h) l (by rw [hb]; exact RepL.upL e _ _ r)
 | mobj s0 m h l r => intro _ S' k s; exact .mobj (s _ s0) ((hM _).mpr m) (k _ _ s0 h) l (by rw [hb]; exact RepL.upL e _ _ r)
 | raw s0 m h => intro _ S' k s; exact .raw (s _ s0) (mm m) (k _ _ s0 h)
 | un => intro _ S' k s; exact .un
theorem TsOk.ld {c c' : Cx K} (hb : c'.b = c.b) (hM : ∀ a, c'.M a ↔ c.M a) {F F' H H' : Hp} {om : Om} (e : Ld F F') : ∀ {ts : List (V × D)}, TsOk c F H om ts → (∀ t ∈ ts, t.2.noK = true ∨ ∀ q us, c.pk = true → c.H0 q = some (.tup us) → c'.pk = true ∧ c'.H0 q = some (.tup us)) → (∀ a o, om a ≠ none → H a = some o → H' a = some o) → TsOk c' F' H' om ts
 | [], _, _, _ => trivial
 | t :: ts, h, z, k => ⟨h.1.ld hb hM e (z t List.mem_cons_self) (fun a o q => k a o (by rw [show om a = _ from q]; exact fun z => nomatch z)) (fun a q => q), TsOk.ld hb hM e h.2 (fun t ht => z t (List.mem_cons_of_mem _ ht)) k⟩
theorem bagC_at {b x : Addr} {H H' : Hp} (h : BagC b x H) (h1 : H' b = H b) (h2 : H' x = H x) : BagC b x H' := by
 obtain ⟨q1, q2, q3, cs, g1, g2, rest⟩ := h
 exact ⟨q1, q2, q3, cs, h1.trans g1, h2.trans g2, rest⟩
abbrev bsC (c : Cx K) (F H0 : Hp) : Cx K := ⟨c.b, fun _ => False, F, H0, false, true⟩
theorem Rel.base [nm : NoM c] {F H : Hp} {σ : L2.St} {ρ : List D} (r : Rel c F H σ ρ []) (hn : D.noTL ρ = true) : ∃ H0 : Hp, (∀ q us, H q = some (.tup us) → H0 q = some (.tup us)) ∧ Rel (bsC c F H0) F H σ ρ [] ∧
  ∀ (σ' : L2.St) (ρ' : List D) (F' H' : Hp) (ts' : List (V × D)), Rel (bsC c F H0) F' H' σ' ρ' ts' → D.noKL ρ' = true → (∀ t ∈ ts', t.2.noK = true) → Rel c F' H' σ' ρ' ts' := by
 classical
 obtain ⟨om, o, s, t⟩ := r.ex
 obtain ⟨bx, b0, b1, nmx⟩ := r.fr.bg
 let nt : Addr → Prop := fun x => ∀ us, H x ≠ some (.tup us)
 let om1 : Om := fun x => if nt x then om x else none
 have m1 : ∀ x i, om x = some i → nt x → om1 x = some i := fun x i h z => by show (if nt x then om x else none) = _; rw [if_pos z]; exact h
 have f1 : ∀ x i, om1 x = some i → om x = some i ∧ nt x := fun x i h => by
  by_cases z : nt x
  ·have : om1 x = om x := if_pos z
   rw [this] at h; exact ⟨h, z⟩
  ·have : om1 x = none := if_neg z
   rw [this] at h; cases h
 let H0 : Hp := fun x => if om1 x = none then H x else none
 have h0n : ∀ x i, om1 x = some i → H0 x = none := fun x i h => if_neg (by rw [h]; exact fun z => nomatch z)
 have h0y : ∀ x, om1 x = none → H0 x = H x := fun x h => if_pos h
 have old : ∀ x, c.H0 x ≠ none → om1 x = none := fun x h => by
  cases e : om1 x with
  | none => rfl
  | some i =>
   rcases o.mn x i (f1 x i e).1 with q | q
   ·exact absurd q h
   ·exact absurd q (nm.no x)
 have oldH : ∀ x, c.H0 x ≠ none → H x ≠ none := fun x h => r.fr.al x h
 have b1' : BagC c.b bx H0 := by
  have k0 : ∃ u, c.H0 c.b = some u := by obtain ⟨_, _, _, _, k1, _⟩ := b0; exact ⟨_, k1⟩
  have k1 : ∃ u, c.H0 bx = some u := by obtain ⟨_, _, _, _, _, k2, _⟩ := b0; exact ⟨_, k2⟩
  obtain ⟨u0, k0⟩ := k0
  obtain ⟨u1, k1⟩ := k1
  exact bagC_at b1 (h0y _ (old _ (by rw [k0]; exact fun z => nomatch z))) (h0y _ (old _ (by rw [k1]; exact fun z => nomatch z)))
 refine ⟨H0, fun q us h => ?_, ⟨⟨⟨bx, b1', b1, fun z => z⟩, r.fr.fb, Same.refl _, r.fr.fh, fun a h _ => h, fun x u h _ _ => ?_, fun x h => ?_, fun _ z => z⟩, r.len, om1, ⟨fun x i h => o.nb x _ (f1 x i h).1, fun x i h => o.nf x _ (f1 x i h).1, fun x i h => o.th x _ (f1 x i h).1, fun x i h => .inl (h0n x i h)⟩, fun i d h => ?_, trivial⟩, fun σ' ρ' F' H' ts' r' hk hkt => ?_⟩
 ·have : om1 q = none := by
   cases e : om1 q with
   | none => rfl
   | some i => exact absurd h ((f1 q i e).2 us)
  rw [h0y q this]; exact h
 ·replace h : H0 x = some u := h
  by_cases z : om1 x = none
  ·rw [h0y x z] at h; exact h
  ·obtain ⟨i, z⟩ := Option.ne_none_iff_exists'.mp z
   rw [h0n x i z] at h; cases h
 ·replace h : H0 x ≠ none := h
  by_cases z : om1 x = none
  ·rw [h0y x z] at h; exact h
  ·obtain ⟨i, z⟩ := Option.ne_none_iff_exists'.mp z
   exact absurd (h0n x i z) h
 ·rcases s i d h with z | ⟨v, q1, q2⟩
  ·exact .inl z
  ·exact .inr ⟨v, q1, Ow.recx nm.pk (c := bsC c F H0) (q2.shrink (noTL_get hn h)) rfl (fun a z => m1 a _ z.1 z.2) (fun _ _ z => z) nm.no⟩
 ·obtain ⟨om', o', s', t'⟩ := r'.ex
  have kp : ∀ x u, H x = some u → om1 x = none → x ≠ c.b → H' x = some u := fun x u h z n => r'.fr.kp x u (by show H0 x = some u; rw [h0y x z]; exact h) n (fun w => w)
  have al : ∀ x, H x ≠ none → om1 x = none → H' x ≠ none := fun x h z => r'.fr.al x (by show H0 x ≠ none; rw [h0y x z]; exact h)
  have nw : ∀ x, F x = none → H x ≠ none → om1 x = none → F' x = none := fun x h q z => r'.fr.nw x h (by show H0 x ≠ none; rw [h0y x z]; exact q)
  obtain ⟨bx', b2, b3, _⟩ := r'.fr.bg
  have eb : bx = bx' := b1'.uniq b2
  subst eb
  have hM : ∀ a, c.M a ↔ (bsC c F H0).M a := fun a => ⟨fun z => nm.no a z, fun z => z.elim⟩
  refine ⟨⟨⟨bx, b0, b3, nmx⟩, r'.fr.fb, r.fr.ff.trans r'.fr.ff, r'.fr.fh, fun x h1 h2 => nw x (r.fr.nw x h1 h2) (oldH x h2) (old x h2), fun x u h1 h2 h3 => kp x u (r.fr.kp x u h1 h2 h3) (old x (by rw [h1]; exact fun z => nomatch z)) h2, fun x h => al x (oldH x h) (old x h), r.fr.nm⟩, r'.len, om', ⟨o'.nb, o'.nf, o'.th, fun x i h => ?_⟩, fun i d h => ?_, ?_⟩
  ·left
   rcases o'.mn x i h with q | q
   ·replace q : H0 x = none := q
    refine Classical.byContradiction fun w => ?_
    rw [h0y x (old x w)] at q
    exact oldH x w q
   ·exact q.elim
  ·rcases s' i d h with z | ⟨v, q1, q2⟩
   ·exact .inl z
   ·exact .inr ⟨v, q1, Ow.ld (c := bsC c F H0) (c' := c) rfl hM (same_ld (Same.refl _)) q2 (.inl (noKL_get hk h)) (fun _ _ _ e => e) fun a z => z⟩
  ·exact TsOk.ld (c := bsC c F H0) (c' := c) rfl hM (same_ld (Same.refl _)) t' (fun t ht => .inl (hkt t ht)) fun _ _ _ e => e
end
end R
namespace R
open PySem PySem.Spec PyProof.Rows L2 G
section
variable {K : PySem.W.Frag} {c : Cx K}
def unK (d : D) : D := if d.noK = true then d else .un
def offK (ρ : List D) : List D := ρ.map unK
theorem Rel.off {F H : Hp} {σ : L2.St} {ρ : List D} {ts : List (V × D)} (r : Rel c F H σ ρ ts) : Rel c F H σ (offK ρ) ts := by
 obtain ⟨om, o, s, t⟩ := r.ex
 refine ⟨r.fr, by rw [offK, List.length_map]; exact r.len, om, o, fun i d h => ?_, t⟩
 rw [offK, List.getElem?_map] at h
 cases e : ρ[i]? with
 | none => rw [e] at h; cases h
 | some d0 =>
  rw [e] at h
  obtain rfl : unK d0 = d := Option.some.inj h
  unfold unK
  split
  next => exact s i d0 e
  next => exact .inl rfl
end
end R
namespace R
open PySem PySem.Spec PyProof.Rows L2 G
section
variable {K : PySem.W.Frag} {c : Cx K}
end
end R
namespace R
open PySem PySem.Spec PyProof.Rows L2 G
section
variable {K : PySem.W.Frag} {c : Cx K}
end
end R
namespace R
open PySem PySem.Spec PyProof.Rows L2 G
section
variable {K : PySem.W.Frag} {c : Cx K}
section
variable {P : Program} {w : World} {mg : Str → Option Value} {base : Heap} {k : Nat} {x : Str} {ps N : List Str} {st : Stmt} {τ : TSQ}
end
end
end R
namespace R
open PySem PySem.Spec PyProof.Rows L2 G
section
variable {K : PySem.W.Frag} {c : Cx K}
end
end R
namespace R
open PySem PySem.Spec PyProof.Rows L2 G
@[simp ↓] theorem lookD_lstP (p : Addr) (ws : List W) (k : W → Prop) : lookD (.lstP p ws) k = k (.lst ws) := by rw [lookD, D.fz]
@[simp ↓] theorem lookD_ditP (p : Addr) (ks : List (List Key)) (ws : List W) (k : W → Prop) : lookD (.ditP p ks ws) k = k (.dit ks ws) := by rw [lookD, D.fz]
@[simp ↓] theorem thr_lstP (p : Addr) (ws : List W) (k : Prop) : thr (.lstP p ws) k = k := by simp [thr]
@[simp ↓] theorem thr_ditP (p : Addr) (ks : List (List Key)) (ws : List W) (k : Prop) : thr (.ditP p ks ws) k = k := by simp [thr]
@[simp ↓] theorem thr_nobj (p C : Addr) (fs : List Str) (ds : List D) (k : Prop) : thr (.nobj p C fs ds) k = k := by simp [thr]
@[simp ↓] theorem thr_kt (ks : List Key) (k : Prop) : thr (.kt ks) k = k := by simp [thr]
@[simp] theorem noT_sh (w : W) : D.noT (.sh w) = true := by rw [D.noT]
@[simp] theorem noT_lst (ws : List W) : D.noT (.lst ws) = true := by rw [D.noT]
@[simp] theorem noT_dic (ks : List Key) (ws : List W) : D.noT (.dic ks ws) = true := by rw [D.noT]
@[simp] theorem noT_dit (ks : List (List Key)) (ws : List W) : D.noT (.dit ks ws) = true := by rw [D.noT]
@[simp] theorem noT_obj (C : Addr) (fs : List Str) (ws : List W) : D.noT (.obj C fs ws) = true := by rw [D.noT]
@[simp] theorem noT_set (S : Int → Bool) (n : Nat) : D.noT (.set S n) = true := by rw [D.noT]
@[simp] theorem noT_un : D.noT .un = true := by rw [D.noT]
@[simp] theorem noT_kt (ks : List Key) : D.noT (.kt ks) = true := by rw [D.noT]
@[simp] theorem noT_lstP (p : Addr) (ws : List W) : D.noT (.lstP p ws) = true := by rw [D.noT]
@[simp] theorem noT_ditP (p : Addr) (ks : List (List Key)) (ws : List W) : D.noT (.ditP p ks ws) = true := by rw [D.noT]
@[simp] theorem noT_nobj (p C : Addr) (fs : List Str) (ds : List D) : D.noT (.nobj p C fs ds) = D.noTL ds := by rw [D.noT]
@[simp] theorem noT_nlst (ds : List D) : D.noT (.nlst ds) = D.noTL ds := by rw [D.noT]
@[simp] theorem noT_ntup (ds : List D) : D.noT (.ntup ds) = false := by rw [D.noT]
@[simp] theorem noTL_nil : D.noTL [] = true := by rw [D.noTL]
@[simp] theorem noTL_cons (d : D) (ds : List D) : D.noTL (d :: ds) = (d.noT && D.noTL ds) := by rw [D.noTL]
@[simp] theorem noK_sh (w : W) : D.noK (.sh w) = true := by rw [D.noK]
@[simp] theorem noK_lst (ws : List W) : D.noK (.lst ws) = true := by rw [D.noK]
@[simp] theorem noK_dic (ks : List Key) (ws : List W) : D.noK (.dic ks ws) = true := by rw [D.noK]
@[simp] theorem noK_dit (ks : List (List Key)) (ws : List W) : D.noK (.dit ks ws) = true := by rw [D.noK]
@[simp] theorem noK_obj (C : Addr) (fs : List Str) (ws : List W) : D.noK (.obj C fs ws) = true := by rw [D.noK]
@[simp] theorem noK_set (S : Int → Bool) (n : Nat) : D.noK (.set S n) = true := by rw [D.noK]
@[simp] theorem noK_unn : D.noK .un = true := by rw [D.noK]
@[simp] theorem noK_kt (ks : List Key) : D.noK (.kt ks) = false := by rw [D.noK]
@[simp] theorem noK_lstP (p : Addr) (ws : List W) : D.noK (.lstP p ws) = true := by rw [D.noK]
@[simp] theorem noK_ditP (p : Addr) (ks : List (List Key)) (ws : List W) : D.noK (.ditP p ks ws) = true := by rw [D.noK]
@[simp] theorem noK_nobj (p C : Addr) (fs : List Str) (ds : List D) : D.noK (.nobj p C fs ds) = D.noKL ds := by rw [D.noK]
@[simp] theorem noK_nlst (ds : List D) : D.noK (.nlst ds) = D.noKL ds := by rw [D.noK]
@[simp] theorem noK_ntup (ds : List D) : D.noK (.ntup ds) = D.noKL ds := by rw [D.noK]
@[simp] theorem noKL_nil : D.noKL [] = true := by rw [D.noKL]
@[simp] theorem noKL_cons (d : D) (ds : List D) : D.noKL (d :: ds) = (d.noK && D.noKL ds) := by rw [D.noKL]
@[simp ↓] theorem unK_sh (w : W) : unK (.sh w) = .sh w := by simp [unK]
@[simp ↓] theorem unK_lst (ws : List W) : unK (.lst ws) = .lst ws := by simp [unK]
@[simp ↓] theorem unK_dic (ks : List Key) (ws : List W) : unK (.dic ks ws) = .dic ks ws := by simp [unK]
@[simp ↓] theorem unK_dit (ks : List (List Key)) (ws : List W) : unK (.dit ks ws) = .dit ks ws := by simp [unK]
@[simp ↓] theorem unK_un : unK .un = .un := by simp [unK]
@[simp ↓] theorem unK_kt (ks : List Key) : unK (.kt ks) = .un := by simp [unK]
@[simp ↓] theorem offK_nil : offK [] = [] := rfl
@[simp ↓] theorem offK_cons (d : D) (ρ : List D) : offK (d :: ρ) = unK d :: offK ρ := rfl
@[simp] theorem kV_l (i : Int) : kV (.inl i) = .int i := rfl
end R
namespace R
open PySem PySem.Spec PyProof.Rows L2 G
section
variable {X : L2.Cx}
end
end R
namespace R
open PySem PySem.Spec PyProof.Rows L2 G
section
variable {K : PySem.W.Frag} {c : Cx K}
end
end R
namespace R
open PySem PySem.Spec PyProof.Rows L2 G
section
variable {prog : Program} {w : World} {A : Around} {E : Value → Shared → Prop} {s : Shared} {z TI TO i1 i2 : Addr} {fp1 fp2 : List Addr} {n1 n2 i : Nat} {P1 P2 : Nat → Value → Prop} {St1 St2 : Nat → Heap → Prop} {a1 a2 : Value}
end
section
variable {prog : Program} {w : World} {A : Around} {E : Value → Shared → Prop} {s : Shared} {z TI TO i1 i2 : Addr} {fp1 fp2 : List Addr} {n1 n2 i : Nat} {P1 P2 : Nat → Value → Prop} {St1 St2 : Nat → Heap → Prop} {a1 a2 : Value}
end
end R
namespace R
open PySem PySem.Spec PyProof.Rows L2 G
section
variable {K : PySem.W.Frag} {c : Cx K}
end
end R
namespace R
open PySem PySem.Spec PyProof.Rows L2 G
section
variable {K : PySem.W.Frag} {c : Cx K}
end
end R
namespace R
open PySem PySem.Spec PyProof.Rows L2 G
end R
namespace R
open PySem PySem.Spec PyProof.Rows L2 G
section
variable {K : PySem.W.Frag} {c : Cx K}
end
end R
namespace R
open PySem PySem.Spec PyProof.Rows L2 G
section
variable {K : PySem.W.Frag} {c : Cx K}
theorem atI_nat {xs : List V} {j : Nat} {u : V} (hu : xs[j]? = some u) : atI xs (j : Int) = some u := by
 unfold L2.atI ixN
 have := get_lt hu
 simp [this]
 rw [List.getElem?_eq_getElem (get_lt hu)] at hu
 exact Option.some.inj hu
end
end R
namespace R
open PySem PySem.Spec PyProof.Rows L2 G
section
variable {K : PySem.W.Frag} {c : Cx K}
end
end R
namespace R
open PySem PySem.Spec PyProof.Rows L2 G
section
variable {K : PySem.W.Frag} {c : Cx K}
end
end R
namespace R
open PySem PySem.Spec PyProof.Rows L2 G
section
variable {K : PySem.W.Frag} {c : Cx K}
theorem Only.len {sl : List Nat} {σ σ' : L2.St} (h : Only sl σ σ') : σ'.length = σ.length := by
 have q := congrArg List.length (h sl fun i hi => hi)
 rwa [wipe_length, wipe_length] at q
theorem Only.snoc {sl : List Nat} {σ σ' : L2.St} (h : Only sl σ σ') (o : Option V) : Only sl (σ ++ [o]) (σ' ++ [o]) := fun vs hv => by
 have hl := h.len
 apply List.ext_getElem?
 intro i
 rw [wipe_get, wipe_get]
 by_cases hi : i < σ.length
 ·rw [List.getElem?_append_left hi, List.getElem?_append_left (by omega)]
  have q := congrArg (fun z => z[i]?) (h vs hv)
  simp only [wipe_get] at q
  exact q
 ·rw [List.getElem?_append_right (by omega), List.getElem?_append_right (by omega), hl]
end
end R
namespace R
open PySem PySem.Spec PyProof.Rows L2 G
section
variable {K : PySem.W.Frag} {c : Cx K}
end
end R
namespace R
open PySem PySem.Spec PyProof.Rows L2 G
section
variable {K : PySem.W.Frag} {c : Cx K}
end
end R
namespace R
open PySem PySem.Spec PyProof.Rows L2 G
section
variable {Pr : Program} {wd : World} {Ar : Around} {Ex : Value → Shared → Prop} {sh : Shared}
end
section
variable {K : PySem.W.Frag} {c : Cx K}
end
end R
namespace R
open PySem PySem.Spec PyProof.Rows L2 G
section
variable {K : PySem.W.Frag} {c : Cx K}
end
end R
namespace R
open PySem PySem.Spec PyProof.Rows L2 G
section
variable {K : PySem.W.Frag} {c : Cx K}
end
end R
namespace R
open PySem PySem.Spec PyProof.Rows L2 G
section
variable {K : PySem.W.Frag} {c : Cx K}
end
end R
namespace R
open PySem PySem.Spec PyProof.Rows L2 G
section
variable {K : PySem.W.Frag} {A : Ad}
end
section
variable {P : Program} {w : World} {K : PySem.W.Frag} {mg : Str → Option Value} {base : Heap} {k : Nat} {x : Str} {ps N : List Str} {st : Stmt} {A : Ad}
end
end R
namespace R
open PySem PySem.Spec PyProof.Rows L2 G
section
variable {K : PySem.W.Frag} {c : Cx K}
end
end R
namespace R
open PySem PySem.Spec PyProof.Rows L2 G
section
variable {K : PySem.W.Frag} {c : Cx K}
end
end R
namespace R
open PySem PySem.Spec PyProof.Rows L2 G
section
variable {X : L2.Cx} {op op' : CmpOp} {ops : List CmpOp} {a e e' : Expr} {es : List Expr} {r : R2} {ta te : TE} {tc : V → TE} {pos : Pos}
end
section
variable {K : PySem.W.Frag} {c : Cx K}
end
end R
namespace R
open PySem PySem.Spec PyProof.Rows L2 G
section
variable {prog : Program} {w : World} {A : Around} {R : Result → Shared → Prop} {E : Value → Shared → Prop} {s : Shared} {z TI TO i1 i2 : Addr} {fp1 fp2 : List Addr} {n1 n2 i : Nat} {P1 P2 : Nat → Value → Prop} {St1 St2 : Nat → Heap → Prop}
end
section
variable {prog : Program} {w : World} {A : Around} {E : Value → Shared → Prop} {s : Shared} {z TI TO i1 i2 : Addr} {fp1 fp2 : List Addr} {n1 n2 i : Nat} {P1 P2 : Nat → Value → Prop} {St1 St2 : Nat → Heap → Prop}
end
end R
namespace R
open PySem PySem.Spec PyProof.Rows L2 G
section
variable {X : L2.Cx} {e e2 : Expr} {ta : TA}
end
section
variable {K : PySem.W.Frag} {c : Cx K}
end
end R
namespace R
open PySem PySem.Spec PyProof.Rows L2 G
section
variable {K : PySem.W.Frag} {c : Cx K}
end
end R
namespace R
open PySem PySem.Spec PyProof.Rows L2 G
section
variable {K : PySem.W.Frag} {c : Cx K}
end
end R
namespace G
open PySem PySem.Spec PyProof.Rows L2 PpSet
section
variable {B : L2.Cx}
end
section
variable {X : L2.Cx}
end
end G
namespace R
open PySem PySem.Spec PyProof.Rows L2 G
section
variable {K : PySem.W.Frag} {c : Cx K}
end
section
variable {X : L2.Cx} {elt tg iter tg1 iter1 : Expr} {ifs ifs1 : List Expr} {scope : Scope} {own : List (PySem.Str × Nat)} {pos : Pos} {wi wi1 : TI} {g g1 : TG} {tt tt1 : TT} {te : TE} {vs vs1 : List Nat}
end
end R
namespace R
open PySem PySem.Spec PyProof.Rows L2 G
section
variable {K : PySem.W.Frag} {c : Cx K}
end
end R
namespace R
open PySem PySem.Spec PyProof.Rows L2 G
section
variable {K : PySem.W.Frag} {c : Cx K}
end
end R
namespace R
open PySem PySem.Spec PyProof.Rows L2 G
section
variable {K : PySem.W.Frag} {c : Cx K}
end
end R
namespace R
open PySem PySem.Spec PyProof.Rows L2 G
section
variable {K : PySem.W.Frag} {c : Cx K}
end
end R
namespace R
open PySem PySem.Spec PyProof.Rows L2 G
def turnQ {α : Type} (i : Int) (xs : List α) : List α := if i = 1 then xs else xs.reverse
section
variable {K : PySem.W.Frag} {c : Cx K}
theorem RepL.turn {b : Addr} {F : Hp} {us : List V} {ws : List W} (r : RepL K b F us ws) (i : Int) : RepL K b F (turnQ i us) (turnQ i ws) := by
 unfold turnQ
 split
 ·exact r
 ·exact r.rev
end
end R
namespace R
open PySem PySem.Spec PyProof.Rows L2 G
section
variable {X : L2.Cx} {elt tg iter tg1 iter1 : Expr} {ifs ifs1 : List Expr} {scope : Scope} {own : List (PySem.Str × Nat)} {pos : Pos} {wi wi1 : TI} {g g1 : TG} {tt tt1 : TT} {te : TE} {vs vs1 : List Nat}
end
end R
namespace R
open PySem PySem.Spec PyProof.Rows L2 G
section
variable {K : PySem.W.Frag} {c : Cx K}
end
end R
namespace R
open PySem PySem.Spec PyProof.Rows L2 G
section
variable {K : PySem.W.Frag} {c : Cx K}
end
end R
namespace R
open PySem PySem.Spec PyProof.Rows L2 G
section
variable {K : PySem.W.Frag} {c : Cx K}
end
end R
namespace R
open PySem PySem.Spec PyProof.Rows L2 G
section
variable {K : PySem.W.Frag} {c : Cx K}
end
end R
namespace R
open PySem PySem.Spec PyProof.Rows L2 G
section
variable {K : PySem.W.Frag} {c : Cx K}
end
end R
namespace R
open PySem PySem.Spec PyProof.Rows L2 G
section
variable {K : PySem.W.Frag} {c : Cx K}
end
end R
namespace R
open PySem PySem.Spec PyProof.Rows L2 G
section
variable {K : PySem.W.Frag} {c : Cx K}
end
end R
namespace R
open PySem PySem.Spec PyProof.Rows L2 G
section
variable {K : PySem.W.Frag} {c : Cx K}
end
end R
namespace R
open PySem PySem.Spec PyProof.Rows L2 G
section
variable {K : PySem.W.Frag} {c : Cx K}
end
end R
namespace R
open PySem PySem.Spec PyProof.Rows L2 G
section
variable {K : PySem.W.Frag} {c : Cx K}
variable {P : Program} {w : World} {mg : Str → Option Value} {base : Heap} {x : Str} {ps N : List Str} {st : Stmt}
end
end R
namespace R
open PySem PySem.Spec PyProof.Rows L2 G
section
variable {X : L2.Cx} {kx vx tg iter : Expr} {ifs : List Expr} {scope : Scope} {own : List (PySem.Str × Nat)} {pos : Pos} {wi : TI} {g : TG} {tt : TT} {tk tv : TE} {vs : List Nat}
end
end R
namespace L2
open PySem PySem.W PySem.Spec PySem.Calls PyProof.Rows PyProof.V
section
variable {P : Program} {w : World} {K : PySem.W.Frag} {tg : Expr} {d : Addr} {o : Obj} {es : Array DictEntry} {ep : Nat}
end
end L2
namespace R
open PySem PySem.Spec PyProof.Rows L2 G
section
variable {K : PySem.W.Frag} {c : Cx K}
end
end R
namespace R
open PySem PySem.Spec PyProof.Rows L2 G
section
variable {K : PySem.W.Frag} {c : Cx K}
end
end R
namespace R
open PySem PySem.Spec PyProof.Rows L2 G
section
variable {K : PySem.W.Frag} {c : Cx K}
end
end R
namespace R
open PySem PySem.Spec PyProof.Rows L2 G
section
variable {K : PySem.W.Frag} {c : Cx K}
end
end R
namespace R
open PySem PySem.Spec PyProof.Rows L2 G
section
variable {K : PySem.W.Frag} {c : Cx K} {F H : Hp} {σ : L2.St} {ρ : List D} {ts : List (V × D)}
end
section
variable {K : PySem.W.Frag}
end
end R
namespace R
open PySem PySem.Spec PyProof.Rows L2 G
section
variable {K : PySem.W.Frag} {c : Cx K}
end
end R
namespace R
open PySem PySem.Spec PyProof.Rows L2 G
section
variable {K : PySem.W.Frag} {c : Cx K}
def rStrOf : List V → Hp → VK → Prop := fun xs H Q => ∃ i, xs = [.int i] ∧ i.natAbs.log2 < 1920 ∧ Q (.str (toString i)) H
theorem kstrOf {X : L2.Cx} : CallR X (.type "str") rStrOf := call_str_int
def bStr : List W → (D → Prop) → Prop := fun xs k => match xs with
 | [.v (.int i)] => i.natAbs.log2 < 1920 ∧ k (.str (toString i))
 | _ => False
instance : SC c rStrOf bStr where
 sim {F H σ ρ ts xs ws Q Qp} rl hx h k := by
  unfold bStr at h
  split at h
  next i =>
   obtain ⟨x, rfl, hv⟩ := hx.one
   cases hv.flat
   exact ⟨i, rfl, h.1, k _ _ _ _ (rl.pushS (.v _)) h.2⟩
  next => exact h.elim
end
@[simp ↓] theorem bStr_i (i : Int) (k : D → Prop) : bStr [.v (.int i)] k = (i.natAbs.log2 < 1920 ∧ k (.str (toString i))) := by rw [bStr]
end R
namespace R
open PySem PySem.Spec PyProof.Rows L2 G
section
variable {K : PySem.W.Frag} {c : Cx K}
end
end R
namespace R
open PySem PySem.Spec PyProof.Rows L2 G
section
variable {K : PySem.W.Frag} {c : Cx K}
end
end R
namespace R
open PySem PySem.Spec PyProof.Rows L2 G
section
variable {K : PySem.W.Frag} {c : Cx K}
end
end R
namespace R
open PySem PySem.Spec PyProof.Rows L2 G
section
variable {K : PySem.W.Frag} {c : Cx K}
end
end R
namespace R
open PySem PySem.Spec PyProof.Rows L2 G
section
variable {K : PySem.W.Frag} {c : Cx K}
end
end R
namespace R
open PySem PySem.Spec PyProof.Rows L2 G
section
variable {K : PySem.W.Frag} {c : Cx K}
end
end R
namespace R
open PySem PySem.Spec PyProof.Rows L2 G
section
variable {P : Program} {w : World} {K : PySem.W.Frag} {mg : Str → Option Value} {base : Heap} {k : Nat} {x kw : Str} {dv : V} {ps N : List Str} {st : Stmt} {A : Ad}
end
section
variable {X : L2.Cx} {W : WX} {k : Nat} {x kw : Str} {dv : V} {ps : List Str} {sp : Sp} {p pos : Pos} {e : Expr} {es : List Expr} {kws : List Keyword} {t tk : TA}
end
section
variable {K : PySem.W.Frag} {c : R.Cx K} {A : Ad}
end
end R
namespace R
open PySem PySem.Spec PyProof.Rows L2 G
section
variable {X : L2.Cx} {W : WX} {k : Nat} {C : Addr} {ps : List Str} {sp : Sp} {m : Str} {o e : Expr} {es : List Expr} {ta : TE} {t : TA} {apos pos : Pos}
end
section
variable {K : PySem.W.Frag} {c : R.Cx K} {A : Ad}
end
section
variable {P : Program} {w : World} {K : PySem.W.Frag} {mg : Str → Option Value} {base : Heap} {k : Nat} {x q : Str} {C : Addr} {ps N : List Str} {st : Stmt} {A : Ad}
end
end R
namespace R
open PySem PySem.Spec PyProof.Rows L2 G
section
variable {X : L2.Cx} {W : WX} {k : Nat} {C : Addr} {ps : List Str} {sp : Sp} {x : Str} {e : Expr} {es : List Expr} {t : TA} {p pos : Pos}
end
section
variable {K : PySem.W.Frag} {A : Ad}
variable {c : R.Cx K}
end
section
variable {P : Program} {w : World} {K : PySem.W.Frag} {mg : Str → Option Value} {base : Heap} {k : Nat} {x q : Str} {C : Addr} {ps N : List Str} {st : Stmt} {A : Ad}
end
end R
namespace L2
open PySem PySem.W PySem.Spec PySem.Calls PyProof.Rows PyProof.V
section
variable {X : Cx}
end
end L2
namespace R
open PySem PySem.Spec PyProof.Rows L2 G
section
variable {K : PySem.W.Frag} {c : Cx K}
end
end R
namespace G
open PySem PySem.Spec PyProof.Rows L2
section
variable {prog : Program} {w : World} {A : Around} {E : Value → Shared → Prop} {s : Shared}
end
section
variable {X : Cx}
end
end G
namespace R
open PySem PySem.Spec PyProof.Rows L2 G
section
variable {K : PySem.W.Frag} {c : Cx K}
end
end R
namespace R
open PySem PySem.Spec PyProof.Rows L2 G
section
variable {K : PySem.W.Frag} {c : Cx K}
end
end R
namespace R
open PySem PySem.Spec PyProof.Rows L2 G
section
variable {M : Model} {prog : Program} {w : World} {A : Around} {E : Value → Shared → Prop} {s : Shared} {K : PySem.W.Frag} {x y C f : Addr} {ox : Obj} {od : Option Obj}
end
section
variable {X : L2.Cx} {cx : CXT} {k : Nat} {C : Addr} {ps : List Str} {sp : Sp} {E : XK}
end
section
variable {K : PySem.W.Frag} {c : Cx K}
end
end R
namespace R
open PySem PySem.Spec PyProof.Rows L2 G
def onStr (w : W) (k : Str → Prop) : Prop := match w with
 | .v (.str a) => k a
 | _ => False
theorem onStr_ex {w : W} {k : Str → Prop} (h : onStr w k) : ∃ a, w = .v (.str a) ∧ k a := by
 unfold onStr at h
 split at h
 next a => exact ⟨a, rfl, h⟩
 next => exact h.elim
@[simp ↓] theorem onStr_e (a : Str) (k : Str → Prop) : onStr (.v (.str a)) k = k a := by rw [onStr]
def strsW : List W → Option (List Str)
 | [] => some []
 | .v (.str s) :: ws => (strsW ws).map (s :: ·)
 | _ => none
theorem strsW_map : ∀ ys : List Str, strsW (ys.map fun s => .v (.str s)) = some ys
 | [] => rfl
 | y :: ys => by rw [List.map_cons, strsW, strsW_map ys]; rfl
section
variable {K : PySem.W.Frag} {c : Cx K}
theorem strsW_of {b : Addr} {F : Hp} : ∀ {ws : List W} {us : List V} {ys : List Str}, RepL K b F us ws → strsW ws = some ys → us = ys.map V.str
 | [], _, ys, .nil, h => by rw [strsW] at h; cases h; rfl
 | w :: ws, _, ys, .cons a r, h => by
  unfold strsW at h
  split at h
  next => rename_i e; cases e
  next s ws' e =>
   cases e
   cases e2 : strsW ws with
   | none => rw [e2] at h; cases h
   | some zs =>
    rw [e2] at h
    cases h
    cases a
    rw [strsW_of r e2]; rfl
  next => cases h
def rJoin (K : PySem.W.Frag) : V → List V → Hp → VK → Prop := fun x xs H Q => ∃ a p, ∃ ys : List Str, x = .str a ∧ xs = [.ref p] ∧ (SqL K H p (ys.map V.str) ∨ SqT K H p (ys.map V.str)) ∧ (ys.map (·.length)).sum + ys.length * a.length ≤ 16777216 ∧ Q (.str (Txt.join a ys)) H
theorem kjoin (K : PySem.W.Frag) {X : L2.Cx} (h : X.K = K := by rfl) : MtR X "str.join" (rJoin K) := by subst h; exact mt_join
def joW (a : Str) (u : W) (k : Str → Prop) : Prop := match u with
 | .lst ws => match strsW ws with
  | some ys => (ys.map (·.length)).sum + ys.length * a.length ≤ 16777216 ∧ k (Txt.join a ys)
  | none => False
 | _ => False
def qJoin (τo τa : TQ) : TQ := fun ρ Q => τo ρ fun ρ1 d => lookD d fun w => onStr w fun a => τa ρ1 fun ρ2 d2 => lookD d2 fun u => joW a u fun s => Q ρ2 (.str s)
instance {to ta : TE} {τo τa : TQ} [SE c to τo] [SE c ta τa] : SE c (tBM K "str" (rJoin K) to (tCons ta tNil)) (qJoin τo τa) where
 sim {F H σ ρ ts Q Qp} rl h k := SE.simW (t := to) (τ := τo) (Qp := fun ρ1 w => onStr w fun a => τa ρ1 fun ρ2 d2 => lookD d2 fun u => joW a u fun s => Qp ρ2 (.str s)) rl h fun v w ρ1 F1 H1 r1 q1 => by
  obtain ⟨a, rfl, q1⟩ := onStr_ex q1
  have ev := r1.topS.flat
  subst ev
  refine ⟨rfl, SE.simW (t := ta) (τ := τa) (Qp := fun ρ2 u => joW a u fun s => Qp ρ2 (.str s)) r1 q1 fun v2 u ρ2 F2 H2 r2 q2 => ?_⟩
  unfold joW at q2
  split at q2
  next ws =>
   split at q2
   next ys e =>
    cases r2.topS with
    | lst hp rr =>
     have eu := strsW_of rr e
     subst eu
     exact ⟨a, _, ys, rfl, rfl, .inl (sql_up r2.fr.fh (SqL.of hp)), q2.1, k _ _ _ _ _ (r2.pop.pop.pushS (.v _)) q2.2⟩
   next => exact q2.elim
  next => exact q2.elim
def rSplit : V → List V → Hp → VK → Prop := fun x xs H Q => ∃ a b, x = .str a ∧ xs = [.str b] ∧ (b.length == 0) = false ∧ a.length + 2 ≤ sizeLine ∧ rNewStrs (Txt.split a b) H Q
theorem ksplit {X : L2.Cx} : MtR X "str.split" rSplit := mt_split
def qSplit (τo τa : TQ) : TQ := fun ρ Q => τo ρ fun ρ1 d => lookD d fun w => onStr w fun a => τa ρ1 fun ρ2 d2 => lookD d2 fun u => onStr u fun b => ((b.length == 0) = false ∧ a.length ≤ 100000) ∧ Q ρ2 (.lst ((Txt.split a b).map fun s => .v (.str s)))
theorem rep_strs {b : Addr} {F : Hp} : ∀ ys : List Str, RepL K b F (ys.map V.str) (ys.map fun s => .v (.str s))
 | [] => .nil
 | y :: ys => .cons (.v _) (rep_strs ys)
instance {to ta : TE} {τo τa : TQ} [SE c to τo] [SE c ta τa] : SE c (tBM K "str" rSplit to (tCons ta tNil)) (qSplit τo τa) where
 sim {F H σ ρ ts Q Qp} rl h k := SE.simW (t := to) (τ := τo) (Qp := fun ρ1 w => onStr w fun a => τa ρ1 fun ρ2 d2 => lookD d2 fun u => onStr u fun b => ((b.length == 0) = false ∧ a.length ≤ 100000) ∧ Qp ρ2 (.lst ((Txt.split a b).map fun s => .v (.str s)))) rl h fun v w ρ1 F1 H1 r1 q1 => by
  obtain ⟨a, rfl, q1⟩ := onStr_ex q1
  have ev := r1.topS.flat
  subst ev
  refine ⟨rfl, SE.simW (t := ta) (τ := τa) (Qp := fun ρ2 u => onStr u fun b => ((b.length == 0) = false ∧ a.length ≤ 100000) ∧ Qp ρ2 (.lst ((Txt.split a b).map fun s => .v (.str s)))) r1 q1 fun v2 u ρ2 F2 H2 r2 q2 => ?_⟩
  obtain ⟨b, rfl, q2⟩ := onStr_ex q2
  have e2 := r2.topS.flat
  subst e2
  exact ⟨a, b, rfl, rfl, q2.1.1, by rw [sizeLine_eq]; have := q2.1.2; omega, fun p hp => k _ _ _ _ _ (r2.pop.pop.newO hp (own_lst (rep_strs _))) q2.2⟩
def rSIndex : V → List V → Hp → VK → Prop := fun x xs H Q => ∃ a b i rest, x = .str a ∧ xs = [.str b] ∧ Builtin.Str.occurrences a b 0 a.length 1 = i :: rest ∧ Q (.int (i : Nat)) H
theorem ksindex {X : L2.Cx} : MtR X "str.index" rSIndex := mt_sindex
def siW (a b : Str) (k : Nat → Prop) : Prop := match Builtin.Str.occurrences a b 0 a.length 1 with
 | i :: _ => k i
 | [] => False
def qSIndex (τo τa : TQ) : TQ := fun ρ Q => τo ρ fun ρ1 d => lookD d fun w => onStr w fun a => τa ρ1 fun ρ2 d2 => lookD d2 fun u => onStr u fun b => siW a b fun i => Q ρ2 (.int (i : Int))
instance {to ta : TE} {τo τa : TQ} [SE c to τo] [SE c ta τa] : SE c (tBM K "str" rSIndex to (tCons ta tNil)) (qSIndex τo τa) where
 sim {F H σ ρ ts Q Qp} rl h k := SE.simW (t := to) (τ := τo) (Qp := fun ρ1 w => onStr w fun a => τa ρ1 fun ρ2 d2 => lookD d2 fun u => onStr u fun b => siW a b fun i => Qp ρ2 (.int (i : Int))) rl h fun v w ρ1 F1 H1 r1 q1 => by
  obtain ⟨a, rfl, q1⟩ := onStr_ex q1
  have ev := r1.topS.flat
  subst ev
  refine ⟨rfl, SE.simW (t := ta) (τ := τa) (Qp := fun ρ2 u => onStr u fun b => siW a b fun i => Qp ρ2 (.int (i : Int))) r1 q1 fun v2 u ρ2 F2 H2 r2 q2 => ?_⟩
  obtain ⟨b, rfl, q3⟩ := onStr_ex q2
  have e2 := r2.topS.flat
  subst e2
  unfold siW at q3
  split at q3
  next i rest e => exact ⟨a, b, i, rest, rfl, rfl, e, k _ _ _ _ _ (r2.pop.pop.pushS (.v _)) q3⟩
  next => exact q3.elim
def hasS (j i : Str) : Bool := !(Builtin.Str.occurrences j i 0 j.length 1).isEmpty
def rInS (neg : Bool) : R2 := fun x y H Q => ∃ i j, x = .str i ∧ y = .str j ∧ Q (.bl (neg != hasS j i)) H
theorem kinS {X : L2.Cx} : OpR X (compareOp .In) (rInS false) := fun pins s σ H x y v u Q I rx ry ⟨i, j, e1, e2, q⟩ => op_in_str pins s σ H x y v u Q I rx ry ⟨i, j, e1, e2, by rw [Bool.false_bne] at q; exact q⟩
theorem kninS {X : L2.Cx} : OpR X (compareOp .NotIn) (rInS true) := fun pins s σ H x y v u Q I rx ry ⟨i, j, e1, e2, q⟩ => op_notin_str pins s σ H x y v u Q I rx ry ⟨i, j, e1, e2, by rw [Bool.true_bne] at q; exact q⟩
def oInS (neg : Bool) : W → W → (D → Prop) → Prop := fun x y k => onStr x fun i => onStr y fun j => k (.bl (neg != hasS j i))
instance {neg : Bool} : SOp c (rInS neg) (oInS neg) where
 sim {F H σ ρ ts x y w u Q Qp} rl hx hy h k := by
  obtain ⟨i, rfl, h1⟩ := onStr_ex h
  obtain ⟨j, rfl, h2⟩ := onStr_ex h1
  exact ⟨i, j, hx.flat, hy.flat, k _ _ _ _ (rl.pushS (.v _)) h2⟩
def qSlS (ta : TVQ) (tl th : TOQ) : TQ := fun ρ Q => ta ρ fun ρ1 p => tl ρ1 fun ρ2 lo => th ρ2 fun ρ3 hi => look ρ3 p fun w => onStr w fun z => z.length ≤ 100000 ∧ Q ρ3 (.str (cutS z lo hi))
instance {ta : TE} {tl th : TO} {τa : TVQ} {τl τh : TOQ} [SV c ta τa] [SO c tl τl] [SO c th τh] : SE c (tSl rSlS ta tl th) (qSlS τa τl τh) where
 sim {F H σ ρ ts Q Qp} rl h k := SV.sim (t := ta) rl h fun v p ρ1 F1 H1 ts1 p1 r1 q1 => SO.sim (t := tl) r1 q1 fun lo ρ2 F2 H2 r2 q2 => SO.sim (t := th) r2 q2 fun hi ρ3 F3 H3 r3 q3 => by
  obtain ⟨w, hw, q⟩ := r3.see p1.has.1 q3
  obtain ⟨z, rfl, q⟩ := onStr_ex q
  have ev := hw.flat
  subst ev
  exact ⟨z, rfl, by rw [sizeLine_eq]; have := q.1; omega, k _ _ _ _ _ (p1.back (r3.pushS (.v _))) q.2⟩
def fmW (w : W) (k : Str → Prop) : Prop := match w with
 | .v (.str y) => y.length ≤ 100000 ∧ k y
 | .v (.int i) => i.natAbs.log2 < 1920 ∧ k (toString i)
 | _ => False
def qFmt (τ : TQ) : TQ := fun ρ Q => τ ρ fun ρ1 d => lookD d fun w => fmW w fun s => Q ρ1 (.str s)
instance {t : TE} {τ : TQ} [SE c t τ] : SE c (tFmt t) (qFmt τ) where
 sim {F H σ ρ ts Q Qp} rl h k := SE.simW (t := t) (τ := τ) (Qp := fun ρ1 w => fmW w fun s => Qp ρ1 (.str s)) rl h fun v w ρ1 F1 H1 r1 q1 => by
  unfold fmW at q1
  split at q1
  next y =>
   have ev := r1.topS.flat
   exact .inl ⟨y, ev, by rw [sizeLine_eq]; have := q1.1; omega, k _ _ _ _ _ (r1.pop.pushS (.v _)) q1.2⟩
  next i =>
   have ev := r1.topS.flat
   exact .inr ⟨i, ev, q1.1, k _ _ _ _ _ (r1.pop.pushS (.v _)) q1.2⟩
  next => exact q1.elim
abbrev TJQ := Str → List D → (List D → Str → Prop) → Prop
class SJs (c : Cx K) (ts : List TE) (τ : outParam TJQ) : Prop where
 sim : ∀ {F H : Hp} {σ : L2.St} {ρ : List D} {tt : List (V × D)} {acc : Str} {Q : Str → Hp → Prop} {Qp : List D → Str → Prop}, Rel c F H σ ρ tt → τ acc ρ Qp → (∀ s ρ' F' H', Rel c F' H' σ ρ' tt → Qp ρ' s → Q s H') → tJs ts acc σ H Q
instance : SJs c [] (fun acc ρ Q => Q ρ acc) where
 sim rl h k := k _ _ _ _ rl h
def jsC (τ : TQ) (υ : TJQ) : TJQ := fun acc ρ Q => τ ρ fun ρ1 d => lookD d fun w => onStr w fun y => (acc ++ y).length ≤ 100000 ∧ υ (acc ++ y) ρ1 Q
instance {t : TE} {τ : TQ} {es : List TE} {υ : TJQ} [SE c t τ] [SJs c es υ] : SJs c (t :: es) (jsC τ υ) where
 sim {F H σ ρ tt acc Q Qp} rl h k := SE.simW (t := t) (τ := τ) (Qp := fun ρ1 w => onStr w fun y => (acc ++ y).length ≤ 100000 ∧ υ (acc ++ y) ρ1 Qp) rl h fun v w ρ1 F1 H1 r1 q1 => by
  obtain ⟨y, rfl, hl, q1⟩ := onStr_ex q1
  have ev := r1.topS.flat
  subst ev
  exact ⟨y, rfl, by rw [sizeLine_eq]; omega, SJs.sim (ts := es) r1.pop q1 k⟩
def tJoined (ts : List TE) : TE := fun σ H Q => tJs ts Str.empty σ H fun out H1 => Q (.str out) H1
def qJoined (υ : TJQ) : TQ := fun ρ Q => υ Str.empty ρ fun ρ1 s => Q ρ1 (.str s)
instance {ts : List TE} {υ : TJQ} [SJs c ts υ] : SE c (tJoined ts) (qJoined υ) where
 sim {F H σ ρ tt Q Qp} rl h k := SJs.sim (ts := ts) rl h fun s ρ' F' H' r q => k _ _ _ _ _ (r.pushS (.v _)) q
theorem kjoined {X : L2.Cx} {v1 v2 : Expr} {rest : List Expr} {ts : List TE} {pos : Pos} (h : PJ X (v1 :: v2 :: rest) ts) : PE X (.JoinedStr (v1 :: v2 :: rest) pos) (tJoined ts) := pe_joined h
def rIntS : List V → Hp → VK → Prop := fun xs H Q => ∃ a n, xs = [.str a] ∧ PySem.intText? a = some n ∧ a.length ≤ 640 ∧ Q (.int n) H
theorem kintS {X : L2.Cx} : CallR X (.type "int") rIntS := call_int_str
def bIntS : List W → (D → Prop) → Prop := fun xs k => match xs with
 | [w] => onStr w fun a => match PySem.intText? a with
  | some n => a.length ≤ 640 ∧ k (.int n)
  | none => False
 | _ => False
instance : SC c rIntS bIntS where
 sim {F H σ ρ ts xs ws Q Qp} rl hx h k := by
  unfold bIntS at h
  split at h
  next w =>
   obtain ⟨a, rfl, h1⟩ := onStr_ex h
   obtain ⟨x, rfl, hv⟩ := hx.one
   cases hv.flat
   split at h1
   next n e => exact ⟨a, n, rfl, e, h1.1, k _ _ _ _ (rl.pushS (.v _)) h1.2⟩
   next => exact h1.elim
  next => exact h.elim
end
@[simp ↓] theorem qJoin_e (τo τa : TQ) (ρ : List D) (Q : KQ) : qJoin τo τa ρ Q = (τo ρ fun ρ1 d => lookD d fun w => onStr w fun a => τa ρ1 fun ρ2 d2 => lookD d2 fun u => joW a u fun s => Q ρ2 (.str s)) := by rw [qJoin]
@[simp ↓] theorem joW_l (a : Str) (ys : List Str) (k : Str → Prop) : joW a (.lst (ys.map fun s => .v (.str s))) k = ((ys.map (·.length)).sum + ys.length * a.length ≤ 16777216 ∧ k (Txt.join a ys)) := by
 unfold joW
 simp only [strsW_map]
@[simp ↓] theorem qSplit_e (τo τa : TQ) (ρ : List D) (Q : KQ) : qSplit τo τa ρ Q = (τo ρ fun ρ1 d => lookD d fun w => onStr w fun a => τa ρ1 fun ρ2 d2 => lookD d2 fun u => onStr u fun b => ((b.length == 0) = false ∧ a.length ≤ 100000) ∧ Q ρ2 (.lst ((Txt.split a b).map fun s => .v (.str s)))) := by rw [qSplit]
@[simp ↓] theorem qSIndex_e (τo τa : TQ) (ρ : List D) (Q : KQ) : qSIndex τo τa ρ Q = (τo ρ fun ρ1 d => lookD d fun w => onStr w fun a => τa ρ1 fun ρ2 d2 => lookD d2 fun u => onStr u fun b => siW a b fun i => Q ρ2 (.int (i : Int))) := by rw [qSIndex]
@[simp ↓] theorem oInS_e (neg : Bool) (i j : Str) (k : D → Prop) : oInS neg (.v (.str i)) (.v (.str j)) k = k (.bl (neg != hasS j i)) := by rw [oInS, onStr_e, onStr_e]
@[simp ↓] theorem qSlS_e (ta : TVQ) (tl th : TOQ) (ρ : List D) (Q : KQ) : qSlS ta tl th ρ Q = (ta ρ fun ρ1 p => tl ρ1 fun ρ2 lo => th ρ2 fun ρ3 hi => look ρ3 p fun w => onStr w fun z => z.length ≤ 100000 ∧ Q ρ3 (.str (cutS z lo hi))) := by rw [qSlS]
@[simp ↓] theorem qFmt_e (τ : TQ) (ρ : List D) (Q : KQ) : qFmt τ ρ Q = (τ ρ fun ρ1 d => lookD d fun w => fmW w fun s => Q ρ1 (.str s)) := by rw [qFmt]
@[simp ↓] theorem fmW_s (y : Str) (k : Str → Prop) : fmW (.v (.str y)) k = (y.length ≤ 100000 ∧ k y) := by rw [fmW]
@[simp ↓] theorem fmW_i (i : Int) (k : Str → Prop) : fmW (.v (.int i)) k = (i.natAbs.log2 < 1920 ∧ k (toString i)) := by rw [fmW]
@[simp ↓] theorem qJoined_e (υ : TJQ) (ρ : List D) (Q : KQ) : qJoined υ ρ Q = υ Str.empty ρ fun ρ1 s => Q ρ1 (.str s) := by rw [qJoined]
@[simp ↓] theorem jsC_e (τ : TQ) (υ : TJQ) (acc : Str) (ρ : List D) (Q : List D → Str → Prop) : jsC τ υ acc ρ Q = (τ ρ fun ρ1 d => lookD d fun w => onStr w fun y => (acc ++ y).length ≤ 100000 ∧ υ (acc ++ y) ρ1 Q) := by rw [jsC]
@[simp ↓] theorem bIntS_s (a : Str) (k : D → Prop) : bIntS [.v (.str a)] k = (match PySem.intText? a with | some n => a.length ≤ 640 ∧ k (.int n) | none => False) := by rw [bIntS, onStr_e]
end R
namespace R
open PySem PySem.Spec PyProof.Rows L2 G
section
variable {K : PySem.W.Frag} {c : Cx K}
def tOrS (K : PySem.W.Frag) (ta tb : TE) : TE := tOrT K ta tb
theorem korS (K : PySem.W.Frag) {X : L2.Cx} {a b : Expr} {ta tb : TE} {rest : List Expr} {pos : Pos} (ha : PE X a ta) (hb : PE X (.BoolOp .Or (b :: rest) pos) tb) (hK : X.K = K := by rfl) : PE X (.BoolOp .Or (a :: b :: rest) pos) (tOrS K ta tb) := korT K ha hb hK
def qOrS (ta tb : TQ) : TQ := fun ρ Q => ta ρ fun ρ1 d => lookD d fun w => onStr w fun a => a.length ≤ 100000 ∧ if a.length = 0 then tb ρ1 Q else Q ρ1 (.str a)
instance {ta tb : TE} {τa τb : TQ} [SE c ta τa] [SE c tb τb] : SE c (tOrS K ta tb) (qOrS τa τb) where
 sim {F H σ ρ ts Q Qp} rl h k := SE.simW (t := ta) (τ := τa) (Qp := fun ρ1 w => onStr w fun a => a.length ≤ 100000 ∧ if a.length = 0 then τb ρ1 Qp else Qp ρ1 (.str a)) rl h fun v w ρ1 F1 H1 r1 q1 => by
  obtain ⟨a, rfl, hl, q2⟩ := onStr_ex q1
  have ev := r1.topS.flat
  subst ev
  by_cases z : a.length = 0
  ·rw [if_pos z] at q2
   refine ⟨false, ⟨by rw [sizeLine_eq]; omega, by simp [z]⟩, ?_⟩
   rw [if_neg (fun z => nomatch z)]
   exact SE.sim (t := tb) r1.pop q2 k
  ·rw [if_neg z] at q2
   refine ⟨true, ⟨by rw [sizeLine_eq]; omega, by simp [z]⟩, ?_⟩
   rw [if_pos rfl]
   exact k _ _ _ _ _ r1 q2
end
@[simp ↓] theorem qOrS_e (ta tb : TQ) (ρ : List D) (Q : KQ) : qOrS ta tb ρ Q = (ta ρ fun ρ1 d => lookD d fun w => onStr w fun a => a.length ≤ 100000 ∧ if a.length = 0 then tb ρ1 Q else Q ρ1 (.str a)) := by rw [qOrS]
end R
namespace R
open PySem PySem.Spec PyProof.Rows L2 G
def p_read_integer_e0 (A : Ad) : TQ :=
  (qOp (oInS false) (vVar 1) (vE (qC (.str "0123456789"))))
def p_read_integer (A : Ad) : TSQ :=
  (sSeq (sIf (qOr (qNot (qB (qChain (oI0 fun i j => .bl (decide (i ≤ j))) (oI0 fun i j => .bl (decide (i ≤ j))) (vE (qC (.int 1))) (vE (qCB bLen (vCons (vVar 0) vNil))) (vE (qC (.int 40)))))) (qNot (qB (qCB bAll (vCons (vE (qLc (iqSeq (qVar 0)) (gqName 1) qYes (p_read_integer_e0 A) [1])) vNil))))) (sRet (qC .non)) sNext)
  (sSeq (sIf (qAnd (qB (qOp (oEq false) (vE (qOp oIx (vVar 0) (vE (qC (.int 0))))) (vE (qC (.str "0"))))) (qB (qOp (oI0 fun i j => .bl (decide (j < i))) (vE (qCB bLen (vCons (vVar 0) vNil))) (vE (qC (.int 1)))))) (sRet (qC .non)) sNext)
  (sRet (qCB bIntS (vCons (vVar 0) vNil)))))
def f_read_integer (A : Ad) : PF := runF (p_read_integer A) 1
def p_read_integers_g0 (A : Ad) : TGQ :=
  (gqName 3)
def p_read_integers_b0 (A : Ad) : TSQ :=
  (sSeq (sIf (qB (qOp (oInS true) (vVar 3) (vVar 0))) (sRet (qC .non)) sNext)
  (sSeq (sAsg (qSIndex (qVar 0) (qVar 3)) (gqName 4))
  (sSeq (sDrop (qAppend 2 (qCall (f_read_integer A) 1 (aCons (qSlS (vVar 0) oNone (oPart (qVar 4))) aNil))))
  (sAsg (qSlS (vVar 0) (oPart (qOp oPlus (vVar 4) (vE (qC (.int 1))))) oNone) (gqName 0)))))
def p_read_integers (A : Ad) : TSQ :=
  (sSeq (sAsg (qLst aNil) (gqName 2))
  (sSeq (sFor (iqSeq (qVar 1)) (p_read_integers_g0 A) (p_read_integers_b0 A))
  (sSeq (sDrop (qAppend 2 (qCall (f_read_integer A) 1 (aCons (qVar 0) aNil))))
  (sRet (qIf (qB (qOp (oIn false) (vE (qC .non)) (vVar 2))) (qC .non) (qCB bTup (vCons (vVar 2) vNil)))))))
def f_read_integers (A : Ad) : PF := runF (p_read_integers A) 3
def p_read_words_e0 (A : Ad) : TQ :=
  (qCall (f_read_integers A) 2 (aCons (qVar 3) (aCons (qVar 1) aNil)))
def p_read_words (A : Ad) : TSQ :=
  (sSeq (sIf (qB (qOp (oEq false) (vVar 0) (vE (qC (.str "-"))))) (sRet (qLst aNil)) sNext)
  (sSeq (sAsg (qLc (iqSeq (qSplit (qVar 0) (qC (.str " ")))) (gqName 3) qYes (p_read_words_e0 A) [3]) (gqName 2))
  (sSeq (sIf (qB (qOp (oIn false) (vE (qC .non)) (vVar 2))) sNever sNext)
  (sRetV 2))))
def f_read_words (A : Ad) : PF := runF (p_read_words A) 2
def p_read_cluster (A : Ad) : TSQ :=
  (sSeq (sAsg (qIf (qB (qCB bIsi (vCons (vVar 0) (vCons (vE (qC (.ty "str"))) vNil)))) (qSplit (qVar 0) (qC (.str "; "))) (qLst aNil)) (gqName 1))
  (sSeq (sIf (qB (qOp (oEq true) (vE (qCB bLen (vCons (vVar 1) vNil))) (vE (qC (.int 2))))) sNever sNext)
  (sSeq (sPar 2 3 (qCall (f_read_words A) 2 (aCons (qOp oIx (vVar 1) (vE (qC (.int 0)))) (aCons (qC (.str "-")) aNil))) (qCall (f_read_words A) 2 (aCons (qOp oIx (vVar 1) (vE (qC (.int 1)))) (aCons (qC (.str ":*")) aNil))))
  (sSeq (sIf (qOr (qNot (qB (qCall (f_are_bounds A) 1 (aCons (qVar 2) aNil)))) (qNot (qB (qCall (f_are_bundles A) 2 (aCons (qVar 3) (aCons (qCB bLen (vCons (vVar 2) vNil)) aNil)))))) sNever sNext)
  (sRet (qMake A.Cluster (f_Clusteru_initu A) (aCons (qVar 2) (aCons (qVar 3) aNil))))))))
def f_read_cluster (A : Ad) : PF := runF (p_read_cluster A) 3
def p__law_leads_text_e0 (A : Ad) : TQ :=
  (qCB bStr (vCons (vVar 1) vNil))
def p__law_leads_text (A : Ad) : TSQ :=
  (sRet (qOrS (qJoin (qC (.str " ")) (qLc (iqSeq (qVar 0)) (gqName 1) qYes (p__law_leads_text_e0 A) [1])) (qC (.str "-"))))
def f__law_leads_text (A : Ad) : PF := runF (p__law_leads_text A) 1
def p__law_any_plan_g0 (A : Ad) : TGQ :=
  (gqName 4)
def p__law_any_plan_b0 (A : Ad) : TSQ :=
  (sSeq (sAsg (qCall f_take 2 (aCons (qVar 0) (aCons (qC (.int 10)) aNil))) (gqName 5))
  (sSeq (sAsg (qOp oIx (vE (qLst (aCons (qC (.int 1)) (aCons (qOp (oI CPow fun i j => .int (i ^ j.toNat)) (vE (qC (.int 10))) (vE (qC (.int 18)))) (aCons (qOp oPlus (vE (qC (.int 1))) (vE (qCall f_take 2 (aCons (qVar 0) (aCons (qOp (oI CPow fun i j => .int (i ^ j.toNat)) (vE (qC (.int 10))) (vE (qC (.int 18)))) aNil))))) aNil))))) (vE (qCall f_take 2 (aCons (qVar 0) (aCons (qC (.int 3)) aNil))))) (gqName 6))
  (sDrop (qAppend 3 (qTup (aCons (qVar 5) (aCons (qOp (oI (fun _ j => 0 < j) fun i j => .int (i % j)) (vE (qOp oPlus (vE (qOp oPlus (vVar 5) (vE (qC (.int 1))))) (vE (qCall f_take 2 (aCons (qVar 0) (aCons (qC (.int 9)) aNil)))))) (vE (qC (.int 10)))) (aCons (qVar 6) aNil))))))))
def p__law_any_plan_g1 (A : Ad) : TGQ :=
  (gqName 2)
def p__law_any_plan_b1 (A : Ad) : TSQ :=
  (sSeq (sAsg (qLst aNil) (gqName 3))
  (sSeq (sFor (iqRng1 (vCons (vE (qOp oPlus (vE (qC (.int 1))) (vE (qCall f_take 2 (aCons (qVar 0) (aCons (qC (.int 3)) aNil)))))) vNil)) (p__law_any_plan_g0 A) (p__law_any_plan_b0 A))
  (sDrop (qAppend 1 (qTup (aCons (qOp oIx (vE (qLst (aCons (qC (.int 1)) (aCons (qOp (oI CPow fun i j => .int (i ^ j.toNat)) (vE (qC (.int 10))) (vE (qC (.int 18)))) (aCons (qOp oPlus (vE (qC (.int 1))) (vE (qCall f_take 2 (aCons (qVar 0) (aCons (qC (.int 99)) aNil))))) aNil))))) (vE (qCall f_take 2 (aCons (qVar 0) (aCons (qC (.int 3)) aNil))))) (aCons (qVar 3) aNil)))))))
def p__law_any_plan (A : Ad) : TSQ :=
  (sSeq (sAsg (qLst aNil) (gqName 1))
  (sSeq (sFor (iqRng1 (vCons (vE (qCall f_take 2 (aCons (qVar 0) (aCons (qC (.int 4)) aNil)))) vNil)) (p__law_any_plan_g1 A) (p__law_any_plan_b1 A))
  (sRetV 1)))
def f__law_any_plan (A : Ad) : PF := runF (p__law_any_plan A) 6
def p_read_block_e0 (A : Ad) : TQ :=
  (qCall (f_read_integers A) 2 (aCons (qVar 4) (aCons (qC (.str ">*")) aNil)))
def p_read_block (A : Ad) : TSQ :=
  (sSeq (sAsg (qSplit (qVar 0) (qC (.str " "))) (gqName 1))
  (sSeq (sAsg (qCall (f_read_integer A) 1 (aCons (qOp oIx (vVar 1) (vE (qC (.int 0)))) aNil)) (gqName 2))
  (sSeq (sAsg (qLc (iqSeq (qSl (vVar 1) (oPart (qC (.int 1))) oNone)) (gqName 4) qYes (p_read_block_e0 A) [4]) (gqName 3))
  (sSeq (sIf (qOr (qB (qOp (oIsN false) (vVar 2) (vE (qC .non)))) (qOr (qB (qOp (oEq false) (vVar 3) (vE (qLst aNil)))) (qB (qOp (oIn false) (vE (qC .non)) (vVar 3))))) sNever sNext)
  (sRet (qTup (aCons (qVar 2) (aCons (qVar 3) aNil))))))))
def f_read_block (A : Ad) : PF := runF (p_read_block A) 4
def p_read_plan_e0 (A : Ad) : TQ :=
  (qCall (f_read_block A) 1 (aCons (qVar 2) aNil))
def p_read_plan (A : Ad) : TSQ :=
  (sSeq (sIf (qNot (qB (qCB bIsi (vCons (vVar 0) (vCons (vE (qC (.ty "str"))) vNil))))) sNever sNext)
  (sSeq (sAsg (qIf (qB (qOp (oEq true) (vVar 0) (vE (qC (.str "-"))))) (qLc (iqSeq (qSplit (qVar 0) (qC (.str "; ")))) (gqName 2) qYes (p_read_plan_e0 A) [2]) (qLst aNil)) (gqName 1))
  (sSeq (sIf (qNot (qB (qCB (bF 2 (f_are_blocks A)) (vCons (vVar 1) (vCons (vE (qC (.int 10))) vNil))))) sNever sNext)
  (sRetV 1))))
def f_read_plan (A : Ad) : PF := runF (p_read_plan A) 2
def p__law_plan_text_e0 (A : Ad) : TQ :=
  (qOp oPlus (vE (qOp oPlus (vE (qOp oPlus (vE (qOp oPlus (vE (qCB bStr (vCons (vVar 5) vNil))) (vE (qC (.str ">"))))) (vE (qCB bStr (vCons (vVar 6) vNil))))) (vE (qC (.str "*"))))) (vE (qCB bStr (vCons (vVar 7) vNil))))
def p__law_plan_text_g0 (A : Ad) : TGQ :=
  (gqTup 2 (gqCons (gqName 2) (gqCons (gqName 3) gqNil)))
def p__law_plan_text_b0 (A : Ad) : TSQ :=
  (sSeq (sAsg (qLc (iqSeq (qVar 3)) (gqTup 3 (gqCons (gqName 5) (gqCons (gqName 6) (gqCons (gqName 7) gqNil)))) qYes (p__law_plan_text_e0 A) [5, 6, 7]) (gqName 4))
  (sDrop (qAppend 1 (qJoin (qC (.str " ")) (qOp oPlus (vE (qLst (aCons (qCB bStr (vCons (vVar 2) vNil)) aNil))) (vVar 4))))))
def p__law_plan_text (A : Ad) : TSQ :=
  (sSeq (sAsg (qLst aNil) (gqName 1))
  (sSeq (sFor (iqSeq (qVar 0)) (p__law_plan_text_g0 A) (p__law_plan_text_b0 A))
  (sRet (qOrS (qJoin (qC (.str "; ")) (qVar 1)) (qC (.str "-"))))))
def f__law_plan_text (A : Ad) : PF := runF (p__law_plan_text A) 7
def p_spaced (A : Ad) : TSQ :=
  (sRet (qIf (qB (qOp (oEq true) (vVar 0) (vE (qLst aNil)))) (qJoin (qC (.str " ")) (qVar 0)) (qC (.str "-"))))
def f_spaced (A : Ad) : PF := runF (p_spaced A) 0
def p_show_plan_e0 (A : Ad) : TQ :=
  (qJoined (jsC (qFmt (qVar 4)) (jsC (qC (.str ">")) (jsC (qFmt (qVar 5)) (jsC (qC (.str "*")) (jsC (qFmt (qVar 6)) (fun acc ρ Q => Q ρ acc)))))))
def p_show_plan_g0 (A : Ad) : TGQ :=
  (gqTup 2 (gqCons (gqName 2) (gqCons (gqName 3) gqNil)))
def p_show_plan_b0 (A : Ad) : TSQ :=
  (sDrop (qAppend 1 (qCall (f_spaced A) 1 (aCons (qOp oPlus (vE (qLst (aCons (qCB bStr (vCons (vVar 2) vNil)) aNil))) (vE (qLc (iqSeq (qVar 3)) (gqTup 3 (gqCons (gqName 4) (gqCons (gqName 5) (gqCons (gqName 6) gqNil)))) qYes (p_show_plan_e0 A) [4, 5, 6]))) aNil))))
def p_show_plan (A : Ad) : TSQ :=
  (sSeq (sAsg (qLst aNil) (gqName 1))
  (sSeq (sFor (iqSeq (qVar 0)) (p_show_plan_g0 A) (p_show_plan_b0 A))
  (sRet (qIf (qB (qOp (oEq true) (vVar 1) (vE (qLst aNil)))) (qJoin (qC (.str "; ")) (qVar 1)) (qC (.str "-"))))))
def f_show_plan (A : Ad) : PF := runF (p_show_plan A) 6
def p__law_plans_right_e0 (A : Ad) : TQ :=
  (qTup (aCons (qOp oPlus (vE (qC (.int 1))) (vVar 7)) (aCons (qLst (aCons (qCall (f__law_run A) 3 (aCons (qVar 0) (aCons (qVar 1) (aCons (qC (.bl true)) aNil)))) aNil)) aNil)))
def p__law_plans_right_g0 (A : Ad) : TGQ :=
  (gqName 3)
def p__law_plans_right_b0 (A : Ad) : TSQ :=
  (sSeq (sPar 4 5 (qCall (f__law_plan_text A) 1 (aCons (qVar 3) aNil)) (qCB bRepr (vCons (vVar 3) vNil)))
  (sSeq (sIf (qOr (qNot (qB (qCB (bF 2 (f__law_alike A)) (vCons (vE (qLst (aCons (qCall (f_show_plan A) 1 (aCons (qVar 3) aNil)) (aCons (qCall (f_read_plan A) 1 (aCons (qVar 4) aNil)) aNil)))) (vCons (vE (qLst (aCons (qVar 4) (aCons (qVar 3) aNil)))) vNil))))) (qB (qOp (oEqF true) (vE (qCB bRepr (vCons (vVar 3) vNil))) (vVar 5)))) (sRet (qC (.bl false))) sNext)
  (sSeq (sAsg (qCall (f_read_plan A) 1 (aCons (qVar 4) aNil)) (gqName 6))
  (sSeq (sDrop (qAppend 6 (qC .non)))
  (sIf (qNot (qB (qCB (bF 2 (f__law_alike A)) (vCons (vE (qCall (f_read_plan A) 1 (aCons (qVar 4) aNil))) (vCons (vVar 3) vNil))))) (sRet (qC (.bl false))) sNext)))))
def p__law_plans_right_c0 (A : Ad) : TSQ :=
  (sSeq (sFor (iqSeq (qVar 2)) (p__law_plans_right_g0 A) (p__law_plans_right_b0 A))
  (sRet (qC (.bl true))))
def p__law_plans_right (A : Ad) : TSQ :=
  (sSeq (sAsg (qLst (aCons (qCall (f__law_any_plan A) 1 (aCons (qVar 0) aNil)) (aCons (qLst aNil) (aCons (qLc (iqRng1 (vCons (vE (qC (.int 3))) vNil)) (gqName 7) qYes (p__law_plans_right_e0 A) [7]) aNil)))) (gqName 2))
  (sSeq (sIf (qB (qOp (oEq false) (vE (qCall f_take 2 (aCons (qVar 0) (aCons (qC (.int 6)) aNil)))) (vE (qC (.int 0))))) (sDrop (qAppend 2 (qOp oTimes (vE (qLst (aCons (qTup (aCons (qC (.int 1)) (aCons (qLst (aCons (qCall (f__law_run A) 3 (aCons (qVar 0) (aCons (qVar 1) (aCons (qC (.bl false)) aNil)))) aNil)) aNil))) aNil))) (vE (qC (.int 400)))))) sNext)
  (p__law_plans_right_c0 A)))
def f__law_plans_right (A : Ad) : PF := runF (p__law_plans_right A) 6
def p__law_text_e0 (A : Ad) : TQ :=
  (qOp oPlus (vE (qOp oPlus (vE (qCB bStr (vCons (vVar 7) vNil))) (vE (qC (.str "-"))))) (vE (qCB bStr (vCons (vVar 8) vNil))))
def p__law_text_e1 (A : Ad) : TQ :=
  (qOp oPlus (vE (qOp oPlus (vE (qOp oPlus (vE (qOp oPlus (vE (qCB bStr (vCons (vVar 4) vNil))) (vE (qC (.str ":"))))) (vE (qCB bStr (vCons (vVar 5) vNil))))) (vE (qC (.str "*"))))) (vE (qCB bStr (vCons (vVar 6) vNil))))
def p__law_text (A : Ad) : TSQ :=
  (sSeq (sAsg (qJoin (qC (.str " ")) (qLc (iqSeq (qVar 0)) (gqTup 2 (gqCons (gqName 7) (gqCons (gqName 8) gqNil))) qYes (p__law_text_e0 A) [7, 8])) (gqName 2))
  (sSeq (sAsg (qLc (iqSeq (qVar 1)) (gqTup 3 (gqCons (gqName 4) (gqCons (gqName 5) (gqCons (gqName 6) gqNil)))) qYes (p__law_text_e1 A) [4, 5, 6]) (gqName 3))
  (sRet (qOp oPlus (vE (qOp oPlus (vVar 2) (vE (qC (.str "; "))))) (vE (qOrS (qJoin (qC (.str " ")) (qVar 3)) (qC (.str "-"))))))))
def f__law_text (A : Ad) : PF := runF (p__law_text A) 7
def p_show_cluster_e0 (A : Ad) : TQ :=
  (qJoined (jsC (qFmt (qVar 3)) (jsC (qC (.str "-")) (jsC (qFmt (qVar 4)) (fun acc ρ Q => Q ρ acc)))))
def p_show_cluster_e1 (A : Ad) : TQ :=
  (qJoined (jsC (qFmt (qVar 5)) (jsC (qC (.str ":")) (jsC (qFmt (qVar 6)) (jsC (qC (.str "*")) (jsC (qFmt (qVar 7)) (fun acc ρ Q => Q ρ acc)))))))
def p_show_cluster (A : Ad) : TSQ :=
  (sSeq (sAsg (qCall (f_spaced A) 1 (aCons (qLc (iqSeq (qMeth A.Cluster "bounds" (f_Cluster_bounds A) 0 (qVar 0) aNil)) (gqTup 2 (gqCons (gqName 3) (gqCons (gqName 4) gqNil))) qYes (p_show_cluster_e0 A) [3, 4]) aNil)) (gqName 1))
  (sSeq (sAsg (qCall (f_spaced A) 1 (aCons (qLc (iqSeq (qMeth A.Cluster "bundles" (f_Cluster_bundles A) 0 (qVar 0) aNil)) (gqTup 3 (gqCons (gqName 5) (gqCons (gqName 6) (gqCons (gqName 7) gqNil)))) qYes (p_show_cluster_e1 A) [5, 6, 7]) aNil)) (gqName 2))
  (sRet (qOp oPlus (vE (qOp oPlus (vVar 1) (vE (qC (.str "; "))))) (vVar 2)))))
def f_show_cluster (A : Ad) : PF := runF (p_show_cluster A) 7
def p_show_set_e0 (A : Ad) : TQ :=
  (qCB bStr (vCons (vVar 1) vNil))
def p_show_set (A : Ad) : TSQ :=
  (sRet (qCall (f_spaced A) 1 (aCons (qLc (iqSeq (qVar 0)) (gqName 1) qYes (p_show_set_e0 A) [1]) aNil)))
def f_show_set (A : Ad) : PF := runF (p_show_set A) 1
def p_show_leads_e0 (A : Ad) : TQ :=
  (qCB bStr (vCons (vVar 1) vNil))
def p_show_leads (A : Ad) : TSQ :=
  (sRet (qCall (f_spaced A) 1 (aCons (qLc (iqSeq (qVar 0)) (gqName 1) qYes (p_show_leads_e0 A) [1]) aNil)))
def f_show_leads (A : Ad) : PF := runF (p_show_leads A) 1
def p_read_leads_e0 (A : Ad) : TQ :=
  (qOp oIx (vVar 2) (vE (qC (.int 0))))
def p_read_leads_e1 (A : Ad) : TQ :=
  (qOp (oI0 fun i j => .bl (decide (j < i))) (vVar 3) (vE (qC (.int 1000000000000000000))))
def p_read_leads (A : Ad) : TSQ :=
  (sSeq (sIf (qNot (qB (qCB bIsi (vCons (vVar 0) (vCons (vE (qC (.ty "str"))) vNil))))) sNever sNext)
  (sSeq (sAsg (qCB bTup (vCons (vE (qLc (iqSeq (qCall (f_read_words A) 2 (aCons (qVar 0) (aCons (qC (.str "")) aNil)))) (gqName 2) qYes (p_read_leads_e0 A) [2])) vNil)) (gqName 1))
  (sSeq (sIf (qOr (qB (qOp (oI0 fun i j => .bl (decide (j < i))) (vE (qCB bLen (vCons (vVar 1) vNil))) (vE (qC (.int 45))))) (qB (qCB bAny (vCons (vE (qLc (iqSeq (qVar 1)) (gqName 3) qYes (p_read_leads_e1 A) [3])) vNil)))) sNever sNext)
  (sRetV 1))))
def f_read_leads (A : Ad) : PF := runF (p_read_leads A) 3
def p_law_k92_g0 (A : Ad) : TGQ :=
  (gqName 7)
def p_law_k92_b0 (A : Ad) : TSQ :=
  (sSeq (sPar 8 9 (qMake A.Cluster (f_Clusteru_initu A) (aCons (qVar 3) (aCons (qVar 7) aNil))) (qCall (f__law_text A) 2 (aCons (qVar 3) (aCons (qVar 7) aNil))))
  (sSeq (sAsg (qCall (f_read_cluster A) 1 (aCons (qVar 9) aNil)) (gqName 10))
  (sSeq (sIf (qOr (qNot (qB (qCB (bF 2 (f__law_alike A)) (vCons (vE (qCall (f_show_cluster A) 1 (aCons (qVar 8) aNil))) (vCons (vVar 9) vNil))))) (qOr (qNot (qB (qCB (bIsC A.Cluster) (vCons (vVar 10) (vCons (vE (qC (.ref A.Cluster))) vNil))))) (qB (qCmpO true A.Cluster (f_Clusteru_equ A) (qVar 10) (qVar 8))))) (sRet (qC (.bl false))) sNext)
  (sIf (qOr (qB (qOp (oEq true) (vE (qCall (f_show_cluster A) 1 (aCons (qVar 10) aNil))) (vVar 9))) (qB (qOp (oEq true) (vE (qMeth A.Cluster "bounds" (f_Cluster_bounds A) 0 (qVar 10) aNil)) (vVar 3)))) (sRet (qC (.bl false))) sNext))))
def p_law_k92_e0 (A : Ad) : TQ :=
  (qCall f_take 2 (aCons (qVar 1) (aCons (qOp oPlus (vE (qOp oIx (vVar 15) (vE (qC (.int 2))))) (vE (qC (.int 1)))) aNil)))
def p_law_k92_g1 (A : Ad) : TGQ :=
  (gqName 7)
def p_law_k92_b1 (A : Ad) : TSQ :=
  (sSeq (sAsg (qCall (f__law_leads_text A) 1 (aCons (qVar 7) aNil)) (gqName 9))
  (sIf (qNot (qB (qCB (bF 2 (f__law_alike A)) (vCons (vE (qLst (aCons (qCall (f_show_leads A) 1 (aCons (qVar 7) aNil)) (aCons (qCall (f_read_leads A) 1 (aCons (qVar 9) aNil)) aNil)))) (vCons (vE (qLst (aCons (qVar 9) (aCons (qVar 7) aNil)))) vNil))))) (sRet (qC (.bl false))) sNext))
def p_law_k92_e1 (A : Ad) : TQ :=
  (qVar 14)
def p_law_k92_t0 (A : Ad) : TTQ :=
  (qB (qOp (oEq false) (vE (qCall f_take 2 (aCons (qVar 1) (aCons (qC (.int 2)) aNil)))) (vE (qC (.int 0)))))
def p_law_k92_c0 (A : Ad) : TSQ :=
  (sIf (qNot (qB (qCall (f__law_plans_right A) 2 (aCons (qVar 1) (aCons (qVar 4) aNil))))) (sRet (qC (.bl false))) sNext)
def p_law_k92_c1 (A : Ad) : TSQ :=
  (sSeq (sAsg (qLc (iqRng1 (vCons (vE (qCB bLen (vCons (vVar 3) vNil))) vNil)) (gqName 14) (p_law_k92_t0 A) (p_law_k92_e1 A) [14]) (gqName 12))
  (sSeq (sAsg (qCB bList (vCons (vVar 12) vNil)) (gqName 13))
  (sSeq (sIf (qOr (qNot (qB (qCB (bF 2 (f__law_alike A)) (vCons (vE (qCall (f_show_set A) 1 (aCons (qVar 13) aNil))) (vCons (vE (qCall (f__law_leads_text A) 1 (aCons (qVar 12) aNil))) vNil))))) (qB (qOp (oEq true) (vVar 13) (vVar 12)))) (sRet (qC (.bl false))) sNext)
  (p_law_k92_c0 A))))
def p_law_k92_c2 (A : Ad) : TSQ :=
  (sSeq (sFor (iqSeq (qLst (aCons (qVar 5) (aCons (qVar 11) (aCons (qTup aNil) aNil))))) (p_law_k92_g1 A) (p_law_k92_b1 A))
  (p_law_k92_c1 A))
def p_law_k92_c3 (A : Ad) : TSQ :=
  (sSeq (sAsg (qCB bTup (vCons (vE (qLc (iqSeq (qVar 4)) (gqName 15) qYes (p_law_k92_e0 A) [15])) vNil)) (gqName 11))
  (p_law_k92_c2 A))
def p_law_k92_c4 (A : Ad) : TSQ :=
  (sSeq (sFor (iqSeq (qLst (aCons (qVar 4) (aCons (qLst aNil) (aCons (qSl (vVar 4) oNone (oPart (qC (.int 1)))) aNil))))) (p_law_k92_g0 A) (p_law_k92_b0 A))
  (p_law_k92_c3 A))
def p_law_k92_g2 (A : Ad) : TGQ :=
  (gqName 2)
def p_law_k92_b2 (A : Ad) : TSQ :=
  (sSeq (sAsg (qCall (f__law_net_1 A) 3 (aCons (qVar 1) (aCons (qC (.int 10)) (aCons (qC (.bl true)) aNil)))) (gqTup 3 (gqCons (gqName 3) (gqCons (gqName 4) (gqCons (gqName 5) gqNil)))))
  (sSeq (sAsg (qCall f_take 2 (aCons (qVar 1) (aCons (qCB bLen (vCons (vVar 3) vNil)) aNil))) (gqName 6))
  (sSeq (sAsg (qOp oIx (vE (qLst (aCons (qOp oIx (vVar 3) (vVar 6)) (aCons (qTup (aCons (qC (.int 0)) (aCons (qOp (oI CPow fun i j => .int (i ^ j.toNat)) (vE (qC (.int 10))) (vE (qC (.int 30)))) aNil))) (aCons (qTup (aCons (qOp (oI CPow fun i j => .int (i ^ j.toNat)) (vE (qC (.int 10))) (vE (qC (.int 30)))) (aCons (qOp (oI CPow fun i j => .int (i ^ j.toNat)) (vE (qC (.int 10))) (vE (qC (.int 30)))) aNil))) aNil))))) (vE (qCall f_take 2 (aCons (qVar 1) (aCons (qC (.int 3)) aNil))))) (gqSub 3 (qVar 6)))
  (p_law_k92_c4 A))))
def p_law_k92 (A : Ad) : TSQ :=
  (sSeq (sFor (iqRng1 (vCons (vE (qC (.int 4))) vNil)) (p_law_k92_g2 A) (p_law_k92_b2 A))
  (sRet (qC (.bl true))))
end R
namespace R
open PySem PySem.Spec PyProof.Rows L2 G TL
def asc (s : Str) : Prop := ∀ c ∈ tl s, c < 128
theorem asc.ok {s : Str} (h : asc s) : PyData.strOk s = true := by
 unfold PyData.strOk
 rw [Array.all_eq_true']
 intro c hc
 have := h c (Array.mem_toList_iff.mpr hc)
 exact decide_eq_true (by omega)
theorem asc.app {a b : Str} (h : asc a) (k : asc b) : asc (a ++ b) := fun c hc => by
 rw [tl_append] at hc
 exact (List.mem_append.mp hc).elim (h c) (k c)
def nS (n : Nat) : Str := Str.ofString (toString ((n : Nat) : Int))
theorem tl_nS (n : Nat) : tl (nS n) = numL n := tl_num n
theorem nS_len {n k : Nat} (hk : 0 < k) (h : n < 10 ^ k) : (nS n).length ≤ k := by
 rw [len_tl, tl_nS]; exact numL_len hk h
theorem nS_pos (n : Nat) : 1 ≤ (nS n).length := by
 rw [len_tl, tl_nS]; exact List.length_pos_iff.mpr (numL_ne n)
theorem nS_asc (n : Nat) : asc (nS n) := fun c hc => by
 rw [tl_nS] at hc
 have := numL_digits n c hc
 omega
theorem numL_head : ∀ n : Nat, 1 ≤ n → (numL n).head? ≠ some 48 := fun n => by
 induction n using Nat.strongRecOn with
 | _ n ih =>
  intro h1
  by_cases h : n < 10
  ·rw [numL_lt h]
   intro e
   injection e with e
   omega
  ·rw [numL_step (by omega)]
   have ne := numL_ne (n / 10)
   have := ih (n / 10) (by omega) (by omega)
   cases e : numL (n / 10) with
   | nil => exact absurd e ne
   | cons a l => rw [e] at this; exact this
def chS (c : Nat) : Str := ⟨#[c]⟩
theorem hasS_one (x : Str) (c : Nat) : hasS x (chS c) = decide (c ∈ tl x) := PySem.StrLaws.found_one x c
theorem has_dig {c : Nat} (h : 48 ≤ c ∧ c ≤ 57) : hasS "0123456789" (chS c) = true := by
 rw [hasS_one]
 refine decide_eq_true ?_
 have e : tl "0123456789" = [48, 49, 50, 51, 52, 53, 54, 55, 56, 57] := by decide +kernel
 rw [e]
 simp only [List.mem_cons, List.not_mem_nil, or_false]
 omega
theorem strW_e (z : Str) : strW z = (tl z).map fun c => .v (.str (chS c)) := rfl
@[simp ↓] theorem bLen_s (z : Str) (k : D → Prop) : bLen [.v (.str z)] k = (z.length ≤ 100000 ∧ k (.int (z.length : Int))) := by rw [bLen]
@[simp ↓] theorem oIx_s (z : Str) (i : Int) (k : D → Prop) : oIx (.v (.str z)) (.v (.int i)) k = (z.length ≤ 100000 ∧ onC (atI z.cps.toList i) (fun ch => k (.str (chS ch))) ⟨⟩) := by
 unfold oIx onC
 rfl
section
variable {A : Ad}
theorem f_rint_eq {n : Nat} (h : n < 10 ^ 40) {Q : D → Prop} : f_read_integer A [.v (.str (nS n))] Q = Q (.int (n : Int)) := by
 have l1 := nS_pos n
 have l2 := nS_len (by decide) h
 have iv : PySem.intText? (nS n) = some (n : Int) := int_num (by have := numL_len (k := 40) (by decide) h; omega)
 have lc : ∀ k, qLcL (gqName 1) qYes (p_read_integer_e0 A) [1] k (strW (nS n)) [.sh (.v (.str (nS n))), .un] [] = k [.sh (.v (.str (nS n))), .un] ((tl (nS n)).map fun _ => W.v (.bl true)) := fun k => by
  rw [strW_e, lcL_map (fun c : Nat => W.v (.str (chS c))) (fun _ => W.v (.bl true)) fun c hm acc ws' => ?_, List.nil_append]
  have hd := has_dig (c := c) (by rw [tl_nS] at hm; exact numL_digits n c hm)
  simp [p_read_integer_e0, hd]
 obtain ⟨a, r, er⟩ : ∃ a r, tl (nS n) = a :: r := by
  cases e : tl (nS n) with
  | nil => rw [len_tl, e] at l1; simp at l1
  | cons a r => exact ⟨a, r, rfl⟩
 have a0 : atI (nS n).cps.toList 0 = some a := by
  show atI (tl (nS n)) 0 = some a
  rw [er]; exact atI_at (n := 0) rfl
 have lz : (nS n).length = r.length + 1 := by rw [len_tl, er]; rfl
 have ad : 48 ≤ a ∧ a ≤ 57 := numL_digits n a (by rw [← tl_nS, er]; exact List.mem_cons_self)
 have ok1 : PyData.strOk (chS a) = true := asc.ok (s := chS a) fun c hc => by
  have : c ∈ [a] := hc
  rw [List.mem_singleton.mp this]; omega
 have z48 : a = 48 → (nS n).length = 1 := fun e => by
  by_cases h0 : n = 0
  ·subst h0; rw [len_tl, tl_nS, numL_lt (by decide)]; rfl
  ·exfalso
   apply numL_head n (by omega)
   rw [← tl_nS, er, e]; rfl
 have g1 : (1 : Int) ≤ ((nS n).length : Int) := by omega
 have g2 : ¬ (40 : Int) < ((nS n).length : Int) := by omega
 have g3 : (nS n).length ≤ 100000 := by omega
 have g4 : (strW (nS n)).length ≤ 100000 := by rw [strW_e, List.length_map, ← len_tl]; omega
 have d0 : PyData.strOk "0" = true := by decide +kernel
 have ow : ∀ m, (W.v (.str (chS a))).ok m = true := fun m => by rw [ok_v]; exact ok1
 have ow0 : ∀ m, (W.v (.str "0")).ok m = true := fun m => by rw [ok_v]; exact d0
 have e0 : (chS a = "0") ↔ a = 48 := ⟨fun e => by
  have := congrArg tl e
  have e1 : tl (chS a) = [a] := rfl
  have e2 : tl "0" = [48] := by decide +kernel
  rw [e1, e2] at this
  injection this, fun e => by rw [e]; decide +kernel⟩
 simp [f_read_integer, p_read_integer, g1, g2, g3, g4]
 rw [lc]
 by_cases z : a = 48
 ·have zl := z48 z
  have vk : vOk (.str (chS 48)) = true := by decide +kernel
  simp [g3, a0, ow, ow0, e0, z, zl, iv, vk]
 ·simp [g3, a0, ow, ow0, e0, z, iv]
  omega
end
end R
namespace R
open PySem PySem.Spec PyProof.Rows L2 G TL
theorem tl_cutS (z : Str) (lo hi : Option Int) : tl (cutS z lo hi) = cutW (tl z) lo hi := by
 unfold cutS cutW
 rw [len_tl]
theorem tl_ch (c : Nat) : tl (chS c) = [c] := rfl
theorem tl_three (x y : Str) (m : Nat) : tl (x ++ chS m ++ y) = tl x ++ m :: tl y := by
 rw [tl_append, tl_append, tl_ch, List.append_assoc]; rfl
theorem cut_to (x y : Str) (m : Nat) : cutS (x ++ chS m ++ y) none (some (x.length : Int)) = x := by
 apply ext_tl
 rw [tl_cutS, cutW_to, tl_three, len_tl, List.take_left]
theorem cut_from (x y : Str) (m : Nat) : cutS (x ++ chS m ++ y) (some ((x.length : Int) + 1)) none = y := by
 apply ext_tl
 rw [tl_cutS]
 refine (cutW_from _ (x.length + 1)).trans ?_
 rw [tl_three, len_tl, ← List.drop_drop, List.drop_left]
 rfl
theorem has_three (x y : Str) (m : Nat) : hasS (x ++ chS m ++ y) (chS m) = true := by
 rw [hasS_one, tl_three]
 exact decide_eq_true (List.mem_append_right _ List.mem_cons_self)
theorem si_three {x y : Str} {m : Nat} (h : m ∉ tl x) (k : Nat → Prop) : siW (x ++ chS m ++ y) (chS m) k = k x.length := by
 have ne : tl (chS m) ≠ [] := by rw [tl_ch]; simp
 have at0 : PySem.StrLaws.At (x ++ chS m ++ y) (chS m) (x ++ chS m ++ y).length x.length := (at_iff ne _).mpr (by
  rw [tl_three, len_tl, List.drop_left, tl_ch]
  exact pre_self [m] _)
 unfold siW
 rcases PySem.StrLaws.occ_head (x ++ chS m ++ y) (chS m) 1 (Nat.le_refl _) with ⟨_, hn⟩ | ⟨i, r, e, hi, hk⟩
 ·exact absurd at0 (hn _)
 ·rw [e]
  have h1 : ¬ x.length < i := fun z => hk _ z at0
  have h2 : ¬ i < x.length := fun z => by
   have := (at_iff ne i).mp hi
   rw [tl_three, tl_ch] at this
   rw [len_tl] at z
   have hg : (tl x ++ m :: tl y).drop i = (tl x)[i] :: (tl x ++ m :: tl y).drop (i + 1) := by
    rw [List.drop_eq_getElem_cons (by rw [List.length_append]; omega), List.getElem_append_left z]
   rw [hg] at this
   have e2 := pre_of_head (s := m) (c := (tl x)[i]) [] ((tl x ++ m :: tl y).drop (i + 1)) (fun e => h (by rw [← e]; exact List.getElem_mem z))
   rw [e2] at this
   cases this
  have : i = x.length := by omega
  subst this
  rfl
def rowS : List Nat → List Nat → Str
 | [], _ => Str.empty
 | a :: as, [] => nS a
 | a :: as, m :: ms => nS a ++ chS m ++ rowS as ms
def mkS (ms : List Nat) : Str := ⟨ms.toArray⟩
theorem tl_mkS (ms : List Nat) : tl (mkS ms) = ms := tl_mk ms
theorem rowS_len : ∀ (as ms : List Nat), (∀ a ∈ as, a < 10 ^ 40) → (rowS as ms).length ≤ 41 * (ms.length + 1)
 | [], ms, _ => by show 0 ≤ _; omega
 | a :: as, [], h => by
  have := nS_len (k := 40) (by decide) (h a List.mem_cons_self)
  show (nS a).length ≤ _
  simp; omega
 | a :: as, m :: ms, h => by
  have h1 := nS_len (k := 40) (by decide) (h a List.mem_cons_self)
  have h2 := rowS_len as ms fun x hx => h x (List.mem_cons_of_mem _ hx)
  show (nS a ++ chS m ++ rowS as ms).length ≤ _
  rw [len_tl, tl_three, List.length_append, List.length_cons, ← len_tl, ← len_tl, List.length_cons]
  omega
abbrev nW (ns : List Nat) : List W := ns.map fun n : Nat => W.v (.int (n : Int))
section
variable {A : Ad}
theorem rints_loop {x1 : D} {rt : D → Prop} {bk ct nx : List D → Prop} : ∀ (as ms acc : List Nat) (x3 x4 : D), as.length = ms.length + 1 → (∀ a ∈ as, a < 10 ^ 40) → (∀ m ∈ ms, m < 48 ∨ 57 < m) → acc.length + as.length ≤ 1000 →
  (∀ x3 x4, nx [.sh (.v (.str (nS (as.getLastD 0)))), x1, .lst (nW (acc ++ as.dropLast)), x3, x4]) →
  qLoop (p_read_integers_g0 A) (p_read_integers_b0 A) { nx := nx, rt := rt, bk := bk, ct := ct } (ms.map fun c => .v (.str (chS c))) [.sh (.v (.str (rowS as ms))), x1, .lst (nW acc), x3, x4]
 | [a], [], acc, x3, x4, _, _, _, _, k => by
  have := k x3 x4
  simpa [rowS] using this
 | a :: b :: as, m :: ms, acc, x3, x4, hl, h40, hm, hs, k => by
  have r1 := fun Q => f_rint_eq (A := A) (Q := Q) (h40 a List.mem_cons_self)
  have l1 := rowS_len (a :: b :: as) (m :: ms) h40
  have mm := hm m List.mem_cons_self
  have nm : m ∉ tl (nS a) := by rw [tl_nS]; exact numL_free mm
  have ih := rints_loop (x1 := x1) (rt := rt) (bk := bk) (ct := ct) (nx := nx) (b :: as) ms (acc ++ [a]) (.sh (.v (.str (chS m)))) (.int ((nS a).length : Int)) (by simpa using hl) (fun x hx => h40 x (List.mem_cons_of_mem _ hx)) (fun x hx => hm x (List.mem_cons_of_mem _ hx)) (by simp at hs ⊢; omega) fun x3 x4 => by
   have := k x3 x4
   simpa using this
  have er : rowS (a :: b :: as) (m :: ms) = nS a ++ chS m ++ rowS (b :: as) ms := rfl
  have h1 := has_three (nS a) (rowS (b :: as) ms) m
  have h2 := fun k => si_three (y := rowS (b :: as) ms) nm k
  have h3 := cut_to (nS a) (rowS (b :: as) ms) m
  have h4 := cut_from (nS a) (rowS (b :: as) ms) m
  have l2 : (rowS (a :: b :: as) (m :: ms)).length ≤ 100000 := by simp at hl hs l1 ⊢; omega
  rw [← er] at h1 h2 h3 h4
  generalize rowS (a :: b :: as) (m :: ms) = w at *
  simp [p_read_integers_g0, p_read_integers_b0, h1, h2, h3, h4, r1, l2]
  have e : nW acc ++ [W.v (.int (a : Int))] = nW (acc ++ [a]) := by simp
  rw [e]
  exact ⟨by simp at hs; omega, ih⟩
 | [], _, _, _, _, hl, _, _, _, _ => by simp at hl
 | [a], m :: ms, _, _, _, hl, _, _, _, _ => by simp at hl
 | a :: b :: as, [], _, _, _, hl, _, _, _, _ => by simp at hl
theorem nW_ok (ns : List Nat) (m : Nat) : (nW ns).all (fun w => w.ok m) = true := by
 rw [List.all_eq_true]
 intro w hw
 obtain ⟨n, _, rfl⟩ := List.mem_map.mp hw
 rw [ok_v]; rfl
theorem nW_non (ns : List Nat) : ((nW ns).any fun z => W.eq z (.v .non)) = false := by
 rw [List.any_eq_false]
 intro w hw
 obtain ⟨n, _, rfl⟩ := List.mem_map.mp hw
 simp
theorem f_rints_eq {as ms : List Nat} (hl : as.length = ms.length + 1) (h40 : ∀ a ∈ as, a < 10 ^ 40) (hm : ∀ m ∈ ms, m < 48 ∨ 57 < m) (hs : ms.length ≤ 10) {Q : D → Prop} (k : Q (.sh (.tup (nW as)))) : f_read_integers A [.v (.str (rowS as ms)), .v (.str (mkS ms))] Q := by
 have lp := fun nx rt k => rints_loop (A := A) (x1 := .sh (.v (.str (mkS ms)))) (nx := nx) (rt := rt) (bk := fun _ => False) (ct := fun _ => False) as ms [] .un .un hl h40 hm (by simp; omega) k
 have sm : strW (mkS ms) = ms.map fun c => .v (.str (chS c)) := by rw [strW_e, tl_mkS]
 have ne : as ≠ [] := by intro z; rw [z] at hl; simp at hl
 obtain ⟨i, l, e⟩ : ∃ i l, as = i ++ [l] := ⟨_, _, (List.dropLast_concat_getLast ne).symm⟩
 have g1 : as.getLastD 0 = l := by rw [e]; simp
 have g2 : as.dropLast = i := by rw [e]; simp
 have r1 := fun Q => f_rint_eq (A := A) (n := l) (Q := Q) (h40 l (by rw [e]; simp))
 have ew : nW as = nW i ++ [W.v (.int (l : Int))] := by rw [e]; simp
 have ok1 := nW_ok as 19
 have non1 := nW_non as
 simp [f_read_integers, p_read_integers, sm]
 refine lp _ _ fun x3 x4 => ?_
 rw [g1, g2, List.nil_append]
 simp [r1]
 refine ⟨by have := congrArg List.length e; simp at this; omega, ?_⟩
 rw [← ew]
 exact k
end
end R
namespace R
open PySem PySem.Spec PyProof.Rows L2 G TL
def joS (y : Str) (ws : List Str) : Str := Txt.join y ws
theorem tl_joS (y : Str) (ws : List Str) : tl (joS y ws) = joinL (tl y) (ws.map tl) := by
 unfold joS
 rw [join_eq, tl_join]
theorem joinL_mem {S : List Nat} : ∀ {ps : List (List Nat)} {c : Nat}, c ∈ joinL S ps → c ∈ S ∨ ∃ p ∈ ps, c ∈ p
 | [], c, h => nomatch h
 | [p], c, h => .inr ⟨p, List.mem_cons_self, h⟩
 | p :: q :: r, c, h => by
  have h : c ∈ p ++ (S ++ joinL S (q :: r)) := h
  rcases List.mem_append.mp h with h | h
  ·exact .inr ⟨p, List.mem_cons_self, h⟩
  ·rcases List.mem_append.mp h with h | h
   ·exact .inl h
   ·rcases joinL_mem h with h | ⟨x, hx, h⟩
    ·exact .inl h
    ·exact .inr ⟨x, List.mem_cons_of_mem _ hx, h⟩
theorem joinL_len {S : List Nat} {B : Nat} : ∀ {ps : List (List Nat)}, (∀ p ∈ ps, p.length ≤ B) → (joinL S ps).length ≤ (B + S.length) * ps.length
 | [], _ => Nat.zero_le _
 | [p], h => by
  have := h p List.mem_cons_self
  show p.length ≤ (B + S.length) * 1
  omega
 | p :: q :: r, h => by
  have h1 := h p List.mem_cons_self
  have h2 := joinL_len (S := S) (ps := q :: r) fun x hx => h x (List.mem_cons_of_mem _ hx)
  show (p ++ (S ++ joinL S (q :: r))).length ≤ _
  rw [List.length_append, List.length_append, List.length_cons, Nat.mul_add]
  omega
theorem joinL_head {S p : List Nat} {ps : List (List Nat)} {c : Nat} (h : p.head? = some c) : (joinL S (p :: ps)).head? = some c := by
 cases p with
 | nil => cases h
 | cons a p =>
  cases ps with
  | nil => exact h
  | cons q r => exact h
theorem joS_len {y : Str} {ws : List Str} {B : Nat} (h : ∀ w ∈ ws, w.length ≤ B) : (joS y ws).length ≤ (B + y.length) * ws.length := by
 rw [len_tl, tl_joS]
 have := joinL_len (S := tl y) (ps := ws.map tl) (B := B) fun p hp => by
  obtain ⟨w, hw, rfl⟩ := List.mem_map.mp hp
  rw [← len_tl]; exact h w hw
 rwa [List.length_map, ← len_tl] at this
theorem joS_asc {y : Str} {ws : List Str} (hy : asc y) (h : ∀ w ∈ ws, asc w) : asc (joS y ws) := fun c hc => by
 rw [tl_joS] at hc
 rcases joinL_mem hc with hc | ⟨p, hp, hc⟩
 ·exact hy c hc
 ·obtain ⟨w, hw, rfl⟩ := List.mem_map.mp hp
  exact h w hw c hc
theorem sum_len {ws : List Str} {B : Nat} (h : ∀ w ∈ ws, w.length ≤ B) : (ws.map (·.length)).sum ≤ B * ws.length := by
 induction ws with
 | nil => exact Nat.zero_le _
 | cons w ws ih =>
  have h1 := h w List.mem_cons_self
  have h2 := ih fun x hx => h x (List.mem_cons_of_mem _ hx)
  rw [List.map_cons, List.sum_cons, List.length_cons, Nat.mul_add, Nat.mul_one]
  omega
abbrev stW (ws : List Str) : List W := ws.map fun s => W.v (.str s)
def spS (ws : List Str) : Str := if ws = [] then "-" else joS " " ws
theorem sp_tl : tl " " = [32] := by decide +kernel
theorem da_tl : tl "-" = [45] := by decide +kernel
section
variable {A : Ad}
theorem f_spaced_eq {ws : List Str} {B : Nat} (h : ∀ w ∈ ws, w.length ≤ B) (ha : ∀ w ∈ ws, asc w) (hb : (B + 1) * ws.length ≤ 100000) {Q : D → Prop} : f_spaced A [.lst (stW ws)] Q = Q (.str (spS ws)) := by
 have jl : (ws.map (·.length)).sum + ws.length * (" " : Str).length ≤ 16777216 := by
  have := sum_len h
  have e : (" " : Str).length = 1 := by decide +kernel
  rw [e]
  rw [Nat.add_mul] at hb
  omega
 have okl : (W.lst (stW ws)).ok 20 = true := by
  rw [ok_lst, List.all_eq_true]
  intro w hw
  obtain ⟨s, hs, rfl⟩ := List.mem_map.mp hw
  rw [ok_v]; exact (ha s hs).ok
 cases ws with
 | nil =>
  simp [f_spaced, p_spaced, spS]
 | cons w ws =>
  have jw := fun k => joW_l " " (w :: ws) k
  generalize hL : stW (w :: ws) = L at *
  have nz : W.eqL L [] = false := by rw [← hL]; rfl
  have okl' : L.all (fun w => w.ok 19) = true := by rw [← ok_lst]; exact okl
  have jw' : ∀ k, joW " " (.lst L) k = (((w :: ws).map (·.length)).sum + (w :: ws).length * (" " : Str).length ≤ 16777216 ∧ k (Txt.join " " (w :: ws))) := fun k => by rw [← hL]; exact joW_l " " (w :: ws) k
  have es : spS (w :: ws) = Txt.join " " (w :: ws) := rfl
  simp [f_spaced, p_spaced, okl', nz, jw', -List.all_eq_true]
  rw [es]
  simp only [List.map_cons, List.sum_cons, List.length_cons] at jl
  exact Iff.intro (fun h => h.2) fun h => ⟨jl, h⟩
end
end R
namespace R
open PySem PySem.Spec PyProof.Rows L2 G TL
theorem rowS_mem : ∀ {as ms : List Nat} {c : Nat}, c ∈ tl (rowS as ms) → (48 ≤ c ∧ c ≤ 57) ∨ c ∈ ms
 | [], _, c, h => by
  have : c ∈ ([] : List Nat) := h
  cases this
 | a :: as, [], c, h => by
  have h : c ∈ tl (nS a) := h
  rw [tl_nS] at h
  exact .inl (numL_digits a c h)
 | a :: as, m :: ms, c, h => by
  have h : c ∈ tl (nS a ++ chS m ++ rowS as ms) := h
  rw [tl_three] at h
  rcases List.mem_append.mp h with h | h
  ·rw [tl_nS] at h
   exact .inl (numL_digits a c h)
  ·rcases List.mem_cons.mp h with rfl | h
   ·exact .inr List.mem_cons_self
   ·exact (rowS_mem h).imp id (List.mem_cons_of_mem _)
theorem rowS_asc {as ms : List Nat} (h : ∀ m ∈ ms, m < 128) : asc (rowS as ms) := fun c hc => (rowS_mem hc).elim (fun z => by omega) (h c)
theorem rowS_head {as ms : List Nat} (h : as.length = ms.length + 1) : ∃ c, (tl (rowS as ms)).head? = some c ∧ 48 ≤ c ∧ c ≤ 57 := by
 cases as with
 | nil => simp at h
 | cons a as =>
  have ne := numL_ne a
  obtain ⟨d, r, e⟩ : ∃ d r, numL a = d :: r := by
   cases e : numL a with
   | nil => exact absurd e ne
   | cons d r => exact ⟨d, r, rfl⟩
  have hd := numL_digits a d (by rw [e]; exact List.mem_cons_self)
  refine ⟨d, ?_, hd⟩
  cases ms with
  | nil =>
   show (tl (nS a)).head? = _
   rw [tl_nS, e]; rfl
  | cons m ms =>
   show (tl (nS a ++ chS m ++ rowS as ms)).head? = _
   rw [tl_three, tl_nS, e]; rfl
theorem tup_ok (ns : List Nat) (m : Nat) : (W.tup (nW ns)).ok (m + 1) = true := by
 rw [ok_tup]; exact nW_ok ns m
theorem sp_all : (" " : Str).cps.all (· < 256) = true := by decide +kernel
theorem lcL_imp {α : Type} {g : TGQ} {tt : TTQ} {te : TQ} {vs : List Nat} {k : List D → List W → Prop} {ρ : List D} (enc f : α → W) : ∀ {xs : List α} {acc : List W}, (∀ x ∈ xs, ∀ acc ws', qLcL g tt te vs k ws' ρ (acc ++ [f x]) → qLcL g tt te vs k (enc x :: ws') ρ acc) → k ρ (acc ++ xs.map f) → qLcL g tt te vs k (xs.map enc) ρ acc
 | [], acc, _, q => by simpa using q
 | x :: xs, acc, h, q => by
  rw [List.map_cons]
  refine h x List.mem_cons_self _ _ (lcL_imp enc f (fun y hy => h y (List.mem_cons_of_mem _ hy)) ?_)
  simpa using q
section
variable {A : Ad}
theorem f_rwords_eq {rows : List (List Nat)} {ms : List Nat} {mk : Str} (hmk : tl mk = ms) (hrow : ∀ as ∈ rows, as.length = ms.length + 1 ∧ ∀ a ∈ as, a < 10 ^ 40) (hm : ∀ m ∈ ms, (m < 48 ∨ 57 < m) ∧ m ≠ 32 ∧ m < 128) (hs : ms.length ≤ 10) (hb : (41 * (ms.length + 1) + 1) * rows.length ≤ 100000) {Q : D → Prop} (k : Q (.lst (rows.map fun as => .tup (nW as)))) : f_read_words A [.v (.str (spS (rows.map fun as => rowS as ms))), .v (.str mk)] Q := by
 have ek : mk = mkS ms := ext_tl (by rw [hmk, tl_mkS])
 subst ek
 have da : PyData.strOk "-" = true := by decide +kernel
 have oda : ∀ m, (W.v (.str "-")).ok m = true := fun m => by rw [ok_v]; exact da
 by_cases hr : rows = []
 ·subst hr
  have k : Q (.lst []) := k
  have e : spS (([] : List (List Nat)).map fun as => rowS as ms) = "-" := rfl
  rw [e]
  simp [f_read_words, p_read_words, oda, k]
 ·obtain ⟨as, rest, rfl⟩ : ∃ as rest, rows = as :: rest := by
   cases rows with
   | nil => exact absurd rfl hr
   | cons a r => exact ⟨a, r, rfl⟩
  generalize hR : as :: rest = rows at *
  have e : spS (rows.map fun as => rowS as ms) = joS " " (rows.map fun as => rowS as ms) := by
   unfold spS
   rw [if_neg (by rw [← hR]; simp)]
  have hd : ∃ c, (tl (joS " " (rows.map fun as => rowS as ms))).head? = some c ∧ 48 ≤ c ∧ c ≤ 57 := by
   obtain ⟨c, h1, h2⟩ := rowS_head (hrow as (by rw [← hR]; exact List.mem_cons_self)).1
   refine ⟨c, ?_, h2⟩
   rw [tl_joS, ← hR]
   exact joinL_head h1
  have ac : asc (joS " " (rows.map fun as => rowS as ms)) := joS_asc (fun c hc => by rw [sp_tl] at hc; have := List.mem_singleton.mp hc; omega) fun w hw => by
   obtain ⟨x, _, rfl⟩ := List.mem_map.mp hw
   exact rowS_asc fun m h => (hm m h).2.2
  have ln : (joS " " (rows.map fun as => rowS as ms)).length ≤ 100000 := by
   have := joS_len (y := " ") (ws := rows.map fun as => rowS as ms) (B := 41 * (ms.length + 1)) fun w hw => by
    obtain ⟨x, hx, rfl⟩ := List.mem_map.mp hw
    exact rowS_len _ _ (hrow x hx).2
   have e1 : (" " : Str).length = 1 := by decide +kernel
   rw [e1, List.length_map] at this
   omega
  have sp : Txt.split (joS " " (rows.map fun as => rowS as ms)) " " = rows.map fun as => rowS as ms := split_join (s := 32) (S := []) sp_tl sp_all (by rw [← hR]; simp) fun p hp hc => by
   obtain ⟨x, _, rfl⟩ := List.mem_map.mp hp
   rcases rowS_mem hc with h | h
   ·omega
   ·exact (hm _ h).2.1 rfl
  have nd : ¬ joS " " (rows.map fun as => rowS as ms) = "-" := fun z => by
   obtain ⟨c, h1, h2⟩ := hd
   rw [z, da_tl] at h1
   injection h1 with h1
   omega
  have oj : ∀ m, (W.v (.str (joS " " (rows.map fun as => rowS as ms)))).ok m = true := fun m => by rw [ok_v]; exact ac.ok
  rw [e]
  have lc : ∀ (k : List D → List W → Prop) x, k [.sh (.v (.str x)), .sh (.v (.str (mkS ms))), .un, .un] (rows.map fun as => .tup (nW as)) → qLcL (gqName 3) qYes (p_read_words_e0 A) [3] k ((rows.map fun as => rowS as ms).map fun s => W.v (.str s)) [.sh (.v (.str x)), .sh (.v (.str (mkS ms))), .un, .un] [] := fun k x kk => by
   rw [List.map_map]
   refine lcL_imp (acc := []) ((fun s => W.v (.str s)) ∘ fun as => rowS as ms) (fun as : List Nat => W.tup (nW as)) (fun as hw acc ws' q => ?_) kk
   unfold p_read_words_e0 at q ⊢
   simp
   refine f_rints_eq (hrow as hw).1 (hrow as hw).2 (fun m h => (hm m h).1) hs ?_
   simpa using q
  have okw : ((rows.map fun as => W.tup (nW as)).all fun w => w.ok 19) = true := by
   rw [List.all_eq_true]
   intro w hw
   obtain ⟨x, _, rfl⟩ := List.mem_map.mp hw
   exact tup_ok x 18
  have non : ((rows.map fun as => W.tup (nW as)).any fun z => W.eq z (.v .non)) = false := by
   rw [List.any_eq_false]
   intro w hw
   obtain ⟨x, _, rfl⟩ := List.mem_map.mp hw
   exact fun z => nomatch z
  generalize hz : joS " " (rows.map fun as => rowS as ms) = z at *
  simp [f_read_words, p_read_words, oda, oj, nd, ln, sp, -List.map_map]
  have sl : ¬ (Str.ofString " ").length = 0 := by decide +kernel
  have rl : rows.length ≤ 100000 := by
   have : 1 * rows.length ≤ (41 * (ms.length + 1) + 1) * rows.length := Nat.mul_le_mul_right _ (by omega)
   omega
  refine ⟨sl, rl, lc _ _ ?_⟩
  simp [okw, non, k, -List.map_map, -List.any_map, -List.all_map, -List.any_eq_true, -List.any_eq_false, -List.all_eq_true]
end
end R
namespace R
open PySem PySem.Spec PyProof.Rows L2 G TL
theorem Sh.str {s : Str} (h : asc s) {L : Nat} (hl : s.length ≤ L) : Sh 0 (10 * L + 2) (.v (.str s)) := by
 refine ⟨by rw [ok_v]; exact h.ok, rfl, Nat.le_refl _, ?_⟩
 show (reprText s).length ≤ _
 have := PySem.StrLaws.reprText_len s fun c hc => Nat.lt_trans (h c hc) (by decide)
 omega
theorem len_app (a b : Str) : (a ++ b).length = a.length + b.length := by
 rw [len_tl, tl_append, List.length_append, ← len_tl, ← len_tl]
theorem stW_map {α : Type} (f : α → Str) (xs : List α) : stW (xs.map f) = xs.map fun x => W.v (.str (f x)) := by
 show (xs.map f).map _ = _
 rw [List.map_map]; rfl
def N40 (i : Int) : Prop := 0 ≤ i ∧ i.toNat < 10 ^ 40
theorem N40.lg {i : Int} (h : N40 i) : i.natAbs.log2 < 1920 := by
 have h1 := h.1
 have h2 := h.2
 have e : i.natAbs = i.toNat := by omega
 rw [e]
 exact Nat.lt_trans (PySem.Flt.log2_lt_of (k := 200) (by decide) (Nat.lt_trans h2 (by decide))) (by decide)
theorem N40.s {i : Int} (h : N40 i) : Str.ofString (toString i) = nS i.toNat := by
 unfold nS
 rw [Int.toNat_of_nonneg h.1]
theorem N40.r {i : Int} (h : N40 i) : Str.ofString i.repr = nS i.toNat := h.s
theorem N40.le {i : Int} (h : 0 ≤ i ∧ i ≤ 1000000000000000000000000000000) : N40 i := ⟨h.1, by have := h.2; omega⟩
theorem N40.len {i : Int} (h : N40 i) : (nS i.toNat).length ≤ 40 := nS_len (by decide) h.2
def bndR (c : Bnd) : List Nat := [c.1.toNat, c.2.toNat]
def bunR (t : Bun) : List Nat := [t.1.toNat, t.2.1.toNat, t.2.2.toNat]
def bndS (c : Bnd) : Str := rowS (bndR c) [45]
def bunS (t : Bun) : Str := rowS (bunR t) [58, 42]
def runS (t : Run) : Str := rowS (bunR t) [62, 42]
def B40 (c : Bnd) : Prop := N40 c.1 ∧ N40 c.2
def U40 (t : Bun) : Prop := N40 t.1 ∧ N40 t.2.1 ∧ N40 t.2.2
theorem l_da : ("-" : Str).length = 1 := by decide +kernel
theorem l_co : (":" : Str).length = 1 := by decide +kernel
theorem l_st : ("*" : Str).length = 1 := by decide +kernel
theorem l_gt : (">" : Str).length = 1 := by decide +kernel
theorem l_sp : (" " : Str).length = 1 := by decide +kernel
theorem l_sc : ("; " : Str).length = 2 := by decide +kernel
theorem co_tl : tl ":" = [58] := by decide +kernel
theorem st_tl : tl "*" = [42] := by decide +kernel
theorem gt_tl : tl ">" = [62] := by decide +kernel
theorem sc_tl : tl "; " = [59, 32] := by decide +kernel
theorem em_tl : tl Str.empty = [] := rfl
theorem em_app (a : Str) : Str.empty ++ a = a := ext_tl (by rw [tl_append, em_tl]; rfl)
theorem tl_two (a b m : Nat) : tl (rowS [a, b] [m]) = tl (nS a) ++ m :: tl (nS b) := tl_three _ _ _
theorem tl_thr (a b c m n : Nat) : tl (rowS [a, b, c] [m, n]) = tl (nS a) ++ m :: (tl (nS b) ++ n :: tl (nS c)) := by
 show tl (nS a ++ chS m ++ (nS b ++ chS n ++ nS c)) = _
 rw [tl_three, tl_three]
theorem bnd_eq (c : Bnd) : nS c.1.toNat ++ "-" ++ nS c.2.toNat = bndS c := ext_tl (by
 unfold bndS bndR
 rw [tl_two, tl_append, tl_append, da_tl, List.append_assoc]; rfl)
theorem bun_eq (t : Bun) : nS t.1.toNat ++ ":" ++ nS t.2.1.toNat ++ "*" ++ nS t.2.2.toNat = bunS t := ext_tl (by
 unfold bunS bunR
 rw [tl_thr, tl_append, tl_append, tl_append, tl_append, co_tl, st_tl]; simp)
theorem run_eq (t : Run) : nS t.1.toNat ++ ">" ++ nS t.2.1.toNat ++ "*" ++ nS t.2.2.toNat = runS t := ext_tl (by
 unfold runS bunR
 rw [tl_thr, tl_append, tl_append, tl_append, tl_append, gt_tl, st_tl]; simp)
theorem bndR_40 {c : Bnd} (h : B40 c) : ∀ a ∈ bndR c, a < 10 ^ 40 := fun a ha => by
 have : a = c.1.toNat ∨ a = c.2.toNat := by simpa [bndR] using ha
 rcases this with rfl | rfl
 ·exact h.1.2
 ·exact h.2.2
theorem bunR_40 {t : Bun} (h : U40 t) : ∀ a ∈ bunR t, a < 10 ^ 40 := fun a ha => by
 have : a = t.1.toNat ∨ a = t.2.1.toNat ∨ a = t.2.2.toNat := by simpa [bunR] using ha
 rcases this with rfl | rfl | rfl
 ·exact h.1.2
 ·exact h.2.1.2
 ·exact h.2.2.2
theorem bndS_len {c : Bnd} (h : B40 c) : (bndS c).length ≤ 123 := Nat.le_trans (rowS_len _ _ (bndR_40 h)) (by decide)
theorem bunS_len {t : Bun} (h : U40 t) : (bunS t).length ≤ 123 := rowS_len _ _ (bunR_40 h)
theorem bndS_asc (c : Bnd) : asc (bndS c) := rowS_asc (by decide)
theorem bunS_asc (c : Bun) : asc (bunS c) := rowS_asc (by decide)
theorem runS_asc (c : Run) : asc (runS c) := rowS_asc (by decide)
theorem rowS_pos {as ms : List Nat} (h : as.length = ms.length + 1) : 1 ≤ (rowS as ms).length := by
 obtain ⟨c, hc, _⟩ := rowS_head h
 rw [len_tl]
 cases e : tl (rowS as ms) with
 | nil => rw [e] at hc; cases hc
 | cons a l => exact Nat.succ_le_succ (Nat.zero_le _)
theorem joS_pos {y : Str} {ws : List Str} (h : ∀ w ∈ ws, 1 ≤ w.length) (hne : ws ≠ []) : 1 ≤ (joS y ws).length := by
 cases ws with
 | nil => exact absurd rfl hne
 | cons w ws =>
  have h1 := h w List.mem_cons_self
  rw [len_tl, tl_joS]
  rw [len_tl] at h1
  cases e : tl w with
  | nil => rw [e] at h1; simp at h1
  | cons a l =>
   rw [List.map_cons, e]
   have := joinL_head (S := tl y) (p := a :: l) (ps := ws.map tl) (c := a) rfl
   cases e2 : joinL (tl y) ((a :: l) :: ws.map tl) with
   | nil => rw [e2] at this; cases this
   | cons b m => exact Nat.succ_le_succ (Nat.zero_le _)
def orP (y : Str) (ws : List Str) : Str := if ws = [] then "-" else joS y ws
theorem orP_sp (ws : List Str) : orP " " ws = spS ws := rfl
theorem or_join {y : Str} {ws : List Str} (h : ∀ w ∈ ws, 1 ≤ w.length) (k : Str → Prop) : (if (Txt.join y ws).length = 0 then k "-" else k (Txt.join y ws)) = k (orP y ws) := by
 by_cases e : ws = []
 ·subst e
  have : (Txt.join y []).length = 0 := rfl
  rw [if_pos this]
  rfl
 ·have := joS_pos (y := y) h e
  unfold joS at this
  rw [if_neg (by omega)]
  unfold orP
  rw [if_neg e]
  rfl
theorem spS_len {ws : List Str} {B : Nat} (h : ∀ w ∈ ws, w.length ≤ B) : (spS ws).length ≤ (B + 1) * ws.length + 1 := by
 unfold spS
 split
 ·have := l_da; omega
 ·have := joS_len (y := " ") h
  rw [l_sp] at this
  omega
theorem orP_len {y : Str} {ws : List Str} {B : Nat} (h : ∀ w ∈ ws, w.length ≤ B) : (orP y ws).length ≤ (B + y.length) * ws.length + 1 := by
 unfold orP
 split
 ·have := l_da; omega
 ·have := joS_len (y := y) h
  omega
theorem orP_asc {y : Str} {ws : List Str} (hy : asc y) (h : ∀ w ∈ ws, asc w) : asc (orP y ws) := by
 unfold orP
 split
 ·intro c hc
  rw [da_tl] at hc
  have := List.mem_singleton.mp hc
  omega
 ·exact joS_asc hy h
theorem asc_sp : asc " " := fun c hc => by
 rw [sp_tl] at hc
 have := List.mem_singleton.mp hc
 omega
theorem asc_sc : asc "; " := fun c hc => by
 rw [sc_tl] at hc
 have : c = 59 ∨ c = 32 := by simpa using hc
 omega
section
variable {A : Ad} {bs : List Bun} {cs : List Bnd} {ms : List Int} {rs : List Run}
def cluS (bs : List Bun) (cs : List Bnd) : Str := spS (cs.map bndS) ++ "; " ++ spS (bs.map bunS)
theorem f_showc_eq (hb : ∀ c ∈ cs, B40 c) (hu : ∀ t ∈ bs, U40 t) (hl : cs.length ≤ 100) (hl' : bs.length ≤ 100) {Q : D → Prop} : f_show_cluster A [clW A bs cs] Q = Q (.str (cluS bs cs)) := by
 have w1 : ∀ w ∈ cs.map bndS, w.length ≤ 123 := fun w hw => by
  obtain ⟨c, hc, rfl⟩ := List.mem_map.mp hw
  exact bndS_len (hb c hc)
 have w2 : ∀ w ∈ bs.map bunS, w.length ≤ 123 := fun w hw => by
  obtain ⟨c, hc, rfl⟩ := List.mem_map.mp hw
  exact bunS_len (hu c hc)
 have a1 : ∀ w ∈ cs.map bndS, asc w := fun w hw => by
  obtain ⟨c, hc, rfl⟩ := List.mem_map.mp hw
  exact bndS_asc c
 have a2 : ∀ w ∈ bs.map bunS, asc w := fun w hw => by
  obtain ⟨c, hc, rfl⟩ := List.mem_map.mp hw
  exact bunS_asc c
 have s1 : ∀ Q, f_spaced A [.lst (stW (cs.map bndS))] Q = Q (.str (spS (cs.map bndS))) := fun Q => f_spaced_eq w1 a1 (by rw [List.length_map]; omega)
 have s2 : ∀ Q, f_spaced A [.lst (stW (bs.map bunS))] Q = Q (.str (spS (bs.map bunS))) := fun Q => f_spaced_eq w2 a2 (by rw [List.length_map]; omega)
 have g1 := spS_len w1
 have g2 := spS_len w2
 rw [List.length_map] at g1 g2
 have lc1 : ∀ k ρ, ρ = [.sh (clW A bs cs), .un, .un, .un, .un, .un, .un, .un] → qLcL (gqTup 2 (gqCons (gqName 3) (gqCons (gqName 4) gqNil))) qYes (p_show_cluster_e0 A) [3, 4] k (cs.map bndW) ρ [] = k ρ (stW (cs.map bndS)) := fun k ρ e => by
  subst e
  rw [stW_map, lcL_map bndW (fun c : Bnd => W.v (.str (bndS c))) fun c hm acc ws' => ?_, List.nil_append]
  have h := hb c hm
  have l1 := h.1.len
  have l2 := h.2.len
  simp [p_show_cluster_e0, bndW, h.1.lg, h.2.lg, h.1.r, h.2.r, em_app, bnd_eq, len_app, l_da]
  have := bndS_len h
  repeat refine Iff.trans (and_iff_right (by omega)) ?_
  exact Iff.rfl
 have lc2 : ∀ k ρ s, ρ = [.sh (clW A bs cs), s, .un, .un, .un, .un, .un, .un] → qLcL (gqTup 3 (gqCons (gqName 5) (gqCons (gqName 6) (gqCons (gqName 7) gqNil)))) qYes (p_show_cluster_e1 A) [5, 6, 7] k (bs.map bunW) ρ [] = k ρ (stW (bs.map bunS)) := fun k ρ s e => by
  subst e
  rw [stW_map, lcL_map bunW (fun c : Bun => W.v (.str (bunS c))) fun c hm acc ws' => ?_, List.nil_append]
  have h := hu c hm
  have l1 := h.1.len
  have l2 := h.2.1.len
  have l3 := h.2.2.len
  simp [p_show_cluster_e1, bunW, h.1.lg, h.2.1.lg, h.2.2.lg, h.1.r, h.2.1.r, h.2.2.r, em_app, bun_eq, len_app, l_co, l_st]
  have := bunS_len h
  repeat refine Iff.trans (and_iff_right (by omega)) ?_
  exact Iff.rfl
 have fb : ∀ Q, f_Cluster_bounds A [clW A bs cs] Q = Q (.lst (cs.map bndW)) := fun Q => f_bounds_eq
 have fu : ∀ Q, f_Cluster_bundles A [clW A bs cs] Q = Q (.lst (bs.map bunW)) := fun Q => f_bundles_eq
 simp [f_show_cluster, p_show_cluster, fb, fu, -List.map_map]
 refine Iff.trans (and_iff_right (by omega)) ?_
 rw [lc1 _ _ rfl, s1]
 simp [fu, -List.map_map]
 refine Iff.trans (and_iff_right (by omega)) ?_
 rw [lc2 _ _ _ rfl]
 simp [s2, -List.map_map]
 rw [len_app, l_sc]
 repeat refine Iff.trans (and_iff_right (by omega)) ?_
 exact Iff.rfl
end
end R
namespace R
open PySem PySem.Spec PyProof.Rows L2 G TL
def leaS (is : List Int) : Str := spS (is.map fun i => nS i.toNat)
section
variable {A : Ad} {bs : List Bun} {cs : List Bnd} {ms : List Int} {rs : List Run}
theorem join_ok {y : Str} {ws : List Str} {B : Nat} (h : ∀ w ∈ ws, w.length ≤ B) (hb : (B + y.length) * ws.length ≤ 100000) : (ws.map (·.length)).sum + ws.length * y.length ≤ 16777216 ∧ (Txt.join y ws).length ≤ 100000 := by
 have h1 := sum_len h
 have h2 := joS_len (y := y) h
 rw [Nat.add_mul] at hb h2
 rw [Nat.mul_comm ws.length]
 unfold joS at h2
 omega
theorem joW_st {y : Str} {ws : List Str} {k : Str → Prop} (h : (ws.map (·.length)).sum + ws.length * y.length ≤ 16777216) : joW y (.lst (stW ws)) k = k (joS y ws) := by
 rw [show joW y (.lst (stW ws)) k = _ from joW_l y ws k]
 exact propext ⟨fun z => z.2, fun z => ⟨h, z⟩⟩
theorem f_ltext_eq (hb : ∀ c ∈ cs, B40 c) (hu : ∀ t ∈ bs, U40 t) (hl : cs.length ≤ 100) (hl' : bs.length ≤ 100) (hne : cs ≠ []) {Q : D → Prop} : f__law_text A [.lst (cs.map bndW), .lst (bs.map bunW)] Q = Q (.str (cluS bs cs)) := by
 have w1 : ∀ w ∈ cs.map bndS, w.length ≤ 123 := fun w hw => by
  obtain ⟨c, hc, rfl⟩ := List.mem_map.mp hw
  exact bndS_len (hb c hc)
 have w2 : ∀ w ∈ bs.map bunS, w.length ≤ 123 := fun w hw => by
  obtain ⟨c, hc, rfl⟩ := List.mem_map.mp hw
  exact bunS_len (hu c hc)
 have p2 : ∀ w ∈ bs.map bunS, 1 ≤ w.length := fun w hw => by
  obtain ⟨c, hc, rfl⟩ := List.mem_map.mp hw
  exact rowS_pos rfl
 have j1 := join_ok (y := " ") w1 (by rw [List.length_map, l_sp]; omega)
 have j2 := join_ok (y := " ") w2 (by rw [List.length_map, l_sp]; omega)
 have e1 : joS " " (cs.map bndS) = spS (cs.map bndS) := by
  unfold spS
  rw [if_neg (by simpa using hne)]
 have g1 := spS_len w1
 have g2 := spS_len w2
 rw [List.length_map] at g1 g2
 have lc1 : ∀ k ρ, ρ = [.sh (.lst (cs.map bndW)), .sh (.lst (bs.map bunW)), .un, .un, .un, .un, .un, .un, .un] → qLcL (gqTup 2 (gqCons (gqName 7) (gqCons (gqName 8) gqNil))) qYes (p__law_text_e0 A) [7, 8] k (cs.map bndW) ρ [] = k ρ (stW (cs.map bndS)) := fun k ρ e => by
  subst e
  rw [stW_map, lcL_map bndW (fun c : Bnd => W.v (.str (bndS c))) fun c hm acc ws' => ?_, List.nil_append]
  have h := hb c hm
  have l1 := h.1.len
  have l2 := h.2.len
  simp [p__law_text_e0, bndW, h.1.lg, h.2.lg, h.1.r, h.2.r, bnd_eq, len_app, l_da]
  repeat refine Iff.trans (and_iff_right (by omega)) ?_
  exact Iff.rfl
 have lc2 : ∀ k ρ s, ρ = [.sh (.lst (cs.map bndW)), .sh (.lst (bs.map bunW)), s, .un, .un, .un, .un, .un, .un] → qLcL (gqTup 3 (gqCons (gqName 4) (gqCons (gqName 5) (gqCons (gqName 6) gqNil)))) qYes (p__law_text_e1 A) [4, 5, 6] k (bs.map bunW) ρ [] = k ρ (stW (bs.map bunS)) := fun k ρ s e => by
  subst e
  rw [stW_map, lcL_map bunW (fun c : Bun => W.v (.str (bunS c))) fun c hm acc ws' => ?_, List.nil_append]
  have h := hu c hm
  have l1 := h.1.len
  have l2 := h.2.1.len
  have l3 := h.2.2.len
  simp [p__law_text_e1, bunW, h.1.lg, h.2.1.lg, h.2.2.lg, h.1.r, h.2.1.r, h.2.2.r, bun_eq, len_app, l_co, l_st]
  repeat refine Iff.trans (and_iff_right (by omega)) ?_
  exact Iff.rfl
 simp [f__law_text, p__law_text, -List.map_map]
 repeat refine Iff.trans (and_iff_right (by omega)) ?_
 rw [lc1 _ _ rfl]
 simp [joW_st j1.1, e1, -List.map_map]
 repeat refine Iff.trans (and_iff_right (by omega)) ?_
 rw [lc2 _ _ _ rfl]
 simp [joW_st j2.1, -List.map_map]
 have f1 := j1.1
 have f2 := j2.1
 have E1 : Txt.join " " (cs.map bndS) = spS (cs.map bndS) := e1
 rw [List.length_map] at f1 f2
 rw [E1]
 have o := or_join (y := " ") p2 fun s => ((spS (cs.map bndS) ++ "; ").length + s.length ≤ 100000 ∧ Q (.str (spS (cs.map bndS) ++ "; " ++ s)))
 rw [o, orP_sp, len_app, l_sc]
 have j22 := j2.2
 repeat refine Iff.trans (and_iff_right (by omega)) ?_
 exact Iff.rfl
theorem f_lleads_eq {is : List Int} (h : ∀ i ∈ is, N40 i) (hl : is.length ≤ 100) {Q : D → Prop} : f__law_leads_text A [.tup (iW is)] Q = Q (.str (leaS is)) := by
 have w1 : ∀ w ∈ is.map (fun i => nS i.toNat), w.length ≤ 40 := fun w hw => by
  obtain ⟨c, hc, rfl⟩ := List.mem_map.mp hw
  exact (h c hc).len
 have p1 : ∀ w ∈ is.map (fun i => nS i.toNat), 1 ≤ w.length := fun w hw => by
  obtain ⟨c, hc, rfl⟩ := List.mem_map.mp hw
  exact nS_pos _
 have j1 := join_ok (y := " ") w1 (by rw [List.length_map, l_sp]; omega)
 have lc1 : ∀ k ρ, ρ = [.sh (.tup (iW is)), .un] → qLcL (gqName 1) qYes (p__law_leads_text_e0 A) [1] k (iW is) ρ [] = k ρ (stW (is.map fun i => nS i.toNat)) := fun k ρ e => by
  subst e
  rw [stW_map, lcL_map (fun i : Int => W.v (.int i)) (fun i : Int => W.v (.str (nS i.toNat))) fun c hm acc ws' => ?_, List.nil_append]
  have q := h c hm
  simp [p__law_leads_text_e0, q.lg, q.r]
 simp [f__law_leads_text, p__law_leads_text, -List.map_map]
 repeat refine Iff.trans (and_iff_right (by omega)) ?_
 rw [lc1 _ _ rfl]
 simp [-List.map_map]
 have f1 := j1.1
 have j12 := j1.2
 rw [List.length_map] at f1
 have o := or_join (y := " ") p1 fun s => Q (.str s)
 rw [o, orP_sp]
 repeat refine Iff.trans (and_iff_right (by omega)) ?_
 exact Iff.rfl
theorem sp_leads {is : List Int} (h : ∀ i ∈ is, N40 i) (hl : is.length ≤ 100) (Q : D → Prop) : f_spaced A [.lst (stW (is.map fun i => nS i.toNat))] Q = Q (.str (leaS is)) := f_spaced_eq (B := 40) (fun w hw => by
  obtain ⟨c, hc, rfl⟩ := List.mem_map.mp hw
  exact (h c hc).len) (fun w hw => by
  obtain ⟨c, hc, rfl⟩ := List.mem_map.mp hw
  exact nS_asc _) (by rw [List.length_map]; omega)
theorem f_shleads_eq {is : List Int} (h : ∀ i ∈ is, N40 i) (hl : is.length ≤ 100) {Q : D → Prop} : f_show_leads A [.tup (iW is)] Q = Q (.str (leaS is)) := by
 have lc1 : ∀ k ρ, ρ = [.sh (.tup (iW is)), .un] → qLcL (gqName 1) qYes (p_show_leads_e0 A) [1] k (iW is) ρ [] = k ρ (stW (is.map fun i => nS i.toNat)) := fun k ρ e => by
  subst e
  rw [stW_map, lcL_map (fun i : Int => W.v (.int i)) (fun i : Int => W.v (.str (nS i.toNat))) fun c hm acc ws' => ?_, List.nil_append]
  have q := h c hm
  simp [p_show_leads_e0, q.lg, q.r]
 simp [f_show_leads, p_show_leads, -List.map_map]
 repeat refine Iff.trans (and_iff_right (by omega)) ?_
 rw [lc1 _ _ rfl, sp_leads h hl]
theorem f_shset_eq {is : List Int} (h : ∀ i ∈ is, N40 i) (hl : is.length ≤ 100) {Q : D → Prop} : f_show_set A [.lst (iW is)] Q = Q (.str (leaS is)) := by
 have lc1 : ∀ k ρ, ρ = [.sh (.lst (iW is)), .un] → qLcL (gqName 1) qYes (p_show_set_e0 A) [1] k (iW is) ρ [] = k ρ (stW (is.map fun i => nS i.toNat)) := fun k ρ e => by
  subst e
  rw [stW_map, lcL_map (fun i : Int => W.v (.int i)) (fun i : Int => W.v (.str (nS i.toNat))) fun c hm acc ws' => ?_, List.nil_append]
  have q := h c hm
  simp [p_show_set_e0, q.lg, q.r]
 simp [f_show_set, p_show_set, -List.map_map]
 repeat refine Iff.trans (and_iff_right (by omega)) ?_
 rw [lc1 _ _ rfl, sp_leads h hl]
theorem f_lset_eq {is : List Int} (h : ∀ i ∈ is, N40 i) (hl : is.length ≤ 100) {Q : D → Prop} : f__law_leads_text A [.lst (iW is)] Q = Q (.str (leaS is)) := by
 have w1 : ∀ w ∈ is.map (fun i => nS i.toNat), w.length ≤ 40 := fun w hw => by
  obtain ⟨c, hc, rfl⟩ := List.mem_map.mp hw
  exact (h c hc).len
 have p1 : ∀ w ∈ is.map (fun i => nS i.toNat), 1 ≤ w.length := fun w hw => by
  obtain ⟨c, hc, rfl⟩ := List.mem_map.mp hw
  exact nS_pos _
 have j1 := join_ok (y := " ") w1 (by rw [List.length_map, l_sp]; omega)
 have lc1 : ∀ k ρ, ρ = [.sh (.lst (iW is)), .un] → qLcL (gqName 1) qYes (p__law_leads_text_e0 A) [1] k (iW is) ρ [] = k ρ (stW (is.map fun i => nS i.toNat)) := fun k ρ e => by
  subst e
  rw [stW_map, lcL_map (fun i : Int => W.v (.int i)) (fun i : Int => W.v (.str (nS i.toNat))) fun c hm acc ws' => ?_, List.nil_append]
  have q := h c hm
  simp [p__law_leads_text_e0, q.lg, q.r]
 simp [f__law_leads_text, p__law_leads_text, -List.map_map]
 repeat refine Iff.trans (and_iff_right (by omega)) ?_
 rw [lc1 _ _ rfl]
 simp [-List.map_map]
 have f1 := j1.1
 have j12 := j1.2
 rw [List.length_map] at f1
 have o := or_join (y := " ") p1 fun s => Q (.str s)
 rw [o, orP_sp]
 repeat refine Iff.trans (and_iff_right (by omega)) ?_
 exact Iff.rfl
end
end R
namespace R
open PySem PySem.Spec PyProof.Rows L2 G TL
theorem cs_tl : tl ":*" = [58, 42] := by decide +kernel
theorem gs_tl : tl ">*" = [62, 42] := by decide +kernel
theorem no_tl : tl "" = [] := by decide +kernel
theorem bnd_back {c : Bnd} (h : B40 c) : W.tup (nW (bndR c)) = bndW c := by
 have h1 := h.1.1
 have h2 := h.2.1
 simp [bndR, bndW, Int.toNat_of_nonneg h1, Int.toNat_of_nonneg h2]
theorem bun_back {t : Bun} (h : U40 t) : W.tup (nW (bunR t)) = bunW t := by
 have h1 := h.1.1
 have h2 := h.2.1.1
 have h3 := h.2.2.1
 simp [bunR, bunW, Int.toNat_of_nonneg h1, Int.toNat_of_nonneg h2, Int.toNat_of_nonneg h3]
theorem sc_all : ("; " : Str).cps.all (· < 256) = true := by decide +kernel
theorem spS_mem {ws : List Str} {c : Nat} (h : c ∈ tl (spS ws)) : c = 45 ∨ c = 32 ∨ ∃ w ∈ ws, c ∈ tl w := by
 unfold spS at h
 split at h
 ·rw [da_tl] at h
  exact .inl (List.mem_singleton.mp h)
 ·rw [tl_joS] at h
  rcases joinL_mem h with h | ⟨p, hp, h⟩
  ·rw [sp_tl] at h
   exact .inr (.inl (List.mem_singleton.mp h))
  ·obtain ⟨w, hw, rfl⟩ := List.mem_map.mp hp
   exact .inr (.inr ⟨w, hw, h⟩)
theorem spS_asc {ws : List Str} (h : ∀ w ∈ ws, asc w) : asc (spS ws) := fun c hc => by
 rcases spS_mem hc with h1 | h1 | ⟨w, hw, h1⟩
 ·omega
 ·omega
 ·exact h w hw c h1
section
variable {A : Ad} {bs : List Bun} {cs : List Bnd} {ms : List Int} {rs : List Run}
theorem f_rbnds (hb : ∀ c ∈ cs, B40 c) (hl : cs.length ≤ 100) {Q : D → Prop} (k : Q (.lst (cs.map bndW))) : f_read_words A [.v (.str (spS (cs.map bndS))), .v (.str "-")] Q := by
 have := f_rwords_eq (A := A) (Q := Q) (rows := cs.map bndR) (ms := [45]) (mk := "-") da_tl (fun as h => by
  obtain ⟨c, hc, rfl⟩ := List.mem_map.mp h
  exact ⟨rfl, bndR_40 (hb c hc)⟩) (by decide) (by decide) (by rw [List.length_map]; simp; omega) (by
  rw [List.map_map]
  rwa [List.map_congr_left (f := (fun as => W.tup (nW as)) ∘ bndR) (g := bndW) fun c hc => bnd_back (hb c hc)])
 rw [List.map_map] at this
 exact this
theorem f_rbuns (hb : ∀ c ∈ bs, U40 c) (hl : bs.length ≤ 100) {Q : D → Prop} (k : Q (.lst (bs.map bunW))) : f_read_words A [.v (.str (spS (bs.map bunS))), .v (.str ":*")] Q := by
 have := f_rwords_eq (A := A) (Q := Q) (rows := bs.map bunR) (ms := [58, 42]) (mk := ":*") cs_tl (fun as h => by
  obtain ⟨c, hc, rfl⟩ := List.mem_map.mp h
  exact ⟨rfl, bunR_40 (hb c hc)⟩) (by decide) (by decide) (by rw [List.length_map]; simp; omega) (by
  rw [List.map_map]
  rwa [List.map_congr_left (f := (fun as => W.tup (nW as)) ∘ bunR) (g := bunW) fun c hc => bun_back (hb c hc)])
 rw [List.map_map] at this
 exact this
theorem f_rlead {is : List Int} (h : ∀ i ∈ is, N40 i) (hl : is.length ≤ 100) {Q : D → Prop} (k : Q (.lst (is.map fun i => .tup [.v (.int i)]))) : f_read_words A [.v (.str (leaS is)), .v (.str "")] Q := by
 have := f_rwords_eq (A := A) (Q := Q) (rows := is.map fun i => [i.toNat]) (ms := []) (mk := "") no_tl (fun as q => by
  obtain ⟨c, hc, rfl⟩ := List.mem_map.mp q
  exact ⟨rfl, fun a ha => by rw [List.mem_singleton.mp ha]; exact (h c hc).2⟩) (by decide) (by decide) (by rw [List.length_map]; simp; omega) (by
  rw [List.map_map]
  rwa [List.map_congr_left (g := fun i : Int => W.tup [.v (.int i)]) fun c hc => by
   have := (h c hc).1
   simp [Int.toNat_of_nonneg this]])
 rw [List.map_map] at this
 exact this
theorem clu_split (bs : List Bun) (cs : List Bnd) : Txt.split (cluS bs cs) "; " = [spS (cs.map bndS), spS (bs.map bunS)] := by
 have e : cluS bs cs = Txt.join "; " [spS (cs.map bndS), spS (bs.map bunS)] := by
  rw [join_eq]
  rfl
 rw [e]
 refine split_join (s := 59) (S := [32]) sc_tl sc_all (by simp) fun p hp => ?_
 have hp : p = spS (cs.map bndS) ∨ p = spS (bs.map bunS) := by simpa using hp
 rcases hp with rfl | rfl
 ·intro h
  rcases spS_mem h with h | h | ⟨w, hw, h⟩
  ·cases h
  ·cases h
  ·obtain ⟨c, hc, rfl⟩ := List.mem_map.mp hw
   rcases rowS_mem h with h | h
   ·omega
   ·revert h; decide
 ·intro h
  rcases spS_mem h with h | h | ⟨w, hw, h⟩
  ·cases h
  ·cases h
  ·obtain ⟨c, hc, rfl⟩ := List.mem_map.mp hw
   rcases rowS_mem h with h | h
   ·omega
   ·revert h; decide
theorem clu_len (hb : ∀ c ∈ cs, B40 c) (hu : ∀ t ∈ bs, U40 t) : (cluS bs cs).length ≤ 124 * cs.length + 124 * bs.length + 4 := by
 have g1 := spS_len (ws := cs.map bndS) (B := 123) fun w hw => by
  obtain ⟨c, hc, rfl⟩ := List.mem_map.mp hw
  exact bndS_len (hb c hc)
 have g2 := spS_len (ws := bs.map bunS) (B := 123) fun w hw => by
  obtain ⟨c, hc, rfl⟩ := List.mem_map.mp hw
  exact bunS_len (hu c hc)
 rw [List.length_map] at g1 g2
 unfold cluS
 rw [len_app, len_app, l_sc]
 omega
theorem clu_asc (bs : List Bun) (cs : List Bnd) : asc (cluS bs cs) := ((spS_asc fun w hw => by
  obtain ⟨c, hc, rfl⟩ := List.mem_map.mp hw
  exact bndS_asc c).app asc_sc).app (spS_asc fun w hw => by
  obtain ⟨c, hc, rfl⟩ := List.mem_map.mp hw
  exact bunS_asc c)
theorem f_rclu_of (ok : ClOk bs cs) (hb : ∀ c ∈ cs, B40 c) (hu : ∀ t ∈ bs, U40 t) (hl : cs.length ≤ 100) (hl' : bs.length ≤ 100) {Q : D → Prop} (k : Q (.obj A.Cluster clF [.lst (cs.map bndW), .lst (bs.map bunW), .dit (bs.map kK) (numW bs.length)])) : f_read_cluster A [.v (.str (cluS bs cs))] Q := by
 have sl := clu_len hb hu
 have f1 := fun Q k => f_rbnds (A := A) (Q := Q) hb hl k
 have f2 := fun Q k => f_rbuns (A := A) (Q := Q) hu hl' k
 have sp := clu_split bs cs
 have ln : (cluS bs cs).length ≤ 100000 := by omega
 have e2 : ¬ ("; " : Str).length = 0 := by rw [l_sc]; decide
 have hb1 := ok.bnds
 have hu1 := ok.buns
 generalize cluS bs cs = z at *
 simp [f_read_cluster, p_read_cluster, isA, sp, ln, e2]
 refine f1 _ ?_
 simp
 refine f2 _ ?_
 simp [f_are_bounds_eq (tyd_bnds cs), f_are_bundles_eq (tyd_buns bs), hb1, hu1, f_init_eq ok, -List.map_map]
 exact k
theorem f_rleads_of {is : List Int} (h : ∀ i ∈ is, 0 ≤ i ∧ i ≤ 1000000000000000000) (hl : is.length ≤ 45) {Q : D → Prop} (k : Q (.sh (.tup (iW is)))) : f_read_leads A [.v (.str (leaS is))] Q := by
 have f1 := fun Q k => f_rlead (A := A) (Q := Q) (fun i hi => N40.le ⟨(h i hi).1, by have := (h i hi).2; omega⟩) (Nat.le_trans hl (by decide)) k
 simp [f_read_leads, p_read_leads, isA]
 refine f1 _ ?_
 have lc1 : ∀ k ρ, ρ = [.sh (.v (.str (leaS is))), .un, .un, .un] → qLcL (gqName 2) qYes (p_read_leads_e0 A) [2] k (is.map fun i => W.tup [.v (.int i)]) ρ [] = k ρ (iW is) := fun k ρ e => by
  subst e
  rw [lcL_map (fun i : Int => W.tup [.v (.int i)]) (fun i : Int => W.v (.int i)) fun c hm acc ws' => ?_, List.nil_append]
  simp [p_read_leads_e0, atI, ixN]
 simp
 rw [lc1 _ _ rfl]
 simp
 have lc2 : ∀ k ρ, ρ = [.sh (.v (.str (leaS is))), .sh (.tup (iW is)), .un, .un] → qLcL (gqName 3) qYes (p_read_leads_e1 A) [3] k (iW is) ρ [] = k ρ (is.map fun _ => W.v (.bl false)) := fun k ρ e => by
  subst e
  rw [lcL_map (fun i : Int => W.v (.int i)) (fun i : Int => W.v (.bl false)) fun c hm acc ws' => ?_, List.nil_append]
  have q : ¬ (1000000000000000000 < c) := by have := (h c hm).2; omega
  simp [p_read_leads_e1, q]
 refine ⟨by omega, by omega, by omega, ?_⟩
 rw [lc2 _ _ rfl]
 simp
 exact k
end
end R
namespace R
open PySem PySem.Spec PyProof.Rows L2 G TL
def blkS (b : Blk) : Str := joS " " (nS b.1.toNat :: b.2.map runS)
def plnS (bl : List Blk) : Str := orP "; " (bl.map blkS)
structure RnT (r : Run) : Prop where
 a : 0 ≤ r.1 ∧ r.1 < 10
 b : 0 ≤ r.2.1 ∧ r.2.1 < 10
 c : 1 ≤ r.2.2 ∧ r.2.2 ≤ 1000000000000000000
 ne : r.1 ≠ r.2.1
structure BkT (b : Blk) : Prop where
 t : 1 ≤ b.1 ∧ b.1 ≤ 1000000000000000000
 r : ∀ r ∈ b.2, RnT r
 l : 1 ≤ b.2.length ∧ b.2.length ≤ 3
theorem RnT.u {r : Run} (h : RnT r) : U40 r := ⟨⟨h.a.1, by have := h.a; omega⟩, ⟨h.b.1, by have := h.b; omega⟩, ⟨by have := h.c; omega, by have := h.c; omega⟩⟩
theorem runS_len {r : Run} (h : RnT r) : (runS r).length ≤ 23 := by
 rw [← run_eq, len_app, len_app, len_app, len_app, l_gt, l_st]
 have h1 := nS_len (n := r.1.toNat) (k := 1) (by decide) (by have := h.a; omega)
 have h2 := nS_len (n := r.2.1.toNat) (k := 1) (by decide) (by have := h.b; omega)
 have h3 := nS_len (n := r.2.2.toNat) (k := 19) (by decide) (by have := h.c; omega)
 omega
theorem BkT.n {b : Blk} (h : BkT b) : N40 b.1 := ⟨by have := h.t; omega, by have := h.t; omega⟩
theorem blk_words {b : Blk} (h : BkT b) : ∀ w ∈ nS b.1.toNat :: b.2.map runS, w.length ≤ 23 ∧ asc w ∧ 1 ≤ w.length := fun w hw => by
 rcases List.mem_cons.mp hw with rfl | hw
 ·exact ⟨Nat.le_trans (nS_len (k := 19) (by decide) (by have := h.t; omega)) (by decide), nS_asc _, nS_pos _⟩
 ·obtain ⟨r, hr, rfl⟩ := List.mem_map.mp hw
  exact ⟨runS_len (h.r r hr), runS_asc r, rowS_pos rfl⟩
theorem blkS_len {b : Blk} (h : BkT b) : (blkS b).length ≤ 96 := by
 have := joS_len (y := " ") (fun w hw => (blk_words h w hw).1)
 rw [l_sp, List.length_cons, List.length_map] at this
 have := h.l
 unfold blkS
 omega
theorem blkS_asc {b : Blk} (h : BkT b) : asc (blkS b) := joS_asc asc_sp fun w hw => (blk_words h w hw).2.1
theorem blkS_pos {b : Blk} (h : BkT b) : 1 ≤ (blkS b).length := joS_pos (fun w hw => (blk_words h w hw).2.2) (by simp)
theorem blkS_sp (b : Blk) : spS (nS b.1.toNat :: b.2.map runS) = blkS b := by
 unfold spS blkS
 rw [if_neg (by simp)]
theorem plnS_len {bl : List Blk} (h : ∀ b ∈ bl, BkT b) (hl : bl.length ≤ 400) : (plnS bl).length ≤ 39201 := by
 have := orP_len (y := "; ") (ws := bl.map blkS) (B := 96) fun w hw => by
  obtain ⟨b, hb, rfl⟩ := List.mem_map.mp hw
  exact blkS_len (h b hb)
 rw [l_sc, List.length_map] at this
 unfold plnS
 omega
theorem plnS_asc {bl : List Blk} (h : ∀ b ∈ bl, BkT b) : asc (plnS bl) := orP_asc asc_sc fun w hw => by
  obtain ⟨b, hb, rfl⟩ := List.mem_map.mp hw
  exact blkS_asc (h b hb)
theorem take_map {α β : Type} {f : α → β} {xs : List α} {i : Nat} {x : α} (h : xs[i]? = some x) : (xs.take (i + 1)).map f = (xs.take i).map f ++ [f x] := by
 rw [List.take_succ, h, List.map_append]
 rfl
section
variable {A : Ad} {bs : List Bun} {cs : List Bnd} {ms : List Int} {rs : List Run}
theorem f_lplan_eq {bl : List Blk} (h : ∀ b ∈ bl, BkT b) (hl : bl.length ≤ 400) {Q : D → Prop} (k : Q (.str (plnS bl))) : f__law_plan_text A [.lst (bl.map blkW)] Q := by
 change Q (.str (orP "; " (bl.map blkS))) at k
 have p1 : ∀ w ∈ bl.map blkS, 1 ≤ w.length := fun w hw => by
  obtain ⟨b, hb, rfl⟩ := List.mem_map.mp hw
  exact blkS_pos (h b hb)
 have w1 : ∀ w ∈ bl.map blkS, w.length ≤ 96 := fun w hw => by
  obtain ⟨b, hb, rfl⟩ := List.mem_map.mp hw
  exact blkS_len (h b hb)
 have j1 := join_ok (y := "; ") w1 (by rw [List.length_map, l_sc]; omega)
 have f1 := j1.1
 have f2 := j1.2
 rw [List.length_map] at f1
 have o := or_join (y := "; ") p1 fun s => Q (.str s)
 simp [f__law_plan_text, p__law_plan_text]
 refine loop_inv blkW (fun i ρ => ∃ x2 x3 x4 L, L = stW ((bl.take i).map blkS) ∧ ρ = [.sh (.lst (bl.map blkW)), .lst L, x2, x3, x4, .un, .un, .un]) ⟨.un, .un, .un, _, rfl, rfl⟩ (fun i b ρ hx hI T k => ?_) fun ρ hI => ?_
 ·obtain ⟨x2, x3, x4, L, hL, rfl⟩ := hI
  have hb := h b (List.mem_of_getElem? hx)
  have hi : i < 400 := by have := (List.getElem?_eq_some_iff.mp hx).1; omega
  have lL : L.length < 100000 := by
   rw [hL, List.length_map, List.length_map]
   have := List.length_take_le i bl
   omega
  have lr := hb.l
  have lc : ∀ k ρ s, ρ = [.sh (.lst (bl.map blkW)), s, .sh (.v (.int b.1)), .sh (.lst (b.2.map bunW)), x4, .un, .un, .un] → qLcL (gqTup 3 (gqCons (gqName 5) (gqCons (gqName 6) (gqCons (gqName 7) gqNil)))) qYes (p__law_plan_text_e0 A) [5, 6, 7] k (b.2.map bunW) ρ [] = k ρ (stW (b.2.map runS)) := fun k ρ s e => by
   subst e
   rw [stW_map, lcL_map bunW (fun c : Run => W.v (.str (runS c))) fun c hm acc ws' => ?_, List.nil_append]
   have h := (hb.r c hm).u
   have l1 := h.1.len
   have l2 := h.2.1.len
   have l3 := h.2.2.len
   simp [p__law_plan_text_e0, bunW, h.1.lg, h.2.1.lg, h.2.2.lg, h.1.r, h.2.1.r, h.2.2.r, run_eq, len_app, l_gt, l_st]
   repeat refine Iff.trans (and_iff_right (by omega)) ?_
   exact Iff.rfl
  have jj := join_ok (y := " ") (fun w hw => (blk_words hb w hw).1) (by rw [l_sp, List.length_cons, List.length_map]; omega)
  have jw := fun k => joW_st (k := k) jj.1
  rw [show stW (nS b.1.toNat :: b.2.map runS) = .v (.str (nS b.1.toNat)) :: stW (b.2.map runS) from rfl] at jw
  have e1 : joS " " (nS b.1.toNat :: b.2.map runS) = blkS b := rfl
  simp [p__law_plan_text_g0, p__law_plan_text_b0, blkW, -List.map_map]
  refine ⟨by omega, ?_⟩
  rw [lc _ _ _ rfl]
  have l4 : (stW (b.2.map runS)).length + 1 ≤ 100000 := by rw [List.length_map, List.length_map]; omega
  generalize stW (b.2.map runS) = R at *
  simp [hb.n.lg, hb.n.r, jw, e1, lL]
  refine ⟨by omega, k _ ⟨_, _, _, _, ?_, rfl⟩⟩
  rw [take_map hx, hL]
  simp
 ·obtain ⟨x2, x3, x4, L, hL, rfl⟩ := hI
  rw [List.take_length] at hL
  subst hL
  simp [-List.map_map]
  refine ⟨f1, f2, ?_⟩
  rw [← o] at k
  exact k
end
end R
namespace R
open PySem PySem.Spec PyProof.Rows L2 G TL
theorem run_back {t : Run} (h : U40 t) : W.tup (nW (bunR t)) = bunW t := bun_back h
theorem blk_split (b : Blk) : Txt.split (blkS b) " " = nS b.1.toNat :: b.2.map runS := split_join (s := 32) (S := []) sp_tl sp_all (by simp) fun p hp hc => by
 rcases List.mem_cons.mp hp with rfl | hp
 ·rw [tl_nS] at hc
  have := numL_digits _ _ hc
  omega
 ·obtain ⟨r, hr, rfl⟩ := List.mem_map.mp hp
  rcases rowS_mem hc with h | h
  ·omega
  ·revert h; decide
section
variable {A : Ad} {bs : List Bun} {cs : List Bnd} {ms : List Int} {rs : List Run}
theorem f_shplan_eq {bl : List Blk} (h : ∀ b ∈ bl, BkT b) (hl : bl.length ≤ 400) {Q : D → Prop} (k : Q (.str (plnS bl))) : f_show_plan A [.lst (bl.map blkW)] Q := by
 change Q (.str (orP "; " (bl.map blkS))) at k
 have p1 : ∀ w ∈ bl.map blkS, 1 ≤ w.length := fun w hw => by
  obtain ⟨b, hb, rfl⟩ := List.mem_map.mp hw
  exact blkS_pos (h b hb)
 have w1 : ∀ w ∈ bl.map blkS, w.length ≤ 96 := fun w hw => by
  obtain ⟨b, hb, rfl⟩ := List.mem_map.mp hw
  exact blkS_len (h b hb)
 have j1 := join_ok (y := "; ") w1 (by rw [List.length_map, l_sc]; omega)
 have f1 := j1.1
 have f2 := j1.2
 rw [List.length_map] at f1
 simp [f_show_plan, p_show_plan]
 refine loop_inv blkW (fun i ρ => ∃ x2 x3 L, L = stW ((bl.take i).map blkS) ∧ ρ = [.sh (.lst (bl.map blkW)), .lst L, x2, x3, .un, .un, .un]) ⟨.un, .un, _, rfl, rfl⟩ (fun i b ρ hx hI T k => ?_) fun ρ hI => ?_
 ·obtain ⟨x2, x3, L, hL, rfl⟩ := hI
  have hb := h b (List.mem_of_getElem? hx)
  have hi : i < 400 := by have := (List.getElem?_eq_some_iff.mp hx).1; omega
  have lL : L.length < 100000 := by
   rw [hL, List.length_map, List.length_map]
   have := List.length_take_le i bl
   omega
  have lr := hb.l
  have lc : ∀ k ρ s, ρ = [.sh (.lst (bl.map blkW)), s, .sh (.v (.int b.1)), .sh (.lst (b.2.map bunW)), .un, .un, .un] → qLcL (gqTup 3 (gqCons (gqName 4) (gqCons (gqName 5) (gqCons (gqName 6) gqNil)))) qYes (p_show_plan_e0 A) [4, 5, 6] k (b.2.map bunW) ρ [] = k ρ (stW (b.2.map runS)) := fun k ρ s e => by
   subst e
   rw [stW_map, lcL_map bunW (fun c : Run => W.v (.str (runS c))) fun c hm acc ws' => ?_, List.nil_append]
   have h := (hb.r c hm).u
   have l1 := h.1.len
   have l2 := h.2.1.len
   have l3 := h.2.2.len
   simp [p_show_plan_e0, bunW, h.1.lg, h.2.1.lg, h.2.2.lg, h.1.r, h.2.1.r, h.2.2.r, em_app, run_eq, len_app, l_gt, l_st]
   have := runS_len (hb.r c hm)
   repeat refine Iff.trans (and_iff_right (by omega)) ?_
   exact Iff.rfl
  have sp : ∀ Q, f_spaced A [.lst (stW (nS b.1.toNat :: b.2.map runS))] Q = Q (.str (spS (nS b.1.toNat :: b.2.map runS))) := fun Q => f_spaced_eq (fun w hw => (blk_words hb w hw).1) (fun w hw => (blk_words hb w hw).2.1) (by rw [List.length_cons, List.length_map]; omega)
  rw [show stW (nS b.1.toNat :: b.2.map runS) = .v (.str (nS b.1.toNat)) :: stW (b.2.map runS) from rfl, blkS_sp] at sp
  simp [p_show_plan_g0, p_show_plan_b0, blkW, -List.map_map]
  refine ⟨hb.n.lg, ?_⟩
  rw [hb.n.r]
  refine ⟨by omega, ?_⟩
  rw [lc _ _ _ rfl]
  have l4 : (stW (b.2.map runS)).length + 1 ≤ 100000 := by rw [List.length_map, List.length_map]; omega
  generalize stW (b.2.map runS) = R at *
  simp [sp, lL]
  refine ⟨by omega, k _ ⟨_, _, _, ?_, rfl⟩⟩
  rw [take_map hx, hL]
  simp
 ·obtain ⟨x2, x3, L, hL, rfl⟩ := hI
  rw [List.take_length] at hL
  have okl : (W.lst L).ok 20 = true := by
   rw [hL, ok_lst, List.all_eq_true]
   intro w hw
   obtain ⟨s, hs, rfl⟩ := List.mem_map.mp hw
   obtain ⟨b, hb, rfl⟩ := List.mem_map.mp hs
   rw [ok_v]; exact (blkS_asc (h b hb)).ok
  have okl' : L.all (fun w => w.ok 19) = true := by rw [← ok_lst]; exact okl
  have jw : ∀ k, joW "; " (.lst L) k = k (joS "; " (bl.map blkS)) := fun k => by
   rw [hL]; exact joW_st j1.1
  by_cases hz : bl = []
  ·subst hz
   have : L = [] := hL
   subst this
   simp
   exact k
  ·have nz : W.eqL L [] = false := by
    rw [hL]
    cases bl with
    | nil => exact absurd rfl hz
    | cons b bl => rfl
   have e1 : orP "; " (bl.map blkS) = joS "; " (bl.map blkS) := by
    unfold orP
    rw [if_neg (by simpa using hz)]
   rw [e1] at k
   simp [okl', nz, jw, -List.all_eq_true]
   exact k
theorem f_rblk_of {b : Blk} (h : BkT b) {Q : D → Prop} (k : Q (.sh (blkW b))) : f_read_block A [.v (.str (blkS b))] Q := by
 have ln := blkS_len h
 have ln' : (blkS b).length ≤ 100000 := by omega
 have sp := blk_split b
 have e2 : ¬ (" " : Str).length = 0 := by rw [l_sp]; decide
 have r1 := fun Q => f_rint_eq (A := A) (Q := Q) h.n.2
 have hl := h.l
 rw [Int.toNat_of_nonneg h.n.1] at r1
 have lc : ∀ (k : List D → List W → Prop) x y z, k [.sh x, y, z, .un, .un] (b.2.map bunW) → qLcL (gqName 4) qYes (p_read_block_e0 A) [4] k (stW (b.2.map runS)) [.sh x, y, z, .un, .un] [] := fun k x y z kk => by
  rw [stW_map]
  refine lcL_imp (acc := []) (fun r : Run => W.v (.str (runS r))) bunW (fun r hr acc ws' q => ?_) kk
  have u := (h.r r hr).u
  have q : qLcL (gqName 4) qYes (qCall (f_read_integers A) 2 (aCons (qVar 4) (aCons (qC (.str ">*")) aNil))) [4] k ws' [.sh x, y, z, .un, .un] (acc ++ [bunW r]) := q
  have fr := fun Q k => f_rints_eq (A := A) (Q := Q) (as := bunR r) (ms := [62, 42]) rfl (bunR_40 u) (by decide) (by decide) k
  have em : mkS [62, 42] = ">*" := ext_tl (by rw [tl_mkS, gs_tl])
  rw [run_back u, em] at fr
  show qLcL (gqName 4) qYes (qCall (f_read_integers A) 2 (aCons (qVar 4) (aCons (qC (.str ">*")) aNil))) [4] k _ [.sh x, y, z, .un, .un] acc
  simp
  exact fr _ (by simpa using q)
 have ne : W.eqL (b.2.map bunW) [] = false := by
  cases e : b.2 with
  | nil => rw [e] at hl; simp at hl
  | cons r rs => rfl
 have okw : ((b.2.map bunW).all fun w => w.ok 19) = true := by
  rw [List.all_eq_true]
  intro w hw
  obtain ⟨x, _, rfl⟩ := List.mem_map.mp hw
  simp [bunW]
 have non : ((b.2.map bunW).any fun z => W.eq z (.v .non)) = false := by
  rw [List.any_eq_false]
  intro w hw
  obtain ⟨x, _, rfl⟩ := List.mem_map.mp hw
  exact fun z => nomatch z
 simp [f_read_block, p_read_block, ln', sp, e2, -List.map_map]
 have c1 : ∀ (w : W) (l : List W), cutW (w :: l) (some 1) none = l := fun w l => by
  refine (cutW_from _ 1).trans ?_
  rfl
 rw [r1, c1]
 refine ⟨by rw [List.length_map, List.length_map]; omega, lc _ _ _ _ ?_⟩
 simp [ne, okw, non, -List.map_map, -List.any_map, -List.all_map, -List.any_eq_true, -List.any_eq_false, -List.all_eq_true]
 exact k
def allB : List Bun := (List.range 10).flatMap fun i : Nat => ((List.range 10).filter fun j : Nat => decide (i < j)).map fun j : Nat => ((i : Int), (j : Int), (1 : Int))
theorem allB_idx : ∀ i : Nat, i < 10 → ∀ j : Nat, j < 10 → i < j → (idx allB (i : Int) (j : Int)).isSome = true := by decide +kernel
theorem RnT.ok {r : Run} (h : RnT r) : RunOk allB 10 r := by
 have ha := h.a
 have hb := h.b
 have hn := h.ne
 refine ⟨ha.1, by omega, hb.1, by omega, hn, ?_⟩
 have := allB_idx (min r.1 r.2.1).toNat (by omega) (max r.1 r.2.1).toNat (by omega) (by omega)
 rw [Int.toNat_of_nonneg (by omega), Int.toNat_of_nonneg (by omega)] at this
 exact Option.isSome_iff_exists.mp this
theorem plan_t {bl : List Blk} (h : ∀ b ∈ bl, BkT b) (hl : bl.length ≤ 400) : PlanOk allB 10 bl := by
 refine ⟨hl, fun b hb => (h b hb).t, fun b hb => ⟨fun r hr => ((h b hb).r r hr).ok, fun r hr => ((h b hb).r r hr).c⟩, fun b hb => ⟨(h b hb).l.1, by have := (h b hb).l; omega⟩, ?_⟩
 have key : ∀ l : List Blk, (∀ b ∈ l, BkT b) → (l.map fun b : Blk => b.2.length).sum ≤ 3 * l.length := fun l => by
  induction l with
  | nil => intro _; exact Nat.le_refl _
  | cons b l ih =>
   intro hh
   have h1 := (hh b List.mem_cons_self).l
   have h2 := ih fun x hx => hh x (List.mem_cons_of_mem _ hx)
   rw [List.map_cons, List.sum_cons, List.length_cons]
   omega
 have := key bl h
 omega
theorem blkS_mem {b : Blk} {c : Nat} (h : c ∈ tl (blkS b)) : c = 32 ∨ (48 ≤ c ∧ c ≤ 57) ∨ c = 62 ∨ c = 42 := by
 unfold blkS at h
 rw [tl_joS] at h
 rcases joinL_mem h with h | ⟨p, hp, h⟩
 ·rw [sp_tl] at h
  exact .inl (List.mem_singleton.mp h)
 ·obtain ⟨w, hw, rfl⟩ := List.mem_map.mp hp
  rcases List.mem_cons.mp hw with rfl | hw
  ·rw [tl_nS] at h
   exact .inr (.inl (numL_digits _ _ h))
  ·obtain ⟨r, hr, rfl⟩ := List.mem_map.mp hw
   rcases rowS_mem h with h | h
   ·exact .inr (.inl h)
   ·have : c = 62 ∨ c = 42 := by simpa using h
    exact .inr (.inr this)
theorem blkS_head (b : Blk) : ∃ c, (tl (blkS b)).head? = some c ∧ 48 ≤ c ∧ c ≤ 57 := by
 obtain ⟨c, h1, h2⟩ := rowS_head (as := [b.1.toNat]) (ms := []) rfl
 refine ⟨c, ?_, h2⟩
 unfold blkS
 rw [tl_joS]
 exact joinL_head h1
theorem f_rplan_of {bl : List Blk} (h : ∀ b ∈ bl, BkT b) (hl : bl.length ≤ 400) {Q : D → Prop} (k : Q (.lst (bl.map blkW))) : f_read_plan A [.v (.str (plnS bl))] Q := by
 have fa : ∀ Q, f_are_blocks A [.lst (bl.map blkW), .v (.int 10)] Q = Q (.bl true) := fun Q => f_are_blocks_yes (n := 10) (plan_t h hl)
 have da : PyData.strOk "-" = true := by decide +kernel
 have oda : ∀ m, (W.v (.str "-")).ok m = true := fun m => by rw [ok_v]; exact da
 by_cases hz : bl = []
 ·subst hz
  have e : plnS [] = "-" := rfl
  have fa : ∀ Q, f_are_blocks A [.lst [], .v (.int 10)] Q = Q (.bl true) := fa
  rw [e]
  simp [f_read_plan, p_read_plan, isA, oda, fa]
  exact k
 ·have e : plnS bl = joS "; " (bl.map blkS) := by
   unfold plnS orP
   rw [if_neg (by simpa using hz)]
  have ln := plnS_len h hl
  have ok1 := (plnS_asc h).ok
  have sp : Txt.split (plnS bl) "; " = bl.map blkS := by
   rw [e]
   refine split_join (s := 59) (S := [32]) sc_tl sc_all (by simpa using hz) fun p hp hc => ?_
   obtain ⟨b, hb, rfl⟩ := List.mem_map.mp hp
   have := blkS_mem hc
   omega
  have nd : ¬ plnS bl = "-" := fun z => by
   cases bl with
   | nil => exact hz rfl
   | cons b bl =>
    obtain ⟨c, h1, h2⟩ := blkS_head b
    rw [e] at z
    have := congrArg (fun s => (tl s).head?) z
    simp only [tl_joS, da_tl, List.map_cons] at this
    rw [joinL_head h1] at this
    injection this with this
    omega
  have e2 : ¬ ("; " : Str).length = 0 := by rw [l_sc]; decide
  have ow : ∀ m, (W.v (.str (plnS bl))).ok m = true := fun m => by rw [ok_v]; exact ok1
  have lc : ∀ (k : List D → List W → Prop) x, k [.sh x, .un, .un] (bl.map blkW) → qLcL (gqName 2) qYes (p_read_plan_e0 A) [2] k (stW (bl.map blkS)) [.sh x, .un, .un] [] := fun k x kk => by
   rw [stW_map]
   refine lcL_imp (acc := []) (fun b : Blk => W.v (.str (blkS b))) blkW (fun b hb acc ws' q => ?_) kk
   have q : qLcL (gqName 2) qYes (qCall (f_read_block A) 1 (aCons (qVar 2) aNil)) [2] k ws' [.sh x, .un, .un] (acc ++ [blkW b]) := q
   have fr := fun Q k => f_rblk_of (A := A) (Q := Q) (h b hb) k
   show qLcL (gqName 2) qYes (qCall (f_read_block A) 1 (aCons (qVar 2) aNil)) [2] k _ [.sh x, .un, .un] acc
   simp
   exact fr _ (by simpa using q)
  have ln' : (plnS bl).length ≤ 100000 := by omega
  generalize plnS bl = z at *
  simp [f_read_plan, p_read_plan, isA, oda, ow, nd, ln', sp, e2, -List.map_map]
  refine ⟨by omega, lc _ _ ?_⟩
  simp [fa, -List.map_map]
  exact k
end
end R
namespace R
open PySem PySem.Spec PyProof.Rows L2 G TL
section
variable {A : Ad} {bs : List Bun} {cs : List Bnd} {ms : List Int} {rs : List Run}
theorem f_anyplan_of {Q : D → Prop} (k : ∀ bl : List Blk, (∀ b ∈ bl, BkT b) → bl.length ≤ 3 → Q (.lst (bl.map blkW))) : f__law_any_plan A [.bag] Q := by
 simp [f__law_any_plan, p__law_any_plan]
 intro v v0 v1
 refine ⟨by omega, ?_⟩
 refine loop_rng (fun i ρ => ∃ bl x2 x3 x4 x5 x6, ρ = [.sh .bag, .lst (bl.map blkW), x2, x3, x4, x5, x6] ∧ bl.length = i ∧ ∀ b ∈ bl, BkT b) ⟨[], .un, .un, .un, .un, .un, rfl, rfl, fun b h => nomatch h⟩ (fun i ρ hi hI T kT => ?_) fun ρ hI => ?_
 ·obtain ⟨bl, x2, x3, x4, x5, x6, rfl, hl, hb⟩ := hI
  simp [p__law_any_plan_g1, p__law_any_plan_b1]
  intro u u0 u1
  refine ⟨by omega, ?_⟩
  refine loop_rng (fun i ρ => ∃ rs y2 x4 x5 x6, ρ = [.sh .bag, .lst (bl.map blkW), y2, .lst (rs.map bunW), x4, x5, x6] ∧ rs.length = i ∧ ∀ r ∈ rs, RnT r) ⟨[], _, x4, x5, x6, rfl, rfl, fun b h => nomatch h⟩ (fun j ρ hj hI T kT => ?_) fun ρ hI => ?_
  ·obtain ⟨rs, y2, x4, x5, x6, rfl, hrl, hr⟩ := hI
   simp [p__law_any_plan_g0, p__law_any_plan_b0]
   intro a a0 a1
   refine ⟨cpow18, fun q q0 q1 x x0 x1 => onW_pick x0 (by simpa using x1) fun w hw => ?_⟩
   obtain ⟨c, rfl, c0, c1⟩ : ∃ c : Int, w = .v (.int c) ∧ 1 ≤ c ∧ c ≤ 1000000000000000000 := by
    simp only [List.mem_cons, List.not_mem_nil, or_false] at hw
    rcases hw with rfl | rfl | rfl <;> exact ⟨_, rfl, by omega, by omega⟩
   simp
   intro s s0 s1
   refine ⟨by omega, kT _ ⟨rs ++ [(a, (a + 1 + s) % 10, c)], _, _, _, _, by simp [bunW]; exact ⟨rfl, rfl, rfl, rfl⟩, by simp [hrl], fun r hm => ?_⟩⟩
   rcases List.mem_append.mp hm with hm | hm
   ·exact hr r hm
   ·rw [List.mem_singleton.mp hm]
    exact ⟨⟨a0, a1⟩, ⟨Int.emod_nonneg _ (by decide), Int.emod_lt_of_pos _ (by decide)⟩, ⟨c0, c1⟩, by
     show a ≠ (a + 1 + s) % 10
     omega⟩
  ·obtain ⟨rs, y2, x4, x5, x6, rfl, hrl, hr⟩ := hI
   simp
   refine ⟨cpow18, fun q q0 q1 x x0 x1 => onW_pick x0 (by simpa using x1) fun w hw => ?_⟩
   obtain ⟨c, rfl, c0, c1⟩ : ∃ c : Int, w = .v (.int c) ∧ 1 ≤ c ∧ c ≤ 1000000000000000000 := by
    simp only [List.mem_cons, List.not_mem_nil, or_false] at hw
    rcases hw with rfl | rfl | rfl <;> exact ⟨_, rfl, by omega, by omega⟩
   simp
   refine ⟨by omega, kT _ ⟨bl ++ [(c, rs)], _, _, _, _, _, by simp [blkW]; exact ⟨rfl, rfl, rfl, rfl, rfl⟩, by simp [hl], fun b hm => ?_⟩⟩
   rcases List.mem_append.mp hm with hm | hm
   ·exact hb b hm
   ·rw [List.mem_singleton.mp hm]
    exact ⟨⟨c0, c1⟩, hr, by rw [hrl]; omega⟩
 ·obtain ⟨bl, x2, x3, x4, x5, x6, rfl, hl, hb⟩ := hI
  simp
  exact k bl hb (by omega)
theorem sh_runT {r : Run} (h : RnT r) : Sh 1 147 (bunW r) := by
 have ha := h.a
 have hb := h.b
 have hc := h.c
 refine Sh.tup (n := 0) (B := 46) (m := 3) (fun w hw => ?_) (by simp)
 have : w = .v (.int r.1) ∨ w = .v (.int r.2.1) ∨ w = .v (.int r.2.2) := by simpa using hw
 rcases this with rfl | rfl | rfl <;> exact Sh.int (by omega)
theorem sh_planT {bl : List Blk} (h : ∀ b ∈ bl, BkT b) (hl : bl.length ≤ 400) : Sh 4 363603 (.lst (bl.map blkW)) := by
 refine Sh.lst (n := 3) (B := 907) (m := 400) (fun w hw => ?_) (by rw [List.length_map]; exact hl)
 obtain ⟨b, hb, rfl⟩ := List.mem_map.mp hw
 have h1 := h b hb
 refine Sh.tup (n := 2) (B := 450) (m := 2) (fun w hw => ?_) (by simp)
 have : w = .v (.int b.1) ∨ w = .lst (b.2.map bunW) := by simpa using hw
 rcases this with rfl | rfl
 ·exact (Sh.int (by have := h1.t; omega)).up (by decide) (by omega)
 ·exact Sh.lst (n := 1) (B := 147) (m := 3) (fun w hw => by
   obtain ⟨r, hr, rfl⟩ := List.mem_map.mp hw
   exact sh_runT (h1.r r hr)) (by rw [List.length_map]; exact h1.l.2)
theorem sh_plnS {bl : List Blk} (h : ∀ b ∈ bl, BkT b) (hl : bl.length ≤ 400) : Sh 0 392012 (.v (.str (plnS bl))) := Sh.str (plnS_asc h) (plnS_len h hl)
theorem shows_pair {bl : List Blk} (h : ∀ b ∈ bl, BkT b) (hl : bl.length ≤ 400) : shows (.lst [.v (.str (plnS bl)), .lst (bl.map blkW)]) := by
 refine Sh.shows (n := 5) (B := (392012 + 2) * 2 + 3) (Sh.lst (n := 4) (B := 392012) (m := 2) (fun w hw => ?_) (by simp)) (by decide) (by decide)
 have : w = .v (.str (plnS bl)) ∨ w = .lst (bl.map blkW) := by simpa using hw
 rcases this with rfl | rfl
 ·exact (sh_plnS h hl).up (by decide) (Nat.le_refl _)
 ·exact (sh_planT h hl).up (Nat.le_refl _) (by decide)
theorem plans_loop {xs : List (List Blk)} (hx : ∀ bl ∈ xs, (∀ b ∈ bl, BkT b) ∧ bl.length ≤ 400) {E : EQ} (x0 x1 x2 : D) (k : ∀ y3 y4 y5 y6 y7, E.nx [x0, x1, x2, y3, y4, y5, y6, y7]) : ∀ (x3 x4 x5 x6 x7 : D), qLoop (p__law_plans_right_g0 A) (p__law_plans_right_b0 A) E (xs.map fun bl => .lst (bl.map blkW)) [x0, x1, x2, x3, x4, x5, x6, x7] := by
 intro x3 x4 x5 x6 x7
 refine loop_inv (fun bl : List Blk => W.lst (bl.map blkW)) (fun i ρ => ∃ y3 y4 y5 y6 y7, ρ = [x0, x1, x2, y3, y4, y5, y6, y7]) ⟨_, _, _, _, _, rfl⟩ (fun i bl ρ hm hI T kT => ?_) fun ρ hI => ?_
 ·obtain ⟨x3, x4, x5, x6, x7, rfl⟩ := hI
  have h := (hx bl (List.mem_of_getElem? hm)).1
  have hl := (hx bl (List.mem_of_getElem? hm)).2
  have f1 := fun Q k => f_lplan_eq (A := A) (Q := Q) h hl k
  have f2 := fun Q k => f_shplan_eq (A := A) (Q := Q) h hl k
  have f3 := fun Q k => f_rplan_of (A := A) (Q := Q) h hl k
  have s1 : shows (.lst (bl.map blkW)) := (sh_planT h hl).shows (by decide) (by decide)
  have s2 := shows_pair h hl
  have a1 := fun Q => f_alike_eq (A := A) (Q := Q) s1
  have a2 := fun Q => f_alike_eq (A := A) (Q := Q) s2
  simp [p__law_plans_right_g0, p__law_plans_right_b0]
  refine f1 _ ?_
  simp [s1]
  refine f2 _ ?_
  simp
  refine f3 _ ?_
  simp [a2, s1]
  refine f3 _ ?_
  simp
  refine ⟨by omega, f3 _ ?_⟩
  simp [a1]
  exact kT _ ⟨_, _, _, _, _, rfl⟩
 ·obtain ⟨x3, x4, x5, x6, x7, rfl⟩ := hI
  exact k _ _ _ _ _
theorem RnT.of {n : Nat} {r : Run} (o : RunOk bs n r) (hn : n ≤ 10) (t0 : 1 ≤ r.2.2) (t1 : r.2.2 ≤ 1000000000000000000) : RnT r := ⟨⟨o.a0, by have := o.a1; omega⟩, ⟨o.b0, by have := o.b1; omega⟩, ⟨t0, t1⟩, o.ne⟩
theorem bk_one {r : Run} {t : Int} (h : RnT r) (t0 : 1 ≤ t) (t1 : t ≤ 1000000000000000000) : BkT (t, [r]) := ⟨⟨t0, t1⟩, fun q hq => by rw [List.mem_singleton.mp hq]; exact h, by simp⟩
theorem f_plans_of {Q : D → Prop} (ok : ClOk bs cs) (hne : bs ≠ []) (k : Q (.bl true)) : f__law_plans_right A [.bag, .lst (bs.map bunW)] Q := by
 have fr := fun g Q h => f_run_of (A := A) (g := g) (Q := Q) ok hne h
 simp [f__law_plans_right, p__law_plans_right]
 refine f_anyplan_of fun bl hb hl => ?_
 simp
 refine ⟨by decide, ?_⟩
 have h10 : cs.length ≤ 10 := ok.len.2.2
 refine lc_rng (fun i acc => ∃ bl : List Blk, acc = bl.map blkW ∧ bl.length = i ∧ ∀ b ∈ bl, BkT b) ⟨[], rfl, rfl, fun _ h => nomatch h⟩ (fun i acc hi hI ws' kk => ?_) fun acc hI => ?_
 ·obtain ⟨bl, rfl, hl, hb⟩ := hI
  unfold p__law_plans_right_e0 at kk ⊢
  simp
  refine fr _ _ fun r o t0 t1 => ?_
  simp
  have := kk ((bl ++ [(1 + (i : Int), [r])]).map blkW) ⟨_, rfl, by simp [hl], fun b hm => by
   rcases List.mem_append.mp hm with hm | hm
   ·exact hb b hm
   ·rw [List.mem_singleton.mp hm]
    exact bk_one (RnT.of o h10 t0 t1) (by omega) (by omega)⟩
  simpa [blkW] using this
 ·obtain ⟨b3, rfl, h3, hb3⟩ := hI
  simp [-List.reduceReplicate]
  have fin : ∀ xs : List (List Blk), xs.length ≤ 10 → (∀ bl ∈ xs, (∀ b ∈ bl, BkT b) ∧ bl.length ≤ 400) → ∀ ws, ws = (xs.map fun bl => W.lst (bl.map blkW)) → p__law_plans_right_c0 A { nx := fun x => Q D.non, rt := Q } [.sh .bag, .sh (.lst (bs.map bunW)), .lst ws, .un, .un, .un, .un, .un] := fun xs hl hx ws e => by
   have hl : ws.length ≤ 10 := by rw [e, List.length_map]; exact hl
   simp [p__law_plans_right_c0]
   rw [e]
   refine plans_loop hx _ _ _ (fun y3 y4 y5 y6 y7 => ?_) _ _ _ _ _
   simp
   exact k
  intro v v0 v1
  split
  ·refine fr _ _ fun r o t0 t1 => ?_
   simp [-List.reduceReplicate]
   refine fin [bl, [], b3, List.replicate 400 (1, [r])] (Nat.le_trans (Nat.le_of_eq (rfl : _ = 4)) (by decide)) (fun z hz => ?_) _ (by simp [-List.reduceReplicate, blkW])
   have hz : z = bl ∨ z = [] ∨ z = b3 ∨ z = List.replicate 400 (1, [r]) := by simpa [-List.reduceReplicate] using hz
   rcases hz with rfl | rfl | rfl | rfl
   ·exact ⟨hb, by omega⟩
   ·exact ⟨(fun _ h => nomatch h), by decide⟩
   ·exact ⟨hb3, by omega⟩
   ·exact ⟨fun b hm => by rw [List.eq_of_mem_replicate hm]; exact bk_one (RnT.of o h10 t0 t1) (by decide) (by decide), by rw [List.length_replicate]; exact Nat.le_refl _⟩
  ·refine fin [bl, [], b3] (Nat.le_trans (Nat.le_of_eq (rfl : _ = 3)) (by decide)) (fun z hz => ?_) _ rfl
   have hz : z = bl ∨ z = [] ∨ z = b3 := by simpa using hz
   rcases hz with rfl | rfl | rfl
   ·exact ⟨hb, by omega⟩
   ·exact ⟨(fun _ h => nomatch h), by decide⟩
   ·exact ⟨hb3, by omega⟩
end
end R
namespace R
open PySem PySem.Spec PyProof.Rows L2 G TL
section
variable {A : Ad} {bs : List Bun} {cs : List Bnd} {ms : List Int} {rs : List Run}
def J92 (ρ : List D) : Prop := ∃ y0 y2 y3 y4 y5 y6 y7 y8 y9 y10 y11 y12 y13 y14 y15, ρ = [y0, .sh .bag, y2, y3, y4, y5, y6, y7, y8, y9, y10, y11, y12, y13, y14, y15]
theorem k92_c0 {E : EQ} (ok : ClOk bs cs) (hne : bs ≠ []) {x0 x2 x3 x5 x6 x7 x8 x9 x10 x11 x12 x13 x14 x15 : D} (k : ∀ ρ, J92 ρ → E.nx ρ) : p_law_k92_c0 A E [x0, .sh .bag, x2, x3, .sh (.lst (bs.map bunW)), x5, x6, x7, x8, x9, x10, x11, x12, x13, x14, x15] := by
 simp [p_law_k92_c0]
 refine f_plans_of ok hne ?_
 simp
 exact k _ ⟨_, _, _, _, _, _, _, _, _, _, _, _, _, _, _, rfl⟩
theorem sh_led {is : List Int} (h : ∀ i ∈ is, 0 ≤ i ∧ i ≤ 1000000000000000000) (hl : is.length ≤ 100) : Sh 0 41012 (.v (.str (leaS is))) := by
 refine (Sh.str (L := 4101) (spS_asc fun w hw => ?_) ?_).up (Nat.le_refl _) (by decide)
 ·obtain ⟨c, hc, rfl⟩ := List.mem_map.mp hw
  exact nS_asc _
 ·have := spS_len (ws := is.map fun i => nS i.toNat) (B := 40) fun w hw => by
   obtain ⟨c, hc, rfl⟩ := List.mem_map.mp hw
   exact (N40.le ⟨(h c hc).1, by have := (h c hc).2; omega⟩).len
  rw [List.length_map] at this
  show (spS (is.map fun i => nS i.toNat)).length ≤ _
  omega
theorem k92_c1 {E : EQ} (ok : ClOk bs cs) (hne : bs ≠ []) {x0 x2 x5 x6 x7 x8 x9 x10 x11 x12 x13 x14 x15 : D} (k : ∀ ρ, J92 ρ → E.nx ρ) : p_law_k92_c1 A E [x0, .sh .bag, x2, .sh (.lst (cs.map bndW)), .sh (.lst (bs.map bunW)), x5, x6, x7, x8, x9, x10, x11, x12, x13, x14, x15] := by
 have hlen := ok.len
 simp [p_law_k92_c1]
 refine ⟨by omega, by simp [rngW]; omega, ?_⟩
 refine lc_rng (fun i acc => ∃ is : List Int, acc = iW is ∧ is.length ≤ i ∧ ∀ x ∈ is, 0 ≤ x ∧ x ≤ 10) ⟨[], rfl, Nat.le_refl _, fun _ h => nomatch h⟩ (fun i acc hi hI ws' kk => ?_) fun acc hI => ?_
 ·obtain ⟨is, rfl, hl, hb⟩ := hI
  unfold p_law_k92_e1 p_law_k92_t0 at kk ⊢
  simp
  intro v v0 v1
  split
  ·have := kk (iW (is ++ [(i : Int)])) ⟨_, rfl, by simp; omega, fun x hx => by
    rcases List.mem_append.mp hx with hx | hx
    ·exact hb x hx
    ·rw [List.mem_singleton.mp hx]; omega⟩
   simpa using this
  ·exact kk _ ⟨is, rfl, by omega, hb⟩
 ·obtain ⟨is, rfl, hl, hb⟩ := hI
  have h40 : ∀ i ∈ is, N40 i := fun i hi => N40.le ⟨(hb i hi).1, by have := (hb i hi).2; omega⟩
  have f1 := fun Q => f_shset_eq (A := A) (Q := Q) h40 (by omega)
  have f2 := fun Q => f_lset_eq (A := A) (Q := Q) h40 (by omega)
  have s1 : shows (.v (.str (leaS is))) := (sh_led (fun i hi => ⟨(hb i hi).1, by have := (hb i hi).2; omega⟩) (by omega)).shows (by decide) (by decide)
  have a1 := fun Q => f_alike_eq (A := A) (Q := Q) s1
  have o1 : (W.lst (iW is)).ok 20 = true := W.ok_up _ 1 20 (sh_ints (m := 45) (fun i hi => by have := hb i hi; omega) (by omega)).ok (by decide)
  have l1 : (iW is).length ≤ 100000 := by rw [List.length_map]; omega
  generalize iW is = L at *
  simp [f1, f2, a1]
  have e1 : W.eqL L L = true := by
   have := eq_refl o1
   unfold W.eq at this
   exact this
  have o2 : ∀ x ∈ L, x.ok 19 = true := by
   rw [ok_lst, List.all_eq_true] at o1
   exact o1
  rw [if_pos e1]
  exact ⟨o2, k92_c0 ok hne k⟩
def giv92 (_ : List Bun) (is : List Int) : Prop := (∀ i ∈ is, 0 ≤ i ∧ i ≤ 1000000000000000000) ∧ is.length ≤ 45
theorem giv_step {E : EQ} {x0 x2 x3 x4 x5 x6 x7 x8 x9 x10 x11 x12 x13 x14 x15 : D} {is : List Int} (hi : giv92 bs is) (k : ∀ y7 y9, E.nx [x0, .sh .bag, x2, x3, x4, x5, x6, y7, x8, y9, x10, x11, x12, x13, x14, x15]) : p_law_k92_g1 A (.sh (.tup (iW is))) [x0, .sh .bag, x2, x3, x4, x5, x6, x7, x8, x9, x10, x11, x12, x13, x14, x15] fun ρ1 => p_law_k92_b1 A E ρ1 := by
 have h40 : ∀ i ∈ is, N40 i := fun i h => N40.le ⟨(hi.1 i h).1, by have := (hi.1 i h).2; omega⟩
 have f1 := fun Q => f_lleads_eq (A := A) (Q := Q) h40 (Nat.le_trans hi.2 (by decide))
 have f2 := fun Q => f_shleads_eq (A := A) (Q := Q) h40 (Nat.le_trans hi.2 (by decide))
 have f3 := fun Q k => f_rleads_of (A := A) (Q := Q) hi.1 hi.2 k
 have s1 : shows (.lst [.v (.str (leaS is)), .tup (iW is)]) := (Sh.lst (n := 1) (B := 41012) (m := 2) (fun w hw => by
  have : w = .v (.str (leaS is)) ∨ w = .tup (iW is) := by simpa using hw
  rcases this with rfl | rfl
  ·exact (sh_led hi.1 (Nat.le_trans hi.2 (by decide))).up (by decide) (Nat.le_refl _)
  ·exact (sh_intsT (m := 45) (fun i h => by have := hi.1 i h; omega) hi.2).up (Nat.le_refl _) (by decide)) (by simp)).shows (by decide) (by decide)
 have a1 := fun Q => f_alike_eq (A := A) (Q := Q) s1
 simp [p_law_k92_g1, p_law_k92_b1, f1, f2]
 refine f3 _ ?_
 simp [a1]
 exact k _ _
theorem k92_c2 {E : EQ} (ok : ClOk bs cs) (hne : bs ≠ []) {x0 x2 x6 x7 x8 x9 x10 x12 x13 x14 x15 : D} {is js : List Int} (hi : giv92 bs is) (hj : giv92 bs js) (k : ∀ ρ, J92 ρ → E.nx ρ) : p_law_k92_c2 A E [x0, .sh .bag, x2, .sh (.lst (cs.map bndW)), .sh (.lst (bs.map bunW)), .sh (.tup (iW is)), x6, x7, x8, x9, x10, .sh (.tup (iW js)), x12, x13, x14, x15] := by
 simp [p_law_k92_c2]
 refine giv_step hi fun y7 y9 => ?_
 show qLoop _ _ _ _ _
 rw [qLoop_cons]
 refine giv_step hj fun y7 y9 => ?_
 show qLoop _ _ _ _ _
 rw [qLoop_cons]
 refine giv_step (bs := bs) (is := []) ⟨(fun _ h => nomatch h), by decide⟩ fun y7 y9 => ?_
 show qLoop _ _ _ _ _
 rw [qLoop_nil]
 exact k92_c1 ok hne k
theorem k92_c3 {E : EQ} (ok : ClOk bs cs) (hne : bs ≠ []) {x0 x2 x6 x7 x8 x9 x10 x11 x12 x13 x14 x15 : D} {is : List Int} (hi : giv92 bs is) (k : ∀ ρ, J92 ρ → E.nx ρ) : p_law_k92_c3 A E [x0, .sh .bag, x2, .sh (.lst (cs.map bndW)), .sh (.lst (bs.map bunW)), .sh (.tup (iW is)), x6, x7, x8, x9, x10, x11, x12, x13, x14, x15] := by
 have hlen := ok.len
 simp [p_law_k92_c3]
 refine ⟨by omega, ?_⟩
 refine lcL_inv' bunW (fun i acc => ∃ js : List Int, acc = iW js ∧ js.length = i ∧ ∀ x ∈ js, 0 ≤ x ∧ x ≤ 1000000000000000000) ⟨[], rfl, rfl, fun _ h => nomatch h⟩ (fun i t acc ht hI ws' kk => ?_) fun acc hI => ?_
 ·obtain ⟨js, rfl, hl, hb⟩ := hI
  have hm := ok.each t (List.mem_of_getElem? ht)
  have p1 := hm.p1
  have pm := hm.pm
  unfold p_law_k92_e0 at kk ⊢
  simp [bunW, at3_2]
  refine ⟨by omega, fun v v0 v1 => ?_⟩
  have := kk (iW (js ++ [v])) ⟨_, rfl, by simp [hl], fun x hx => by
   rcases List.mem_append.mp hx with hx | hx
   ·exact hb x hx
   ·rw [List.mem_singleton.mp hx]; omega⟩
  simpa using this
 ·obtain ⟨js, rfl, hl, hb⟩ := hI
  exact k92_c2 ok hne hi (js := js) ⟨hb, by omega⟩ k
theorem clu_40 (ok : ClOk bs cs) : (∀ c ∈ cs, B40 c) ∧ ∀ t ∈ bs, U40 t := by
 refine ⟨fun c hc => ?_, fun t ht => ?_⟩
 ·have := bnd_in ok c hc
  exact ⟨N40.le (by omega), N40.le (by omega)⟩
 ·have q := ok.each t ht
  have := q.f0
  have := q.fs
  have := q.sn
  have := q.p1
  have := q.pm
  have := ok.len
  exact ⟨N40.le (by omega), N40.le (by omega), N40.le (by omega)⟩
theorem car_step {E : EQ} {x0 x2 x4 x5 x6 x7 x8 x9 x10 x11 x12 x13 x14 x15 : D} {rs : List Bun} {x3 : D} (h3 : x3 = .lst (cs.map bndW) ∨ x3 = .sh (.lst (cs.map bndW))) (ok : ClOk rs cs) (k : ∀ y7 y8 y9 y10, E.nx [x0, .sh .bag, x2, .sh (.lst (cs.map bndW)), x4, x5, x6, y7, y8, y9, y10, x11, x12, x13, x14, x15]) : p_law_k92_g0 A (.sh (.lst (rs.map bunW))) [x0, .sh .bag, x2, x3, x4, x5, x6, x7, x8, x9, x10, x11, x12, x13, x14, x15] fun ρ1 => p_law_k92_b0 A E ρ1 := by
 have hlen := ok.len
 obtain ⟨h40, u40⟩ := clu_40 ok
 have ne : cs ≠ [] := by intro z; rw [z] at hlen; simp at hlen
 have f1 := fun Q => f_ltext_eq (A := A) (Q := Q) h40 u40 (by omega) (by omega) ne
 have f2 : ∀ Q, f_show_cluster A [.obj A.Cluster clF [.lst (cs.map bndW), .lst (rs.map bunW), .dit (rs.map kK) (numW rs.length)]] Q = Q (.str (cluS rs cs)) := fun Q => f_showc_eq (A := A) (Q := Q) h40 u40 (by omega) (by omega)
 have f3 := fun Q k => f_rclu_of (A := A) (Q := Q) ok h40 u40 (by omega) (by omega) k
 have ln := clu_len h40 u40
 have s1 : shows (.v (.str (cluS rs cs))) := (Sh.str (L := 10000) (clu_asc rs cs) (by omega)).shows (by decide) (by decide)
 have a1 := fun Q => f_alike_eq (A := A) (Q := Q) s1
 have fe : ∀ Q, f_Clusteru_equ A [.obj A.Cluster clF [.lst (cs.map bndW), .lst (rs.map bunW), .dit (rs.map kK) (numW rs.length)], .obj A.Cluster clF [.lst (cs.map bndW), .lst (rs.map bunW), .dit (rs.map kK) (numW rs.length)]] Q = Q (.bl true) := fun Q => f_eq_same (A := A) (bs := rs) (cs := cs) (Q := Q)
 have fb : ∀ Q, f_Cluster_bounds A [.obj A.Cluster clF [.lst (cs.map bndW), .lst (rs.map bunW), .dit (rs.map kK) (numW rs.length)]] Q = Q (.lst (cs.map bndW)) := fun Q => f_bounds_eq (A := A) (bs := rs) (cs := cs) (Q := Q)
 have ok1 := s1.1
 rw [ok_v] at ok1
 have okb : (W.lst (cs.map bndW)).ok 20 = true := by
  rw [ok_lst, List.all_eq_true]
  intro w hw
  obtain ⟨c, _, rfl⟩ := List.mem_map.mp hw
  simp [bndW]
 have e1 : W.eqL (cs.map bndW) (cs.map bndW) = true := by
  have := eq_refl okb
  unfold W.eq at this
  exact this
 have okb' : ∀ x ∈ cs.map bndW, x.ok 19 = true := by
  rw [ok_lst, List.all_eq_true] at okb
  exact okb
 have ini : ∀ Q, f_Clusteru_initu A [.lst (cs.map bndW), .lst (rs.map bunW)] Q = Q clF [.lst (cs.map bndW), .lst (rs.map bunW), .dit (rs.map kK) (numW rs.length)] := fun Q => f_init_eq ok
 have lcs : (cs.map bndW).length ≤ 100000 := by rw [List.length_map]; omega
 have vk : vOk (.str (cluS rs cs)) = true := ok1
 rcases h3 with rfl | rfl
 ·generalize cs.map bndW = C at *
  generalize rs.map bunW = R at *
  simp [p_law_k92_g0, p_law_k92_b0, ini, f1, -List.map_map]
  refine f3 _ ?_
  simp [f2, a1, fe, fb, vk, e1, -List.map_map]
  exact ⟨okb', k _ _ _ _⟩
 ·generalize cs.map bndW = C at *
  generalize rs.map bunW = R at *
  simp [p_law_k92_g0, p_law_k92_b0, ini, f1, -List.map_map]
  refine f3 _ ?_
  simp [f2, a1, fe, fb, vk, e1, -List.map_map]
  exact ⟨okb', k _ _ _ _⟩
theorem clok_sub (ok : ClOk bs cs) (hs : rs.Sublist bs) : ClOk rs cs := by
 have hlen := ok.len
 refine clok_of (fun t ht => ok.each t (hs.subset ht)) ((hs.map bkey).nodup ok.nd) (Nat.le_trans hs.length_le hlen.1) hlen.2.1 hlen.2.2 fun c hc => ?_
 exact bnd_in ok c hc
theorem k92_c4 {E : EQ} (ok : ClOk bs cs) (hne : bs ≠ []) {x0 x2 x6 x7 x8 x9 x10 x11 x12 x13 x14 x15 : D} {is : List Int} (hi : giv92 bs is) (k : ∀ ρ, J92 ρ → E.nx ρ) : p_law_k92_c4 A E [x0, .sh .bag, x2, .lst (cs.map bndW), .sh (.lst (bs.map bunW)), .sh (.tup (iW is)), x6, x7, x8, x9, x10, x11, x12, x13, x14, x15] := by
 have hlen := ok.len
 simp [p_law_k92_c4]
 have c1 : cutW (bs.map bunW) none (some 1) = (bs.take 1).map bunW := by
  refine (cutW_to _ 1).trans ?_
  rw [List.map_take]
 rw [c1]
 refine car_step (.inl rfl) ok fun y7 y8 y9 y10 => ?_
 show qLoop _ _ _ _ _
 rw [qLoop_cons]
 refine car_step (rs := []) (.inr rfl) (clok_sub ok (List.nil_sublist _)) fun y7 y8 y9 y10 => ?_
 show qLoop _ _ _ _ _
 rw [qLoop_cons]
 refine car_step (rs := bs.take 1) (.inr rfl) (clok_sub ok (List.take_sublist _ _)) fun y7 y8 y9 y10 => ?_
 show qLoop _ _ _ _ _
 rw [qLoop_nil]
 exact k92_c3 ok hne hi k
end
end R
namespace R
open PySem PySem.Spec PyProof.Rows L2 G TL
section
variable {A : Ad} {bs : List Bun} {cs : List Bnd} {ms : List Int} {rs : List Run}
theorem k92_law (A : Ad) : runL (p_law_k92 A) 16 1 := by
 simp [runL, p_law_k92]
 refine loop_rng (fun _ ρ => J92 ρ) ⟨_, _, _, _, _, _, _, _, _, _, _, _, _, _, _, rfl⟩ (fun i ρ hi hI T kT => ?_) fun ρ hI => ?_
 ·obtain ⟨y0, y2, y3, y4, y5, y6, y7, y8, y9, y10, y11, y12, y13, y14, y15, rfl⟩ := hI
  simp [p_law_k92_g2, p_law_k92_b2]
  refine f_net1_of (by decide) (by decide) fun n bs ms cs hn ho => ?_
  have ok := net_ok ho
  have hne := ho.ne
  have hlen := ok.len
  simp
  refine ⟨⟨by omega, by omega⟩, fun v v0 v1 => ?_⟩
  obtain ⟨c, hc⟩ : ∃ c, cs[v.toNat]? = some c := ⟨_, List.getElem?_eq_getElem (by omega)⟩
  have hcb := bnd_in ok c (List.mem_of_getElem? hc)
  have p30 : CPow 10 30 := by unfold CPow; decide
  have lv : v.toNat < cs.length := by omega
  rw [at_map (f := bndW) v0 hc]
  simp
  refine ⟨p30, fun x x0 x1 => onW_pick x0 (by simpa using x1) fun w hw => ?_⟩
  obtain ⟨d, rfl, d0, d1, d2⟩ : ∃ d : Bnd, w = bndW d ∧ 0 ≤ d.1 ∧ d.1 ≤ d.2 ∧ d.2 ≤ 1000000000000000000000000000000 := by
   simp only [List.mem_cons, List.not_mem_nil, or_false] at hw
   rcases hw with rfl | rfl | rfl
   ·exact ⟨c, rfl, hcb⟩
   ·exact ⟨(0, 1000000000000000000000000000000), rfl, by decide, by decide, by decide⟩
   ·exact ⟨(1000000000000000000000000000000, 1000000000000000000000000000000), rfl, by decide, by decide, by decide⟩
  have ok2 : ClOk bs (cs.set v.toNat d) := clok_of (by rw [List.length_set]; exact ok.each) ok.nd hlen.1 (by rw [List.length_set]; exact hlen.2.1) (by rw [List.length_set]; exact hlen.2.2) fun e he => by
   rcases List.mem_or_eq_of_mem_set he with h | h
   ·exact bnd_in ok e h
   ·subst h; exact ⟨d0, d1, d2⟩
  have g92 : giv92 bs ms := by
   have hl := ho.leads
   refine ⟨fun m hm => ?_, by rw [hl.1]; exact hlen.1⟩
   obtain ⟨j, hj⟩ := List.mem_iff_getElem?.mp hm
   have lj : j < ms.length := (List.getElem?_eq_some_iff.mp hj).1
   have lt : j < bs.length := by rw [← hl.1]; exact lj
   have q := hl.2 j m _ hj (List.getElem?_eq_getElem lt)
   have := (ok.each _ (List.getElem_mem lt)).pm
   omega
  have es : (cs.map bndW).set v.toNat (bndW d) = (cs.set v.toNat d).map bndW := by rw [List.map_set]
  have := k92_c4 (A := A) (E := { nx := T, rt := fun d => d = D.bl true, bk := sRet (qC (.bl true)) { nx := fun x => False, rt := fun d => d = D.bl true }, ct := T }) ok2 hne (x0 := y0) (x2 := .sh (.v (.int i))) (x6 := .int v) (x7 := y7) (x8 := y8) (x9 := y9) (x10 := y10) (x11 := y11) (x12 := y12) (x13 := y13) (x14 := y14) (x15 := y15) g92 kT
  rw [← es] at this
  have ex : ixN cs.length v = some v.toNat := ixN_nat v0 v1
  simp [ex]
  exact this
 ·obtain ⟨y0, y2, y3, y4, y5, y6, y7, y8, y9, y10, y11, y12, y13, y14, y15, rfl⟩ := hI
  simp
end
end R
set_option synthInstance.maxHeartbeats 4000000
set_option synthInstance.maxSize 100000
namespace G
open PySem PySem.Spec PyProof.Rows L2
def top (i : Nat) : Stmt := PySem.Challenge.pw_leadswitch_k92_whole_texts_there_and_bac.main.body.getD i (.Pass ⟨0, 0, 0, 0⟩)
section
variable {P : Program} {w : World} {K : PySem.W.Frag} {mg : Str → Option Value} {base : Heap}
abbrev s__law_bag : Stmt := top 43
abbrev sc__law_bag_N : List Str := ["_law_script", "_law_cell"]
theorem sc__law_bag : FnScope sc__law_bag_N ["_law_script"] (defScope s__law_bag) := ⟨rfl, rfl, rfl, by decide +kernel, rfl, by decide +kernel, by decide +kernel⟩
theorem ok__law_bag (D : Def K mg "_law_bag" s__law_bag ["_law_script"]) (B : Blt mg) : Cal P w K mg base CX0 1 "_law_bag" ["_law_script"] (sp_bag K) := by
 refine D.ok sc__law_bag (fun vs H Q E h => by obtain ⟨a, ns, rfl, _⟩ := h; rfl) (fun f cdv A out s H vs Q E hr h => ?_)
 obtain ⟨a, ns, rfl, hS, hl, k⟩ := h
 refine ⟨_, (pss_one (ps_ret (pe_lst (pa_cons pe_int (pa_cons pe_int (pa_cons pe_int (pa_cons (pe_lc (own := [("_law_cell", 1)]) (g := (gName 1)) (tt := tYes) rfl sc__law_bag.nd (pi_list (pe_slice (kslL K) (pv 0) po_none (po_some pe_int))) (blkOk_by (own := [("_law_cell", 1)]) (N := sc__law_bag_N) (sc := defScope s__law_bag) (by decide +kernel)) (fun _ _ _ _ _ => (pg_name (i := 1) sc__law_bag.nd rfl (Or.inl rfl))) (fun _ _ _ _ _ => pts_nil) (fun _ _ _ _ _ => (pe_callB call_abs (by rfl) B.abs (by decide +kernel) (pa_cons (pv 1) pa_nil)))) pa_nil))))))), ?_⟩
 refine ⟨_, rfl, _, rfl, a, _, rfl, hS, fun p hp => ?_⟩
 obtain ⟨n1, n2, e⟩ := cut_map V.int ns none (some 63)
 have hb : ((ns.drop n1).take n2).length ≤ 1000 := by
  rw [List.length_take, List.length_drop]
  omega
 rw [e]
 generalize (ns.drop n1).take n2 = ms at hb
 refine ⟨p, rfl, ⟨_, SqL.of upd_same⟩, fun L hL => ?_⟩
 refine lc_map (xs := ms.map V.int) (ys := (ms.map fun i => if i < 0 then -i else i).map V.int) (SqL.of upd_same) hL (by simp) (by simp; omega) (fun x => rfl) (fun i x y hx hy H1 e1 Q1 q1 => ?_) (fun H1 e1 hD => ?_)
 ·rw [List.getElem?_map] at hx
  rw [List.getElem?_map, List.getElem?_map] at hy
  cases em : ms[i]? with
  | none => rw [em] at hx; cases hx
  | some n =>
   rw [em] at hx hy
   cases hx
   cases hy
   exact ⟨_, rfl, n, rfl, q1 H1 (Same.refl _)⟩
 ·refine ⟨by show 4 ≤ sizeLine; decide, fun b hb => ?_⟩
  have e0 : Same H (upd H p (.lst (ms.map V.int))) := same_new hp
  have nb : L ≠ b := ne_of_none hD hb
  refine k b _ ((e0.trans e1).free hb) ((e0.trans e1).trans (same_new hb)) ⟨L, 0, 1234567891, 0, _, upd_same, by rw [upd_ne nb]; exact hD, nb, by decide, fun z hz => ?_, by decide, by decide, by decide⟩
  obtain ⟨i, _, rfl⟩ := List.mem_map.mp hz
  split <;> omega
abbrev s__law_take : Stmt := top 44
abbrev sc__law_take_N : List Str := ["_law_bag_here", "_law_many", "_law_cell", "_law_value", "_law_first", "_law_second"]
theorem sc__law_take : FnScope sc__law_take_N ["_law_bag_here", "_law_many"] (defScope s__law_take) := ⟨rfl, rfl, rfl, by decide +kernel, rfl, by decide +kernel, by decide +kernel⟩
theorem ok__law_take (D : Def K mg "_law_take" s__law_take ["_law_bag_here", "_law_many"]) (B : Blt mg) : Cal P w K mg base CX0 1 "_law_take" ["_law_bag_here", "_law_many"] sp_take := by
 refine D.ok sc__law_take (fun vs H Q E h => by obtain ⟨b, m, rfl, _⟩ := h; rfl) (fun f cdv A out s H vs Q E hr h => ?_)
 obtain ⟨b, m, rfl, hb, m0, m1, k⟩ := h
 refine ⟨_, (Evl.pss_cut (ps_if (pt_cmpR op_eq (pe_ix (kixL K) (pv 0) pe_int (fun _ _ => rfl)) pe_int (nomark _))
   (pss_cons (ps_set (i := 2) sc__law_take.nd rfl (Or.inl rfl) pe_int)
   (Evl.pss_cut (ps_if (pt_cmpR op_lt (pe_ix (kixL K) (pv 0) pe_int (fun _ _ => rfl)) (pe_callB (klen K) (by rfl) B.len (by decide +kernel) (pa_cons (pe_ix (kixL K) (pv 0) pe_int (fun _ _ => rfl)) pa_nil)) (nomark _))
   (pss_one (ps_set (i := 2) sc__law_take.nd rfl (Or.inl rfl) (pe_ix (kixL K) (pe_ix (kixL K) (pv 0) pe_int (fun _ _ => rfl)) (pe_ix (kixL K) (pv 0) pe_int (fun _ _ => rfl)) (fun _ _ => rfl))))
   pss_nil)
   (pss_cons (ps_augS (pv 0) pe_int get_list pe_int ip_add set_list)
   (Evl.pss_cut (ps_if (pt_cmpR op_ge (pv 2) pe_int (nomark _))
   (pss_one (ps_asg (pv 2) (pg_sub (pv 0) pe_int set_list)))
   pss_nil)
   (pss_one (ps_asg (pe_op op_mod (pe_op op_add (pe_op op_add (pe_op op_mulW (pe_ix (kixL K) (pv 0) pe_int (fun _ _ => rfl)) pe_int) (pe_op op_mod (pv 2) pe_int)) (pe_op op_mul pe_int (pe_ix (kixL K) (pv 0) pe_int (fun _ _ => rfl)))) pe_int) (pg_sub (pv 0) pe_int set_list)))))))
   pss_nil)
   (pss_cons (ps_if (pt_cmpR op_gt (pe_ix (kixL K) (pv 0) pe_int (fun _ _ => rfl)) pe_int (nomark _))
   (pss_cons (ps_set (i := 3) sc__law_take.nd rfl (Or.inl rfl) (pe_op op_mod (pe_ix (kixL K) (pv 0) pe_int (fun _ _ => rfl)) (pv 1)))
   (pss_cons (ps_asg (pe_op op_fdivW (pe_ix (kixL K) (pv 0) pe_int (fun _ _ => rfl)) (pv 1)) (pg_sub (pv 0) pe_int set_list))
   (pss_one (ps_ret (pv 3)))))
   pss_nil)
   (pss_cons (ps_set (i := 4) sc__law_take.nd rfl (Or.inl rfl) (pe_op op_mod (pe_op op_mulW (pe_op op_add (pe_ix (kixL K) (pv 0) pe_int (fun _ _ => rfl)) pe_int) pe_int) pe_int))
   (pss_cons (ps_set (i := 5) sc__law_take.nd rfl (Or.inl rfl) (pe_op op_mod (pe_op op_mulW (pe_op op_mod (pe_op op_mulW (pv 4) (pv 4)) pe_int) pe_int) pe_int))
   (pss_cons (ps_if (pt_cmpR op_gt (pv 1) pe_int (nomark _))
   (pss_one (ps_ret (pe_op op_mod (pe_op op_add (pe_op op_mulW (pv 5) pe_int) (pv 4)) (pv 1))))
   pss_nil)
   (pss_one (ps_ret (pe_op op_mod (pe_op op_fdivW (pv 5) pe_int) (pv 1))))))))), ?_⟩
 refine ⟨fun σ H' => ∃ c, σ = [some (.ref b), some (.int m), c, none, none, none] ∧ Go b H H', ?_, ?_⟩
 ·have hb' := hb
  obtain ⟨c, hbc⟩ := hb
  have hbc' := hbc
  obtain ⟨a, z, n, cs, h1, h2, hcb, a0, z0, s0, s1, k0⟩ := hbc
  refine ⟨_, rfl, b, _, _, _, rfl, rfl, SqL.of h1, rfl, rfl, _, rfl, ?_⟩
  refine ite2 (fun ha => ?_) (fun _ => ⟨_, rfl, Go.refl hb'⟩)
  refine ⟨fun σ H' => ∃ e : Int, 0 ≤ e ∧ σ = [some (.ref b), some (.int m), some (.int e), none, none, none] ∧ H' = H, ?_, ?_⟩
  ·refine ⟨_, rfl, b, _, _, _, rfl, rfl, SqL.of h1, rfl, _, rfl, b, _, _, _, rfl, rfl, SqL.of h1, rfl, _, _, rfl, Or.inl ⟨_, SqL.of h2, rfl⟩, _, _, rfl, rfl, _, rfl, ?_⟩
   refine ite2 (fun hn => ?_) (fun _ => ⟨0, Int.le_refl _, rfl, rfl⟩)
   have hn' := of_decide_eq_true hn
   rw [List.length_map] at hn'
   obtain ⟨j, rfl⟩ := Int.eq_ofNat_of_zero_le k0
   have hj : j < cs.length := by omega
   refine ⟨_, rfl, b, _, _, _, rfl, rfl, SqL.of h1, rfl, _, rfl, b, _, _, _, rfl, rfl, SqL.of h1, rfl, c, _, _, .int cs[j], rfl, rfl, SqL.of h2, atI_nat (by rw [List.getElem?_map, List.getElem?_eq_getElem hj]; rfl), ?_⟩
   exact ⟨cs[j], z0 _ (List.getElem_mem hj), rfl, rfl⟩
  ·rintro σ H' ⟨e, e0, rfl, rfl⟩
   refine ⟨_, rfl, b, _, 2, _, rfl, rfl, SqL.of h1, rfl, _, _, rfl, rfl, b, _, _, 2, rfl, rfl, h1, rfl, ?_⟩
   refine ⟨fun σ H1 => ∃ a' : Int, 0 ≤ a' ∧ σ = [some (.ref b), some (.int m), some (.int e), none, none, none] ∧ H1 b = some (.lst [.int a', .int z, .int (n + 1), .ref c]) ∧ hid b H1 = hid b H', ?_, ?_⟩
   ·refine ⟨_, rfl, _, _, rfl, rfl, _, rfl, ?_⟩
    refine ite2 (fun _ => ?_) (fun _ => ⟨a, a0, rfl, upd_same, hid_upd⟩)
    refine ⟨_, rfl, _, rfl, b, _, _, 0, rfl, rfl, upd_same, rfl, ?_⟩
    exact ⟨e, e0, rfl, upd_same, by rw [hid_upd, hid_upd]⟩
   ·rintro σ H1 ⟨a', a0', rfl, hH, hh⟩
    refine ⟨_, rfl, b, _, _, _, rfl, rfl, SqL.of hH, rfl, _, _, rfl, rfl, wide_mul (a := 64) (b := 64) (by omega) (by decide) (by decide) (by decide) (by decide), _, rfl, _, _, rfl, rfl, (by show (0 : Int) < 2147483647; decide), _, _, rfl, rfl, _, rfl, b, _, _, _, rfl, rfl, SqL.of hH, rfl, _, _, rfl, rfl, .inl ⟨by decide, by decide⟩, _, _, rfl, rfl, _, _, rfl, rfl, (by show (0 : Int) < 2147483647; decide), _, rfl, b, _, _, 1, rfl, rfl, hH, rfl, ?_⟩
    refine ⟨_, rfl, ⟨c, hbc', a', _, n + 1, cs, upd_same, ?_, hcb, a0', z0, Int.emod_nonneg _ (by decide), Int.emod_lt_of_pos _ (by decide), by omega⟩, ?_⟩
    ·have q := congrFun hh c
     rw [hid_ne hcb, hid_ne hcb] at q
     rw [upd_ne hcb, q]
     exact h2
    ·rw [hid_upd, hh]
     exact Same.refl _
 ·rintro σ H1 ⟨c0, rfl, g⟩
  have g' := g
  obtain ⟨⟨c, hbc, a, z, n, cs, h1, h2, hcb, a0, z0, s0, s1, k0⟩, sm⟩ := g
  refine ⟨_, rfl, b, _, _, _, rfl, rfl, SqL.of h1, rfl, _, _, rfl, rfl, _, rfl, ?_⟩
  refine ite2 (fun ha => ?_) (fun _ => ?_)
  ·refine ⟨_, rfl, b, _, _, _, rfl, rfl, SqL.of h1, rfl, _, rfl, _, _, rfl, rfl, m0, _, rfl, b, _, _, _, rfl, rfl, SqL.of h1, rfl, _, rfl, _, _, rfl, rfl, wide_div (b := 200) m0 (by omega) (by decide) (by decide), _, rfl, b, _, _, 0, rfl, rfl, h1, rfl, _, rfl, ?_⟩
   refine k _ _ (Int.emod_nonneg _ (by omega)) (Int.emod_lt_of_pos _ m0) ⟨⟨c, hbc, _, z, n, cs, upd_same, by rw [upd_ne hcb]; exact h2, hcb, Int.ediv_nonneg a0 (by omega), z0, s0, s1, k0⟩, ?_⟩
   rw [hid_upd]
   exact sm
  ·refine ⟨_, rfl, b, _, _, _, rfl, rfl, SqL.of h1, rfl, _, _, rfl, rfl, _, _, rfl, rfl, wide_mul (a := 64) (b := 64) (by omega) (by decide) (by decide) (by decide) (by decide), _, _, rfl, rfl, (by show (0 : Int) < 1000000007; decide), ?_⟩
   have q1 : 0 ≤ (z + 1) * 39373 % 1000000007 := Int.emod_nonneg _ (by decide)
   have q2 : (z + 1) * 39373 % 1000000007 < 1000000007 := Int.emod_lt_of_pos _ (by decide)
   generalize (z + 1) * 39373 % 1000000007 = y at q1 q2
   refine ⟨_, rfl, _, rfl, _, _, rfl, rfl, wide_mul (a := 64) (b := 64) (by omega) (by omega) (by decide) (by decide) (by decide), _, _, rfl, rfl, (by show (0 : Int) < 998244353; decide), ?_⟩
   have q3 : 0 ≤ y * y % 998244353 := Int.emod_nonneg _ (by decide)
   have q4 : y * y % 998244353 < 998244353 := Int.emod_lt_of_pos _ (by decide)
   generalize y * y % 998244353 = y2 at q3 q4
   refine ⟨_, _, rfl, rfl, wide_mul (a := 64) (b := 64) (by omega) (by decide) (by decide) (by decide) (by decide), _, _, rfl, rfl, (by show (0 : Int) < 998244353; decide), ?_⟩
   have q5 : 0 ≤ y2 * 30011 % 998244353 := Int.emod_nonneg _ (by decide)
   have q6 : y2 * 30011 % 998244353 < 998244353 := Int.emod_lt_of_pos _ (by decide)
   generalize y2 * 30011 % 998244353 = y3 at q5 q6
   refine ⟨_, rfl, _, _, rfl, rfl, _, rfl, ?_⟩
   refine ite2 (fun _ => ?_) (fun _ => ?_)
   ·refine ⟨_, rfl, _, _, rfl, rfl, wide_mul (a := 64) (b := 64) (by omega) (by decide) (by decide) (by decide) (by decide), _, rfl, _, _, rfl, rfl, _, rfl, _, _, rfl, rfl, m0, ?_⟩
    exact k _ _ (Int.emod_nonneg _ (by omega)) (Int.emod_lt_of_pos _ m0) g'
   ·refine ⟨_, rfl, _, _, rfl, rfl, wide_div (b := 200) (by decide) (by decide) (by decide) (by decide), _, rfl, _, _, rfl, rfl, m0, ?_⟩
    exact k _ _ (Int.emod_nonneg _ (by omega)) (Int.emod_lt_of_pos _ m0) g'
end
end G
namespace R
open PySem PySem.Spec PyProof.Rows L2 G
section
variable {P : Program} {w : World} {K : PySem.W.Frag} {mg : Str → Option Value} {base : Heap}
abbrev s__law_amount : Stmt := top 46
abbrev sc__law_amount_N : List Str := ["_law_bag_here", "_law_great"]
theorem sc__law_amount : FnScope sc__law_amount_N ["_law_bag_here", "_law_great"] (defScope s__law_amount) := ⟨rfl, rfl, rfl, by decide +kernel, rfl, by decide +kernel, by decide +kernel⟩
theorem ok__law_amount {A : Ad} (dd : Def K mg "_law_amount" s__law_amount ["_law_bag_here", "_law_great"]) (B : Blt mg) (c__law_take : Cal P w K mg base CX0 1 "_law_take" ["_law_bag_here", "_law_many"] (SpP K 2 f_take)) : Cal P w K mg base CX0 2 "_law_amount" ["_law_bag_here", "_law_great"] (SpP K 2 (f__law_amount A)) :=
 defR (τ := p__law_amount A) dd sc__law_amount 0 rfl rfl fun f cdv Ar out s H E hr => ⟨_, (pss_cons (ps_if (PW.pt (pw_and (pt_val (pv 1)) (pw_and1 (pt_cmpR (keq K hr.units) (pe_c (E := fun _ _ _ => False) c__law_take (hr.mono (by decide)) pass0 (pa_cons (pv 0) (pa_cons pe_int pa_nil))) pe_int (nomark _)))))
   (pss_one (ps_ret (pe_ix (kix K) (pe_lst (pa_cons (pe_op op_sub (pe_op op_pow pe_int pe_int) (pe_c (E := fun _ _ _ => False) c__law_take (hr.mono (by decide)) pass0 (pa_cons (pv 0) (pa_cons pe_int pa_nil)))) (pa_cons (pe_op (kplus K) pe_int (pe_c (E := fun _ _ _ => False) c__law_take (hr.mono (by decide)) pass0 (pa_cons (pv 0) (pa_cons (pe_op op_pow pe_int pe_int) pa_nil)))) pa_nil))) (pe_c (E := fun _ _ _ => False) c__law_take (hr.mono (by decide)) pass0 (pa_cons (pv 0) (pa_cons pe_int pa_nil))) (fun _ _ => rfl))))
   pss_nil)
   (pss_one (ps_ret (pe_op (kplus K) pe_int (pe_c (E := fun _ _ _ => False) c__law_take (hr.mono (by decide)) pass0 (pa_cons (pv 0) (pa_cons (pe_ix (kix K) (pe_lst (pa_cons pe_int (pa_cons pe_int (pa_cons pe_int pa_nil)))) (pe_c (E := fun _ _ _ => False) c__law_take (hr.mono (by decide)) pass0 (pa_cons (pv 0) (pa_cons pe_int pa_nil))) (fun _ _ => rfl)) pa_nil))))))), fun c _ => by unfold p__law_amount; infer_instance⟩
abbrev s__law_bundles : Stmt := top 47
abbrev sc__law_bundles_N : List Str := ["_law_bag_here", "_law_size", "_law_great", "_law_rare", "_law_found", "_law_first", "_law_second"]
theorem sc__law_bundles : FnScope sc__law_bundles_N ["_law_bag_here", "_law_size", "_law_great"] (defScope s__law_bundles) := ⟨rfl, rfl, rfl, by decide +kernel, rfl, by decide +kernel, by decide +kernel⟩
theorem ok__law_bundles {A : Ad} (dd : Def K mg "_law_bundles" s__law_bundles ["_law_bag_here", "_law_size", "_law_great"]) (B : Blt mg) (c__law_take : Cal P w K mg base CX0 1 "_law_take" ["_law_bag_here", "_law_many"] (SpP K 2 f_take)) (c__law_amount : Cal P w K mg base CX0 2 "_law_amount" ["_law_bag_here", "_law_great"] (SpP K 2 (f__law_amount A))) : Cal P w K mg base CX0 3 "_law_bundles" ["_law_bag_here", "_law_size", "_law_great"] (SpP K 3 (f__law_bundles A)) :=
 defR (τ := p__law_bundles A) dd sc__law_bundles 4 rfl rfl fun f cdv Ar out s H E hr => ⟨_, (pss_cons (ps_par (i := 3) (j := 4) (by rfl) sc__law_bundles.nd rfl rfl (by decide) rfl rfl (pa_cons (pe_op (kplus K) pe_int (pe_c (E := fun _ _ _ => False) c__law_take (hr.mono (by decide)) pass0 (pa_cons (pv 0) (pa_cons pe_int pa_nil)))) (pa_cons (pe_lst pa_nil) pa_nil)) (by rfl))
   (pss_cons (ps_for PassesOwn.never rfl (pi_range1 rfl B.range (pa_cons (pv 1) pa_nil)) (pg_name (i := 5) sc__law_bundles.nd rfl (Or.inl rfl))
   (pss_one (ps_for PassesOwn.never rfl (pi_range2 rfl B.range (pa_cons (pe_op (kplus K) (pv 5) pe_int) (pa_cons (pv 1) pa_nil))) (pg_name (i := 6) sc__law_bundles.nd rfl (Or.inl rfl))
   (pss_one (ps_if (pt_cmpR (keq K hr.units) (pe_c (E := fun _ _ _ => False) c__law_take (hr.mono (by decide)) pass0 (pa_cons (pv 0) (pa_cons (pv 3) pa_nil))) pe_int (nomark _))
   (pss_one (ps_expr (kbm K PySem.F.plainAttrs_list PySem.F.slot_list_append PySem.F.type_list_append mt_append (pv 4) (pa_cons (pe_tup (pa_cons (pv 5) (pa_cons (pv 6) (pa_cons (pe_c (E := fun _ _ _ => False) c__law_amount (hr.mono (by decide)) pass0 (pa_cons (pv 0) (pa_cons (pv 2) pa_nil))) pa_nil)))) pa_nil))))
   pss_nil)))))
   (pss_cons (ps_set (i := 4) sc__law_bundles.nd rfl (Or.inl rfl) (korT K (pv 4) (pe_one (pe_lst (pa_cons (pe_tup (pa_cons pe_int (pa_cons pe_int (pa_cons (pe_c (E := fun _ _ _ => False) c__law_amount (hr.mono (by decide)) pass0 (pa_cons (pv 0) (pa_cons (pv 2) pa_nil))) pa_nil)))) pa_nil)))))
   (pss_one (ps_ret (pe_ifExp (pt_cmpR (keq K hr.units) (pe_c (E := fun _ _ _ => False) c__law_take (hr.mono (by decide)) pass0 (pa_cons (pv 0) (pa_cons pe_int pa_nil))) pe_int (nomark _)) (krevL K (pv 4)) (pv 4))))))), fun c _ => by unfold p__law_bundles p__law_bundles_b1 p__law_bundles_g1 p__law_bundles_b0 p__law_bundles_g0; infer_instance⟩
abbrev s__law_bounds : Stmt := top 49
abbrev sc__law_bounds_N : List Str := ["_law_bag_here", "_law_held", "_law_found", "_law_load", "_law_under", "_law_over"]
theorem sc__law_bounds : FnScope sc__law_bounds_N ["_law_bag_here", "_law_held"] (defScope s__law_bounds) := ⟨rfl, rfl, rfl, by decide +kernel, rfl, by decide +kernel, by decide +kernel⟩
theorem ok__law_bounds {A : Ad} (dd : Def K mg "_law_bounds" s__law_bounds ["_law_bag_here", "_law_held"]) (B : Blt mg) (c__law_take : Cal P w K mg base CX0 1 "_law_take" ["_law_bag_here", "_law_many"] (SpP K 2 f_take)) : Cal P w K mg base CX0 2 "_law_bounds" ["_law_bag_here", "_law_held"] (SpP K 2 (f__law_bounds A)) :=
 defR (τ := p__law_bounds A) dd sc__law_bounds 4 rfl rfl fun f cdv Ar out s H E hr => ⟨_, (pss_cons (ps_set (i := 2) sc__law_bounds.nd rfl (Or.inl rfl) (pe_lst pa_nil))
   (pss_cons (ps_for PassesOwn.never rfl (kseq K (pv 1)) (pg_name (i := 3) sc__law_bounds.nd rfl (Or.inl rfl))
   (pss_cons (ps_set (i := 4) sc__law_bounds.nd rfl (Or.inl rfl) (pe_ix (kix K) (pe_lst (pa_cons pe_int (pa_cons pe_int (pa_cons pe_int (pa_cons (pe_c (E := fun _ _ _ => False) c__law_take (hr.mono (by decide)) pass0 (pa_cons (pv 0) (pa_cons pe_int pa_nil))) (pa_cons (pv 3) pa_nil)))))) (pe_c (E := fun _ _ _ => False) c__law_take (hr.mono (by decide)) pass0 (pa_cons (pv 0) (pa_cons pe_int pa_nil))) (fun _ _ => rfl)))
   (pss_cons (ps_set (i := 5) sc__law_bounds.nd rfl (Or.inl rfl) (pe_ix (kix K) (pe_lst (pa_cons pe_int (pa_cons pe_int (pa_cons pe_int (pa_cons (pe_c (E := fun _ _ _ => False) c__law_take (hr.mono (by decide)) pass0 (pa_cons (pv 0) (pa_cons pe_int pa_nil))) (pa_cons (pe_op op_pow pe_int pe_int) pa_nil)))))) (pe_c (E := fun _ _ _ => False) c__law_take (hr.mono (by decide)) pass0 (pa_cons (pv 0) (pa_cons pe_int pa_nil))) (fun _ _ => rfl)))
   (pss_one (ps_expr (kbm K PySem.F.plainAttrs_list PySem.F.slot_list_append PySem.F.type_list_append mt_append (pv 2) (pa_cons (pe_tup (pa_cons (pe_callB (kmax K) (by rfl) B.max (by decide +kernel) (pa_cons pe_int (pa_cons (pe_op op_sub (pv 3) (pv 4)) pa_nil))) (pa_cons (pe_op (kplus K) (pv 3) (pv 5)) pa_nil))) pa_nil)))))))
   (pss_one (ps_ret (pv 2))))), fun c _ => by unfold p__law_bounds p__law_bounds_b0 p__law_bounds_g0; infer_instance⟩
abbrev s__law_loads : Stmt := top 48
abbrev sc__law_loads_N : List Str := ["_law_size", "_law_bundles_here", "_law_leads", "_law_found", "_law_many", "_law_first", "_law_second", "_law_partitions"]
theorem sc__law_loads : FnScope sc__law_loads_N ["_law_size", "_law_bundles_here", "_law_leads"] (defScope s__law_loads) := ⟨rfl, rfl, rfl, by decide +kernel, rfl, by decide +kernel, by decide +kernel⟩
theorem ok__law_loads {A : Ad} (dd : Def K mg "_law_loads" s__law_loads ["_law_size", "_law_bundles_here", "_law_leads"]) (B : Blt mg) : Cal P w K mg base CX0 1 "_law_loads" ["_law_size", "_law_bundles_here", "_law_leads"] (SpP K 3 (f__law_loads A)) :=
 defR (τ := p__law_loads A) dd sc__law_loads 5 rfl rfl fun f cdv Ar out s H E hr => ⟨_, (pss_cons (ps_set (i := 3) sc__law_loads.nd rfl (Or.inl rfl) (pe_op ktimes (pe_lst (pa_cons pe_int pa_nil)) (pv 0)))
   (pss_cons (ps_for PassesOwn.never rfl (kzip K (by rfl) B.zip (pa_cons (pv 2) (pa_cons (pv 1) pa_nil))) (kgtup K (n := 2) (pgs_cons (pg_name (i := 4) sc__law_loads.nd rfl (Or.inl rfl)) (pgs_cons (kgtup K (n := 3) (pgs_cons (pg_name (i := 5) sc__law_loads.nd rfl (Or.inl rfl)) (pgs_cons (pg_name (i := 6) sc__law_loads.nd rfl (Or.inl rfl)) (pgs_cons (pg_name (i := 7) sc__law_loads.nd rfl (Or.inl rfl)) pgs_nil)))) pgs_nil)))
   (pss_cons (ps_asg (pe_op (kplus K) (pe_ix (kix K) (pv 3) (pv 5) (fun _ _ => rfl)) (pv 4)) (pg_sub (pv 3) (pv 5) set_list))
   (pss_one (ps_asg (pe_op op_sub (pe_op (kplus K) (pe_ix (kix K) (pv 3) (pv 6) (fun _ _ => rfl)) (pv 7)) (pv 4)) (pg_sub (pv 3) (pv 6) set_list)))))
   (pss_one (ps_ret (pv 3))))), fun c _ => by unfold p__law_loads p__law_loads_b0 p__law_loads_g0; infer_instance⟩
abbrev s__law_net : Stmt := top 50
abbrev sc__law_net_N : List Str := ["_law_bag_here", "_law_most", "_law_great", "_law_size", "_law_bundles_here", "_law_leads", "_law_first", "_law_second", "_law_partitions"]
theorem sc__law_net : FnScope sc__law_net_N ["_law_bag_here", "_law_most", "_law_great"] (defScope s__law_net) := ⟨rfl, rfl, rfl, by decide +kernel, rfl, by decide +kernel, by decide +kernel⟩
theorem ok__law_net {A : Ad} (dd : Def K mg "_law_net" s__law_net ["_law_bag_here", "_law_most", "_law_great"]) (B : Blt mg) (c__law_bundles : Cal P w K mg base CX0 3 "_law_bundles" ["_law_bag_here", "_law_size", "_law_great"] (SpP K 3 (f__law_bundles A))) (c__law_take : Cal P w K mg base CX0 1 "_law_take" ["_law_bag_here", "_law_many"] (SpP K 2 f_take)) (c__law_bounds : Cal P w K mg base CX0 2 "_law_bounds" ["_law_bag_here", "_law_held"] (SpP K 2 (f__law_bounds A))) (c__law_loads : Cal P w K mg base CX0 1 "_law_loads" ["_law_size", "_law_bundles_here", "_law_leads"] (SpP K 3 (f__law_loads A))) : Cal P w K mg base CX0 4 "_law_net" ["_law_bag_here", "_law_most", "_law_great"] (SpP K 3 (f__law_net_1 A)) :=
 defR (τ := p__law_net_1 A) dd sc__law_net 6 rfl rfl fun f cdv Ar out s H E hr => ⟨_, (pss_cons (ps_set (i := 3) sc__law_net.nd rfl (Or.inl rfl) (pe_op (kplus K) pe_int (pe_c (E := fun _ _ _ => False) c__law_take (hr.mono (by decide)) pass0 (pa_cons (pv 0) (pa_cons (pe_op op_sub (pv 1) pe_int) pa_nil)))))
   (pss_cons (ps_set (i := 4) sc__law_net.nd rfl (Or.inl rfl) (pe_c (E := fun _ _ _ => False) c__law_bundles (hr.mono (by decide)) pass0 (pa_cons (pv 0) (pa_cons (pv 3) (pa_cons (pv 2) pa_nil)))))
   (pss_cons (ps_set (i := 5) sc__law_net.nd rfl (Or.inl rfl) (pe_lst pa_nil))
   (pss_cons (ps_for PassesOwn.never rfl (kseq K (pv 4)) (kgtup K (n := 3) (pgs_cons (pg_name (i := 6) sc__law_net.nd rfl (Or.inl rfl)) (pgs_cons (pg_name (i := 7) sc__law_net.nd rfl (Or.inl rfl)) (pgs_cons (pg_name (i := 8) sc__law_net.nd rfl (Or.inl rfl)) pgs_nil))))
   (pss_one (ps_expr (kbm K PySem.F.plainAttrs_list PySem.F.slot_list_append PySem.F.type_list_append mt_append (pv 5) (pa_cons (pe_ix (kix K) (pe_lst (pa_cons pe_int (pa_cons (pv 8) (pa_cons (pe_c (E := fun _ _ _ => False) c__law_take (hr.mono (by decide)) pass0 (pa_cons (pv 0) (pa_cons (pe_op (kplus K) (pv 8) pe_int) pa_nil))) pa_nil)))) (pe_c (E := fun _ _ _ => False) c__law_take (hr.mono (by decide)) pass0 (pa_cons (pv 0) (pa_cons pe_int pa_nil))) (fun _ _ => rfl)) pa_nil)))))
   (pss_one (ps_ret (pe_tupN (pe_tup (pa_cons (pe_c (E := fun _ _ _ => False) c__law_bounds (hr.mono (by decide)) pass0 (pa_cons (pv 0) (pa_cons (pe_c (E := fun _ _ _ => False) c__law_loads (hr.mono (by decide)) pass0 (pa_cons (pv 3) (pa_cons (pv 4) (pa_cons (pv 5) pa_nil)))) pa_nil))) (pa_cons (pv 4) (pa_cons (pe_callTy (ktupOf K) (by rfl) B.tuple (by decide +kernel) (pa_cons (pv 5) pa_nil)) pa_nil))))))))))), fun c _ => by unfold p__law_net_1 p__law_net_1_b0 p__law_net_1_g0; infer_instance⟩
abbrev s_is_integer : Stmt := top 10
abbrev sc_is_integer_N : List Str := ["thing"]
theorem sc_is_integer : FnScope sc_is_integer_N ["thing"] (defScope s_is_integer) := ⟨rfl, rfl, rfl, by decide +kernel, rfl, by decide +kernel, by decide +kernel⟩
theorem ok_is_integer {A : Ad} (dd : Def K mg "is_integer" s_is_integer ["thing"]) (B : Blt mg) : Cal P w K mg base CX0 1 "is_integer" ["thing"] (SpP K 1 (f_is_integer A)) :=
 defR (τ := p_is_integer A) dd sc_is_integer 0 rfl rfl fun f cdv Ar out s H E hr => ⟨_, (pss_one (ps_ret (pe_and (pe_callB (kisi K) (by rfl) B.isinstance (by decide +kernel) (pa_cons (pv 0) (pa_cons (pe_ty (n := "int") B.int (by decide +kernel)) pa_nil))) (pe_one (pe_not (pe_callB (kisi K) (by rfl) B.isinstance (by decide +kernel) (pa_cons (pv 0) (pa_cons (pe_ty (n := "bool") B.bool (by decide +kernel)) pa_nil)))))))), fun c _ => by unfold p_is_integer; infer_instance⟩
abbrev s_is_between : Stmt := top 11
abbrev sc_is_between_N : List Str := ["thing", "least", "most"]
theorem sc_is_between : FnScope sc_is_between_N ["thing", "least", "most"] (defScope s_is_between) := ⟨rfl, rfl, rfl, by decide +kernel, rfl, by decide +kernel, by decide +kernel⟩
theorem ok_is_between {A : Ad} (dd : Def K mg "is_between" s_is_between ["thing", "least", "most"]) (B : Blt mg) (c_is_integer : Cal P w K mg base CX0 1 "is_integer" ["thing"] (SpP K 1 (f_is_integer A))) : Cal P w K mg base CX0 2 "is_between" ["thing", "least", "most"] (SpP K 3 (f_is_between A)) :=
 defR (τ := p_is_between A) dd sc_is_between 0 rfl rfl fun f cdv Ar out s H E hr => ⟨_, (pss_one (ps_ret (pe_and (pe_c (E := fun _ _ _ => False) c_is_integer (hr.mono (by decide)) pass0 (pa_cons (pv 0) pa_nil)) (pe_one (pe_chain op_le op_le (pv 1) (pv 0) (pv 2)))))), fun c _ => by unfold p_is_between; infer_instance⟩
abbrev s_is_amount : Stmt := top 12
abbrev sc_is_amount_N : List Str := ["thing"]
theorem sc_is_amount : FnScope sc_is_amount_N ["thing"] (defScope s_is_amount) := ⟨rfl, rfl, rfl, by decide +kernel, rfl, by decide +kernel, by decide +kernel⟩
theorem ok_is_amount {A : Ad} (dd : Def K mg "is_amount" s_is_amount ["thing"]) (B : Blt mg) {t_MOST_AMOUNT : Tok} (m_MOST_AMOUNT : mg "MOST_AMOUNT" = some (.int 1000000000000000000000000000000 t_MOST_AMOUNT)) (c_is_between : Cal P w K mg base CX0 2 "is_between" ["thing", "least", "most"] (SpP K 3 (f_is_between A))) : Cal P w K mg base CX0 3 "is_amount" ["thing"] (SpP K 1 (f_is_amount A)) :=
 defR (τ := p_is_amount A) dd sc_is_amount 0 rfl rfl fun f cdv Ar out s H E hr => ⟨_, (pss_one (ps_ret (pe_c (E := fun _ _ _ => False) c_is_between (hr.mono (by decide)) pass0 (pa_cons (pv 0) (pa_cons pe_int (pa_cons (pe_gi m_MOST_AMOUNT) pa_nil)))))), fun c _ => by unfold p_is_amount; infer_instance⟩
abbrev s_is_bound : Stmt := top 15
abbrev sc_is_bound_N : List Str := ["thing"]
theorem sc_is_bound : FnScope sc_is_bound_N ["thing"] (defScope s_is_bound) := ⟨rfl, rfl, rfl, by decide +kernel, rfl, by decide +kernel, by decide +kernel⟩
theorem ok_is_bound {A : Ad} (dd : Def K mg "is_bound" s_is_bound ["thing"]) (B : Blt mg) (c_is_amount : Cal P w K mg base CX0 3 "is_amount" ["thing"] (SpP K 1 (f_is_amount A))) : Cal P w K mg base CX0 4 "is_bound" ["thing"] (SpP K 1 (f_is_bound A)) :=
 defR (τ := p_is_bound A) dd sc_is_bound 0 rfl rfl fun f cdv Ar out s H E hr => ⟨_, (pss_cons (ps_if (PW.pt (pw_or (pt_not (pt_val (pe_callB (kisi K) (by rfl) B.isinstance (by decide +kernel) (pa_cons (pv 0) (pa_cons (pe_ty (n := "tuple") B.tuple (by decide +kernel)) pa_nil))))) (pw_or1 (pt_cmpR (kne K hr.units) (pe_callB (klen' K) (by rfl) B.len (by decide +kernel) (pa_cons (pv 0) pa_nil)) pe_int (nomark _)))))
   (pss_one (ps_ret pe_bl))
   pss_nil)
   (pss_one (ps_ret (pe_and (pe_c (E := fun _ _ _ => False) c_is_amount (hr.mono (by decide)) pass0 (pa_cons (pe_ix (kix K) (pv 0) pe_int (fun _ _ => rfl)) pa_nil)) (pe_and (pe_c (E := fun _ _ _ => False) c_is_amount (hr.mono (by decide)) pass0 (pa_cons (pe_ix (kix K) (pv 0) pe_int (fun _ _ => rfl)) pa_nil)) (pe_one (pe_cmpR op_le (pe_ix (kix K) (pv 0) pe_int (fun _ _ => rfl)) (pe_ix (kix K) (pv 0) pe_int (fun _ _ => rfl)) (nomark _)))))))), fun c _ => by unfold p_is_bound; infer_instance⟩
abbrev s_are_bounds : Stmt := top 16
abbrev sc_are_bounds_N : List Str := ["thing", "bound"]
theorem sc_are_bounds : FnScope sc_are_bounds_N ["thing"] (defScope s_are_bounds) := ⟨rfl, rfl, rfl, by decide +kernel, rfl, by decide +kernel, by decide +kernel⟩
theorem ok_are_bounds {A : Ad} (dd : Def K mg "are_bounds" s_are_bounds ["thing"]) (B : Blt mg) {t_MOST_BROKERS : Tok} (m_MOST_BROKERS : mg "MOST_BROKERS" = some (.int 10 t_MOST_BROKERS)) (c_is_bound : Cal P w K mg base CX0 4 "is_bound" ["thing"] (SpP K 1 (f_is_bound A))) : Cal P w K mg base CX0 5 "are_bounds" ["thing"] (SpP K 1 (f_are_bounds A)) :=
 defR (τ := p_are_bounds A) dd sc_are_bounds 1 rfl rfl fun f cdv Ar out s H E hr => ⟨_, (pss_cons (ps_if (PW.pt (pw_or (pt_not (pt_val (pe_callB (kisi K) (by rfl) B.isinstance (by decide +kernel) (pa_cons (pv 0) (pa_cons (pe_ty (n := "list") B.list (by decide +kernel)) pa_nil))))) (pw_or1 (pt_not (pt_chain op_le op_le pe_int (pe_callB (klen' K) (by rfl) B.len (by decide +kernel) (pa_cons (pv 0) pa_nil)) (pe_gi m_MOST_BROKERS))))))
   (pss_one (ps_ret pe_bl))
   pss_nil)
   (pss_one (ps_ret (pe_callB (kall K) (by rfl) B.all (by decide +kernel) (pa_cons (klc (own := [("bound", 1)]) (vs := [1]) (g := (gName 1)) (tt := tYes) sc_are_bounds.nd (kseq K (pv 0)) (blkOk_by (own := [("bound", 1)]) (N := sc_are_bounds_N) (sc := defScope s_are_bounds) (by decide +kernel)) (fun _ _ _ _ _ => (pg_name (i := 1) sc_are_bounds.nd rfl (Or.inl rfl))) (fun _ _ _ _ _ => pts_nil) (fun _ _ _ _ _ => (pe_c (E := fun _ _ _ => False) c_is_bound (hr.mono (by decide)) pass0 (pa_cons (pv 1) pa_nil)))) pa_nil))))), fun c _ => by unfold p_are_bounds p_are_bounds_e0; infer_instance⟩
abbrev s_is_broker : Stmt := top 14
abbrev sc_is_broker_N : List Str := ["thing", "size"]
theorem sc_is_broker : FnScope sc_is_broker_N ["thing", "size"] (defScope s_is_broker) := ⟨rfl, rfl, rfl, by decide +kernel, rfl, by decide +kernel, by decide +kernel⟩
theorem ok_is_broker {A : Ad} (dd : Def K mg "is_broker" s_is_broker ["thing", "size"]) (B : Blt mg) (c_is_between : Cal P w K mg base CX0 2 "is_between" ["thing", "least", "most"] (SpP K 3 (f_is_between A))) : Cal P w K mg base CX0 3 "is_broker" ["thing", "size"] (SpP K 2 (f_is_broker A)) :=
 defR (τ := p_is_broker A) dd sc_is_broker 0 rfl rfl fun f cdv Ar out s H E hr => ⟨_, (pss_one (ps_ret (pe_c (E := fun _ _ _ => False) c_is_between (hr.mono (by decide)) pass0 (pa_cons (pv 0) (pa_cons pe_int (pa_cons (pe_op op_sub (pv 1) pe_int) pa_nil)))))), fun c _ => by unfold p_is_broker; infer_instance⟩
abbrev s_is_count : Stmt := top 13
abbrev sc_is_count_N : List Str := ["thing"]
theorem sc_is_count : FnScope sc_is_count_N ["thing"] (defScope s_is_count) := ⟨rfl, rfl, rfl, by decide +kernel, rfl, by decide +kernel, by decide +kernel⟩
theorem ok_is_count {A : Ad} (dd : Def K mg "is_count" s_is_count ["thing"]) (B : Blt mg) {t_MOST_COUNT : Tok} (m_MOST_COUNT : mg "MOST_COUNT" = some (.int 1000000000000000000 t_MOST_COUNT)) (c_is_between : Cal P w K mg base CX0 2 "is_between" ["thing", "least", "most"] (SpP K 3 (f_is_between A))) : Cal P w K mg base CX0 3 "is_count" ["thing"] (SpP K 1 (f_is_count A)) :=
 defR (τ := p_is_count A) dd sc_is_count 0 rfl rfl fun f cdv Ar out s H E hr => ⟨_, (pss_one (ps_ret (pe_c (E := fun _ _ _ => False) c_is_between (hr.mono (by decide)) pass0 (pa_cons (pv 0) (pa_cons pe_int (pa_cons (pe_gi m_MOST_COUNT) pa_nil)))))), fun c _ => by unfold p_is_count; infer_instance⟩
abbrev s_is_bundle : Stmt := top 17
abbrev sc_is_bundle_N : List Str := ["thing", "size"]
theorem sc_is_bundle : FnScope sc_is_bundle_N ["thing", "size"] (defScope s_is_bundle) := ⟨rfl, rfl, rfl, by decide +kernel, rfl, by decide +kernel, by decide +kernel⟩
theorem ok_is_bundle {A : Ad} (dd : Def K mg "is_bundle" s_is_bundle ["thing", "size"]) (B : Blt mg) (c_is_broker : Cal P w K mg base CX0 3 "is_broker" ["thing", "size"] (SpP K 2 (f_is_broker A))) (c_is_count : Cal P w K mg base CX0 3 "is_count" ["thing"] (SpP K 1 (f_is_count A))) : Cal P w K mg base CX0 4 "is_bundle" ["thing", "size"] (SpP K 2 (f_is_bundle A)) :=
 defR (τ := p_is_bundle A) dd sc_is_bundle 0 rfl rfl fun f cdv Ar out s H E hr => ⟨_, (pss_cons (ps_if (PW.pt (pw_or (pt_not (pt_val (pe_callB (kisi K) (by rfl) B.isinstance (by decide +kernel) (pa_cons (pv 0) (pa_cons (pe_ty (n := "tuple") B.tuple (by decide +kernel)) pa_nil))))) (pw_or (pt_cmpR (kne K hr.units) (pe_callB (klen' K) (by rfl) B.len (by decide +kernel) (pa_cons (pv 0) pa_nil)) pe_int (nomark _)) (pw_or1 (pt_not (pt_val (pe_c (E := fun _ _ _ => False) c_is_count (hr.mono (by decide)) pass0 (pa_cons (pe_ix (kix K) (pv 0) pe_int (fun _ _ => rfl)) pa_nil))))))))
   (pss_one (ps_ret pe_bl))
   pss_nil)
   (pss_one (ps_ret (pe_and (pe_c (E := fun _ _ _ => False) c_is_broker (hr.mono (by decide)) pass0 (pa_cons (pe_ix (kix K) (pv 0) pe_int (fun _ _ => rfl)) (pa_cons (pv 1) pa_nil))) (pe_and (pe_c (E := fun _ _ _ => False) c_is_broker (hr.mono (by decide)) pass0 (pa_cons (pe_ix (kix K) (pv 0) pe_int (fun _ _ => rfl)) (pa_cons (pv 1) pa_nil))) (pe_one (pe_cmpR op_lt (pe_ix (kix K) (pv 0) pe_int (fun _ _ => rfl)) (pe_ix (kix K) (pv 0) pe_int (fun _ _ => rfl)) (nomark _)))))))), fun c _ => by unfold p_is_bundle; infer_instance⟩
abbrev s_are_bundles : Stmt := top 18
abbrev sc_are_bundles_N : List Str := ["thing", "size", "bundle"]
theorem sc_are_bundles : FnScope sc_are_bundles_N ["thing", "size"] (defScope s_are_bundles) := ⟨rfl, rfl, rfl, by decide +kernel, rfl, by decide +kernel, by decide +kernel⟩
theorem ok_are_bundles {A : Ad} (dd : Def K mg "are_bundles" s_are_bundles ["thing", "size"]) (B : Blt mg) {t_MOST_BUNDLES : Tok} (m_MOST_BUNDLES : mg "MOST_BUNDLES" = some (.int 45 t_MOST_BUNDLES)) (c_is_bundle : Cal P w K mg base CX0 4 "is_bundle" ["thing", "size"] (SpP K 2 (f_is_bundle A))) : Cal P w K mg base CX0 5 "are_bundles" ["thing", "size"] (SpP K 2 (f_are_bundles A)) :=
 defR (τ := p_are_bundles A) dd sc_are_bundles 1 rfl rfl fun f cdv Ar out s H E hr => ⟨_, (pss_cons (ps_if (PW.pt (pw_or (pt_not (pt_val (pe_callB (kisi K) (by rfl) B.isinstance (by decide +kernel) (pa_cons (pv 0) (pa_cons (pe_ty (n := "list") B.list (by decide +kernel)) pa_nil))))) (pw_or1 (pt_cmpR op_gt (pe_callB (klen' K) (by rfl) B.len (by decide +kernel) (pa_cons (pv 0) pa_nil)) (pe_gi m_MOST_BUNDLES) (nomark _)))))
   (pss_one (ps_ret pe_bl))
   pss_nil)
   (pss_cons (ps_if (pt_not (pt_val (pe_callB (kall K) (by rfl) B.all (by decide +kernel) (pa_cons (klc (own := [("bundle", 2)]) (vs := [2]) (g := (gName 2)) (tt := tYes) sc_are_bundles.nd (kseq K (pv 0)) (blkOk_by (own := [("bundle", 2)]) (N := sc_are_bundles_N) (sc := defScope s_are_bundles) (by decide +kernel)) (fun _ _ _ _ _ => (pg_name (i := 2) sc_are_bundles.nd rfl (Or.inl rfl))) (fun _ _ _ _ _ => pts_nil) (fun _ _ _ _ _ => (pe_c (E := fun _ _ _ => False) c_is_bundle (hr.mono (by decide)) pass0 (pa_cons (pv 2) (pa_cons (pv 1) pa_nil))))) pa_nil))))
   (pss_one (ps_ret pe_bl))
   pss_nil)
   (pss_one (ps_ret (pe_cmpR (keq K hr.units) (pe_callB (klenS K P w) (by rfl) B.len (by decide +kernel) (pa_cons (ksc K P w (own := [("bundle", 2)]) (vs := [2]) (g := (gName 2)) (tt := tYes) (su hr) sc_are_bundles.nd (kseq K (pv 0)) (blkOk_by (own := [("bundle", 2)]) (N := sc_are_bundles_N) (sc := defScope s_are_bundles) (by decide +kernel)) (fun _ _ _ _ _ => (pg_name (i := 2) sc_are_bundles.nd rfl (Or.inl rfl))) (fun _ _ _ _ _ => pts_nil) (fun _ _ _ _ _ => (pe_slice (kslice K) (pv 2) po_none (po_some pe_int)))) pa_nil)) (pe_callB (klen' K) (by rfl) B.len (by decide +kernel) (pa_cons (pv 0) pa_nil)) (nomark _)))))), fun c _ => by unfold p_are_bundles p_are_bundles_e1 p_are_bundles_e0; infer_instance⟩
abbrev s_Cluster___init__ : Stmt := inClass (top 20) 0
abbrev sc_Cluster___init___N : List Str := ["self", "bounds", "bundles", "number", "bundle"]
theorem sc_Cluster___init__ : FnScope sc_Cluster___init___N ["self", "bounds", "bundles"] (defScope s_Cluster___init__) := ⟨rfl, rfl, rfl, by decide +kernel, rfl, by decide +kernel, by decide +kernel⟩
theorem ok_Cluster___init__ {A : Ad} (dd : MDef K A.Cluster "__init__" "Cluster.__init__" s_Cluster___init__ ["self", "bounds", "bundles"]) (B : Blt mg) [FldOk K A.Cluster "limits"] [FldOk K A.Cluster "rows"] [FldOk K A.Cluster "numbers"] (c_are_bounds : Cal P w K mg base CX0 5 "are_bounds" ["thing"] (SpP K 1 (f_are_bounds A))) (c_are_bundles : Cal P w K mg base CX0 5 "are_bundles" ["thing", "size"] (SpP K 2 (f_are_bundles A))) : MCal P w K mg base CX0 6 A.Cluster "__init__" ["self", "bounds", "bundles"] (SpI K A.Cluster 2 (f_Clusteru_initu A)) :=
 mdefI (τ := p_Clusteru_initu A) dd sc_Cluster___init__ 2 rfl rfl fun f cdv Ar out s H E hr => ⟨_, (pss_cons (ps_if (pt_not (pt_val (pe_c (E := fun _ _ _ => False) c_are_bounds (hr.mono (by decide)) pass0 (pa_cons (pv 1) pa_nil))))
   (pss_one (ps_never))
   pss_nil)
   (pss_cons (ps_if (pt_not (pt_val (pe_c (E := fun _ _ _ => False) c_are_bundles (hr.mono (by decide)) pass0 (pa_cons (pv 2) (pa_cons (pe_callB (klen' K) (by rfl) B.len (by decide +kernel) (pa_cons (pv 1) pa_nil)) pa_nil)))))
   (pss_one (ps_never))
   pss_nil)
   (pss_cons (ksfld K A.Cluster (pv 0) (pe_callTy (klistOf K) (by rfl) B.list (by decide +kernel) (pa_cons (pv 1) pa_nil)))
   (pss_cons (ksfld K A.Cluster (pv 0) (pe_callTy (klistOf K) (by rfl) B.list (by decide +kernel) (pa_cons (pv 2) pa_nil)))
   (pss_one (ksfld K A.Cluster (pv 0) (kdc (own := [("number", 3), ("bundle", 4)]) (vs := [3, 4]) (g := (gTup K 2 (gCons (gName 3) (gCons (gName 4) gNil)))) (tt := tYes) (su hr) sc_Cluster___init__.nd (kenu K (by rfl) B.enumerate (pa_cons (pv 2) pa_nil)) (blkOk_by (own := [("number", 3), ("bundle", 4)]) (N := sc_Cluster___init___N) (sc := defScope s_Cluster___init__) (by decide +kernel)) (fun _ _ _ _ _ => (kgtup K (n := 2) (pgs_cons (pg_name (i := 3) sc_Cluster___init__.nd rfl (Or.inl rfl)) (pgs_cons (pg_name (i := 4) sc_Cluster___init__.nd rfl (Or.inl rfl)) pgs_nil)))) (fun _ _ _ _ _ => pts_nil) (fun _ _ _ _ _ => (pe_slice (kslice K) (pv 4) po_none (po_some pe_int))) (fun _ _ _ _ _ => (pv 3))))))))), fun c => by unfold p_Clusteru_initu; infer_instance⟩
abbrev s_read_integer : Stmt := top 35
abbrev sc_read_integer_N : List Str := ["word", "sign"]
theorem sc_read_integer : FnScope sc_read_integer_N ["word"] (defScope s_read_integer) := ⟨rfl, rfl, rfl, by decide +kernel, rfl, by decide +kernel, by decide +kernel⟩
theorem ok_read_integer {A : Ad} (dd : Def K mg "read_integer" s_read_integer ["word"]) (B : Blt mg) {t_MOST_DIGITS : Tok} (m_MOST_DIGITS : mg "MOST_DIGITS" = some (.int 40 t_MOST_DIGITS)) : Cal P w K mg base CX0 1 "read_integer" ["word"] (SpP K 1 (f_read_integer A)) :=
 defR (τ := p_read_integer A) dd sc_read_integer 1 rfl rfl fun f cdv Ar out s H E hr => ⟨_, (pss_cons (ps_if (PW.pt (pw_or (pt_not (pt_chain op_le op_le pe_int (pe_callB (klen' K) (by rfl) B.len (by decide +kernel) (pa_cons (pv 0) pa_nil)) (pe_gi m_MOST_DIGITS))) (pw_or1 (pt_not (pt_val (pe_callB (kall K) (by rfl) B.all (by decide +kernel) (pa_cons (klc (own := [("sign", 1)]) (vs := [1]) (g := (gName 1)) (tt := tYes) sc_read_integer.nd (kseq K (pv 0)) (blkOk_by (own := [("sign", 1)]) (N := sc_read_integer_N) (sc := defScope s_read_integer) (by decide +kernel)) (fun _ _ _ _ _ => (pg_name (i := 1) sc_read_integer.nd rfl (Or.inl rfl))) (fun _ _ _ _ _ => pts_nil) (fun _ _ _ _ _ => (pe_cmpR kinS (pv 1) pe_str (by with_unfolding_all rfl)))) pa_nil)))))))
   (pss_one (ps_ret pe_non))
   pss_nil)
   (pss_cons (ps_if (PW.pt (pw_and (pt_cmpR (keq K hr.units) (pe_ix (kix K) (pv 0) pe_int (fun _ _ => rfl)) pe_str (nomark _)) (pw_and1 (pt_cmpR op_gt (pe_callB (klen' K) (by rfl) B.len (by decide +kernel) (pa_cons (pv 0) pa_nil)) pe_int (nomark _)))))
   (pss_one (ps_ret pe_non))
   pss_nil)
   (pss_one (ps_ret (pe_callTy kintS (by rfl) B.int (by decide +kernel) (pa_cons (pv 0) pa_nil)))))), fun c _ => by unfold p_read_integer p_read_integer_e0; infer_instance⟩
abbrev s_read_integers : Stmt := top 36
abbrev sc_read_integers_N : List Str := ["word", "marks", "found", "mark", "at"]
theorem sc_read_integers : FnScope sc_read_integers_N ["word", "marks"] (defScope s_read_integers) := ⟨rfl, rfl, rfl, by decide +kernel, rfl, by decide +kernel, by decide +kernel⟩
theorem ok_read_integers {A : Ad} (dd : Def K mg "read_integers" s_read_integers ["word", "marks"]) (B : Blt mg) (c_read_integer : Cal P w K mg base CX0 1 "read_integer" ["word"] (SpP K 1 (f_read_integer A))) : Cal P w K mg base CX0 2 "read_integers" ["word", "marks"] (SpP K 2 (f_read_integers A)) :=
 defR (τ := p_read_integers A) dd sc_read_integers 3 rfl rfl fun f cdv Ar out s H E hr => ⟨_, (pss_cons (ps_set (i := 2) sc_read_integers.nd rfl (Or.inl rfl) (pe_lst pa_nil))
   (pss_cons (ps_for PassesOwn.never rfl (kseq K (pv 1)) (pg_name (i := 3) sc_read_integers.nd rfl (Or.inl rfl))
   (pss_cons (ps_if (pt_cmpR kninS (pv 3) (pv 0) (by with_unfolding_all rfl))
   (pss_one (ps_ret pe_non))
   pss_nil)
   (pss_cons (ps_set (i := 4) sc_read_integers.nd rfl (Or.inl rfl) (kbm K PySem.F.plainAttrs_str PySem.F.slot_str_index PySem.F.type_str_index ksindex (pv 0) (pa_cons (pv 3) pa_nil)))
   (pss_cons (ps_expr (kbm K PySem.F.plainAttrs_list PySem.F.slot_list_append PySem.F.type_list_append mt_append (pv 2) (pa_cons (pe_c (E := fun _ _ _ => False) c_read_integer (hr.mono (by decide)) pass0 (pa_cons (pe_slice sl_str (pv 0) po_none (po_some (pv 4))) pa_nil)) pa_nil)))
   (pss_one (ps_set (i := 0) sc_read_integers.nd rfl (Or.inl rfl) (pe_slice sl_str (pv 0) (po_some (pe_op (kplus K) (pv 4) pe_int)) po_none)))))))
   (pss_cons (ps_expr (kbm K PySem.F.plainAttrs_list PySem.F.slot_list_append PySem.F.type_list_append mt_append (pv 2) (pa_cons (pe_c (E := fun _ _ _ => False) c_read_integer (hr.mono (by decide)) pass0 (pa_cons (pv 0) pa_nil)) pa_nil)))
   (pss_one (ps_ret (pe_ifExp (pt_cmpR (kinD K (u65 hr)) pe_non (pv 2) (by with_unfolding_all rfl)) pe_non (pe_callTy (ktupOf K) (by rfl) B.tuple (by decide +kernel) (pa_cons (pv 2) pa_nil)))))))), fun c _ => by unfold p_read_integers p_read_integers_b0 p_read_integers_g0; infer_instance⟩
abbrev s_read_words : Stmt := top 37
abbrev sc_read_words_N : List Str := ["text", "marks", "found", "word"]
theorem sc_read_words : FnScope sc_read_words_N ["text", "marks"] (defScope s_read_words) := ⟨rfl, rfl, rfl, by decide +kernel, rfl, by decide +kernel, by decide +kernel⟩
theorem ok_read_words {A : Ad} (dd : Def K mg "read_words" s_read_words ["text", "marks"]) (B : Blt mg) (c_read_integers : Cal P w K mg base CX0 2 "read_integers" ["word", "marks"] (SpP K 2 (f_read_integers A))) : Cal P w K mg base CX0 3 "read_words" ["text", "marks"] (SpP K 2 (f_read_words A)) :=
 defR (τ := p_read_words A) dd sc_read_words 2 rfl rfl fun f cdv Ar out s H E hr => ⟨_, (pss_cons (ps_if (pt_cmpR (keq K hr.units) (pv 0) pe_str (nomark _))
   (pss_one (ps_ret (pe_lst pa_nil)))
   pss_nil)
   (pss_cons (kslc (i := 2) (own := [("word", 3)]) (vs := [3]) (g := (gName 3)) (tt := tYes) sc_read_words.nd rfl rfl (sw_true rfl rfl rfl (by decide +kernel)) (kseq K (kbm K PySem.F.plainAttrs_str PySem.F.slot_str_split PySem.F.type_str_split ksplit (pv 0) (pa_cons pe_str pa_nil))) (blkOk_by (own := [("word", 3)]) (N := sc_read_words_N) (sc := defScope s_read_words) (by decide +kernel)) (fun _ _ _ _ _ => (pg_name (i := 3) sc_read_words.nd rfl (Or.inl rfl))) (fun _ _ _ _ _ => pts_nil) (fun _ _ _ _ _ => (pe_c (E := fun _ _ _ => False) c_read_integers (hr.mono (by decide)) pass0 (pa_cons (pv 3) (pa_cons (pv 1) pa_nil)))))
   (pss_cons (ps_if (pt_cmpR (kinD K (u65 hr)) pe_non (pv 2) (by with_unfolding_all rfl))
   (pss_one (ps_never))
   pss_nil)
   (pss_one (ps_ret (pv 2)))))), fun c _ => by unfold p_read_words p_read_words_e0; infer_instance⟩
abbrev s_read_cluster : Stmt := top 38
abbrev sc_read_cluster_N : List Str := ["text", "groups", "bounds", "bundles"]
theorem sc_read_cluster : FnScope sc_read_cluster_N ["text"] (defScope s_read_cluster) := ⟨rfl, rfl, rfl, by decide +kernel, rfl, by decide +kernel, by decide +kernel⟩
theorem ok_read_cluster {A : Ad} (dd : Def K mg "read_cluster" s_read_cluster ["text"]) (B : Blt mg) (T_Cluster : ClsR K mg A.Cluster "Cluster") (c_Cluster___init__ : MCal P w K mg base CX0 6 A.Cluster "__init__" ["self", "bounds", "bundles"] (SpI K A.Cluster 2 (f_Clusteru_initu A))) (c_read_words : Cal P w K mg base CX0 3 "read_words" ["text", "marks"] (SpP K 2 (f_read_words A))) (c_are_bounds : Cal P w K mg base CX0 5 "are_bounds" ["thing"] (SpP K 1 (f_are_bounds A))) (c_are_bundles : Cal P w K mg base CX0 5 "are_bundles" ["thing", "size"] (SpP K 2 (f_are_bundles A))) : Cal P w K mg base CX0 8 "read_cluster" ["text"] (SpP K 1 (f_read_cluster A)) :=
 defR (τ := p_read_cluster A) dd sc_read_cluster 3 rfl rfl fun f cdv Ar out s H E hr => ⟨_, (pss_cons (ps_set (i := 1) sc_read_cluster.nd rfl (Or.inl rfl) (pe_ifExp (pt_val (pe_callB (kisi K) (by rfl) B.isinstance (by decide +kernel) (pa_cons (pv 0) (pa_cons (pe_ty (n := "str") B.str (by decide +kernel)) pa_nil)))) (kbm K PySem.F.plainAttrs_str PySem.F.slot_str_split PySem.F.type_str_split ksplit (pv 0) (pa_cons pe_str pa_nil)) (pe_lst pa_nil)))
   (pss_cons (ps_if (pt_cmpR (kne K hr.units) (pe_callB (klen' K) (by rfl) B.len (by decide +kernel) (pa_cons (pv 1) pa_nil)) pe_int (nomark _))
   (pss_one (ps_never))
   pss_nil)
   (pss_cons (ps_par (i := 2) (j := 3) (by rfl) sc_read_cluster.nd rfl rfl (by decide) rfl rfl (pa_cons (pe_c (E := fun _ _ _ => False) c_read_words (hr.mono (by decide)) pass0 (pa_cons (pe_ix (kix K) (pv 1) pe_int (fun _ _ => rfl)) (pa_cons pe_str pa_nil))) (pa_cons (pe_c (E := fun _ _ _ => False) c_read_words (hr.mono (by decide)) pass0 (pa_cons (pe_ix (kix K) (pv 1) pe_int (fun _ _ => rfl)) (pa_cons pe_str pa_nil))) pa_nil)) (by rfl))
   (pss_cons (ps_if (PW.pt (pw_or (pt_not (pt_val (pe_c (E := fun _ _ _ => False) c_are_bounds (hr.mono (by decide)) pass0 (pa_cons (pv 2) pa_nil)))) (pw_or1 (pt_not (pt_val (pe_c (E := fun _ _ _ => False) c_are_bundles (hr.mono (by decide)) pass0 (pa_cons (pv 3) (pa_cons (pe_callB (klen' K) (by rfl) B.len (by decide +kernel) (pa_cons (pv 2) pa_nil)) pa_nil))))))))
   (pss_one (ps_never))
   pss_nil)
   (pss_one (ps_ret (pe_mk (E := fun _ _ _ => False) c_Cluster___init__ T_Cluster.mks T_Cluster.kc T_Cluster.mgC (hr.mono (by decide)) pass0 (pa_cons (pv 2) (pa_cons (pv 3) pa_nil))))))))), fun c _ => by unfold p_read_cluster; infer_instance⟩
abbrev s__law_leads_text : Stmt := top 53
abbrev sc__law_leads_text_N : List Str := ["_law_leads", "_law_many"]
theorem sc__law_leads_text : FnScope sc__law_leads_text_N ["_law_leads"] (defScope s__law_leads_text) := ⟨rfl, rfl, rfl, by decide +kernel, rfl, by decide +kernel, by decide +kernel⟩
theorem ok__law_leads_text {A : Ad} (dd : Def K mg "_law_leads_text" s__law_leads_text ["_law_leads"]) (B : Blt mg) : Cal P w K mg base CX0 1 "_law_leads_text" ["_law_leads"] (SpP K 1 (f__law_leads_text A)) :=
 defR (τ := p__law_leads_text A) dd sc__law_leads_text 1 rfl rfl fun f cdv Ar out s H E hr => ⟨_, (pss_one (ps_ret (korS K (kbm K PySem.F.plainAttrs_str PySem.F.slot_str_join PySem.F.type_str_join (kjoin K) pe_str (pa_cons (klc (own := [("_law_many", 1)]) (vs := [1]) (g := (gName 1)) (tt := tYes) sc__law_leads_text.nd (kseq K (pv 0)) (blkOk_by (own := [("_law_many", 1)]) (N := sc__law_leads_text_N) (sc := defScope s__law_leads_text) (by decide +kernel)) (fun _ _ _ _ _ => (pg_name (i := 1) sc__law_leads_text.nd rfl (Or.inl rfl))) (fun _ _ _ _ _ => pts_nil) (fun _ _ _ _ _ => (pe_callTy kstrOf (by rfl) B.str (by decide +kernel) (pa_cons (pv 1) pa_nil)))) pa_nil)) (pe_one pe_str)))), fun c _ => by unfold p__law_leads_text p__law_leads_text_e0; infer_instance⟩
abbrev s__law_any_plan : Stmt := top 55
abbrev sc__law_any_plan_N : List Str := ["_law_bag_here", "_law_found", "_law_k", "_law_runs", "_law_j", "_law_one", "_law_times"]
theorem sc__law_any_plan : FnScope sc__law_any_plan_N ["_law_bag_here"] (defScope s__law_any_plan) := ⟨rfl, rfl, rfl, by decide +kernel, rfl, by decide +kernel, by decide +kernel⟩
theorem ok__law_any_plan {A : Ad} (dd : Def K mg "_law_any_plan" s__law_any_plan ["_law_bag_here"]) (B : Blt mg) (c__law_take : Cal P w K mg base CX0 1 "_law_take" ["_law_bag_here", "_law_many"] (SpP K 2 f_take)) : Cal P w K mg base CX0 2 "_law_any_plan" ["_law_bag_here"] (SpP K 1 (f__law_any_plan A)) :=
 defR (τ := p__law_any_plan A) dd sc__law_any_plan 6 rfl rfl fun f cdv Ar out s H E hr => ⟨_, (pss_cons (ps_set (i := 1) sc__law_any_plan.nd rfl (Or.inl rfl) (pe_lst pa_nil))
   (pss_cons (ps_for PassesOwn.never rfl (pi_range1 rfl B.range (pa_cons (pe_c (E := fun _ _ _ => False) c__law_take (hr.mono (by decide)) pass0 (pa_cons (pv 0) (pa_cons pe_int pa_nil))) pa_nil)) (pg_name (i := 2) sc__law_any_plan.nd rfl (Or.inl rfl))
   (pss_cons (ps_set (i := 3) sc__law_any_plan.nd rfl (Or.inl rfl) (pe_lst pa_nil))
   (pss_cons (ps_for PassesOwn.never rfl (pi_range1 rfl B.range (pa_cons (pe_op (kplus K) pe_int (pe_c (E := fun _ _ _ => False) c__law_take (hr.mono (by decide)) pass0 (pa_cons (pv 0) (pa_cons pe_int pa_nil)))) pa_nil)) (pg_name (i := 4) sc__law_any_plan.nd rfl (Or.inl rfl))
   (pss_cons (ps_set (i := 5) sc__law_any_plan.nd rfl (Or.inl rfl) (pe_c (E := fun _ _ _ => False) c__law_take (hr.mono (by decide)) pass0 (pa_cons (pv 0) (pa_cons pe_int pa_nil))))
   (pss_cons (ps_set (i := 6) sc__law_any_plan.nd rfl (Or.inl rfl) (pe_ix (kix K) (pe_lst (pa_cons pe_int (pa_cons (pe_op op_pow pe_int pe_int) (pa_cons (pe_op (kplus K) pe_int (pe_c (E := fun _ _ _ => False) c__law_take (hr.mono (by decide)) pass0 (pa_cons (pv 0) (pa_cons (pe_op op_pow pe_int pe_int) pa_nil)))) pa_nil)))) (pe_c (E := fun _ _ _ => False) c__law_take (hr.mono (by decide)) pass0 (pa_cons (pv 0) (pa_cons pe_int pa_nil))) (fun _ _ => rfl)))
   (pss_one (ps_expr (kbm K PySem.F.plainAttrs_list PySem.F.slot_list_append PySem.F.type_list_append mt_append (pv 3) (pa_cons (pe_tup (pa_cons (pv 5) (pa_cons (pe_op op_mod (pe_op (kplus K) (pe_op (kplus K) (pv 5) pe_int) (pe_c (E := fun _ _ _ => False) c__law_take (hr.mono (by decide)) pass0 (pa_cons (pv 0) (pa_cons pe_int pa_nil)))) pe_int) (pa_cons (pv 6) pa_nil)))) pa_nil)))))))
   (pss_one (ps_expr (kbm K PySem.F.plainAttrs_list PySem.F.slot_list_append PySem.F.type_list_append mt_append (pv 1) (pa_cons (pe_tup (pa_cons (pe_ix (kix K) (pe_lst (pa_cons pe_int (pa_cons (pe_op op_pow pe_int pe_int) (pa_cons (pe_op (kplus K) pe_int (pe_c (E := fun _ _ _ => False) c__law_take (hr.mono (by decide)) pass0 (pa_cons (pv 0) (pa_cons pe_int pa_nil)))) pa_nil)))) (pe_c (E := fun _ _ _ => False) c__law_take (hr.mono (by decide)) pass0 (pa_cons (pv 0) (pa_cons pe_int pa_nil))) (fun _ _ => rfl)) (pa_cons (pv 3) pa_nil))) pa_nil)))))))
   (pss_one (ps_ret (pv 1))))), fun c _ => by unfold p__law_any_plan p__law_any_plan_b1 p__law_any_plan_g1 p__law_any_plan_b0 p__law_any_plan_g0; infer_instance⟩
abbrev s_is_run : Stmt := top 25
abbrev sc_is_run_N : List Str := ["thing", "size"]
theorem sc_is_run : FnScope sc_is_run_N ["thing", "size"] (defScope s_is_run) := ⟨rfl, rfl, rfl, by decide +kernel, rfl, by decide +kernel, by decide +kernel⟩
theorem ok_is_run {A : Ad} (dd : Def K mg "is_run" s_is_run ["thing", "size"]) (B : Blt mg) (c_is_broker : Cal P w K mg base CX0 3 "is_broker" ["thing", "size"] (SpP K 2 (f_is_broker A))) (c_is_count : Cal P w K mg base CX0 3 "is_count" ["thing"] (SpP K 1 (f_is_count A))) : Cal P w K mg base CX0 4 "is_run" ["thing", "size"] (SpP K 2 (f_is_run A)) :=
 defR (τ := p_is_run A) dd sc_is_run 0 rfl rfl fun f cdv Ar out s H E hr => ⟨_, (pss_cons (ps_if (PW.pt (pw_or (pt_not (pt_val (pe_callB (kisi K) (by rfl) B.isinstance (by decide +kernel) (pa_cons (pv 0) (pa_cons (pe_ty (n := "tuple") B.tuple (by decide +kernel)) pa_nil))))) (pw_or (pt_cmpR (kne K hr.units) (pe_callB (klen' K) (by rfl) B.len (by decide +kernel) (pa_cons (pv 0) pa_nil)) pe_int (nomark _)) (pw_or1 (pt_not (pt_val (pe_c (E := fun _ _ _ => False) c_is_count (hr.mono (by decide)) pass0 (pa_cons (pe_ix (kix K) (pv 0) pe_int (fun _ _ => rfl)) pa_nil))))))))
   (pss_one (ps_ret pe_bl))
   pss_nil)
   (pss_one (ps_ret (pe_and (pe_c (E := fun _ _ _ => False) c_is_broker (hr.mono (by decide)) pass0 (pa_cons (pe_ix (kix K) (pv 0) pe_int (fun _ _ => rfl)) (pa_cons (pv 1) pa_nil))) (pe_and (pe_c (E := fun _ _ _ => False) c_is_broker (hr.mono (by decide)) pass0 (pa_cons (pe_ix (kix K) (pv 0) pe_int (fun _ _ => rfl)) (pa_cons (pv 1) pa_nil))) (pe_one (pe_cmpR (kne K hr.units) (pe_ix (kix K) (pv 0) pe_int (fun _ _ => rfl)) (pe_ix (kix K) (pv 0) pe_int (fun _ _ => rfl)) (nomark _)))))))), fun c _ => by unfold p_is_run; infer_instance⟩
abbrev s_is_block : Stmt := top 26
abbrev sc_is_block_N : List Str := ["thing", "size", "run"]
theorem sc_is_block : FnScope sc_is_block_N ["thing", "size"] (defScope s_is_block) := ⟨rfl, rfl, rfl, by decide +kernel, rfl, by decide +kernel, by decide +kernel⟩
theorem ok_is_block {A : Ad} (dd : Def K mg "is_block" s_is_block ["thing", "size"]) (B : Blt mg) {t_MOST_IN_BLOCK : Tok} (m_MOST_IN_BLOCK : mg "MOST_IN_BLOCK" = some (.int 1000 t_MOST_IN_BLOCK)) (c_is_count : Cal P w K mg base CX0 3 "is_count" ["thing"] (SpP K 1 (f_is_count A))) (c_is_run : Cal P w K mg base CX0 4 "is_run" ["thing", "size"] (SpP K 2 (f_is_run A))) : Cal P w K mg base CX0 5 "is_block" ["thing", "size"] (SpP K 2 (f_is_block A)) :=
 defR (τ := p_is_block A) dd sc_is_block 1 rfl rfl fun f cdv Ar out s H E hr => ⟨_, (pss_cons (ps_if (PW.pt (pw_or (pt_not (pt_val (pe_callB (kisi K) (by rfl) B.isinstance (by decide +kernel) (pa_cons (pv 0) (pa_cons (pe_ty (n := "tuple") B.tuple (by decide +kernel)) pa_nil))))) (pw_or (pt_cmpR (kne K hr.units) (pe_callB (klen' K) (by rfl) B.len (by decide +kernel) (pa_cons (pv 0) pa_nil)) pe_int (nomark _)) (pw_or1 (pt_not (pt_val (pe_c (E := fun _ _ _ => False) c_is_count (hr.mono (by decide)) pass0 (pa_cons (pe_ix (kix K) (pv 0) pe_int (fun _ _ => rfl)) pa_nil))))))))
   (pss_one (ps_ret pe_bl))
   pss_nil)
   (pss_cons (ps_if (PW.pt (pw_or (pt_not (pt_val (pe_callB (kisi K) (by rfl) B.isinstance (by decide +kernel) (pa_cons (pe_ix (kix K) (pv 0) pe_int (fun _ _ => rfl)) (pa_cons (pe_ty (n := "list") B.list (by decide +kernel)) pa_nil))))) (pw_or1 (pt_not (pt_chain op_le op_le pe_int (pe_callB (klen' K) (by rfl) B.len (by decide +kernel) (pa_cons (pe_ix (kix K) (pv 0) pe_int (fun _ _ => rfl)) pa_nil)) (pe_gi m_MOST_IN_BLOCK))))))
   (pss_one (ps_ret pe_bl))
   pss_nil)
   (pss_one (ps_ret (pe_callB (kall K) (by rfl) B.all (by decide +kernel) (pa_cons (klc (own := [("run", 2)]) (vs := [2]) (g := (gName 2)) (tt := tYes) sc_is_block.nd (kseq K (pe_ix (kix K) (pv 0) pe_int (fun _ _ => rfl))) (blkOk_by (own := [("run", 2)]) (N := sc_is_block_N) (sc := defScope s_is_block) (by decide +kernel)) (fun _ _ _ _ _ => (pg_name (i := 2) sc_is_block.nd rfl (Or.inl rfl))) (fun _ _ _ _ _ => pts_nil) (fun _ _ _ _ _ => (pe_c (E := fun _ _ _ => False) c_is_run (hr.mono (by decide)) pass0 (pa_cons (pv 2) (pa_cons (pv 1) pa_nil))))) pa_nil)))))), fun c _ => by unfold p_is_block p_is_block_e0; infer_instance⟩
abbrev s_are_blocks : Stmt := top 27
abbrev sc_are_blocks_N : List Str := ["thing", "size", "turns", "runs", "block"]
theorem sc_are_blocks : FnScope sc_are_blocks_N ["thing", "size"] (defScope s_are_blocks) := ⟨rfl, rfl, rfl, by decide +kernel, rfl, by decide +kernel, by decide +kernel⟩
theorem ok_are_blocks {A : Ad} (dd : Def K mg "are_blocks" s_are_blocks ["thing", "size"]) (B : Blt mg) {t_MOST_BLOCKS : Tok} (m_MOST_BLOCKS : mg "MOST_BLOCKS" = some (.int 400 t_MOST_BLOCKS)) {t_MOST_RUNS : Tok} (m_MOST_RUNS : mg "MOST_RUNS" = some (.int 4000 t_MOST_RUNS)) (c_is_block : Cal P w K mg base CX0 5 "is_block" ["thing", "size"] (SpP K 2 (f_is_block A))) : Cal P w K mg base CX0 6 "are_blocks" ["thing", "size"] (SpP K 2 (f_are_blocks A)) :=
 defR (τ := p_are_blocks A) dd sc_are_blocks 3 rfl rfl fun f cdv Ar out s H E hr => ⟨_, (pss_cons (ps_if (PW.pt (pw_or (pt_not (pt_val (pe_callB (kisi K) (by rfl) B.isinstance (by decide +kernel) (pa_cons (pv 0) (pa_cons (pe_ty (n := "list") B.list (by decide +kernel)) pa_nil))))) (pw_or (pt_cmpR op_gt (pe_callB (klen' K) (by rfl) B.len (by decide +kernel) (pa_cons (pv 0) pa_nil)) (pe_gi m_MOST_BLOCKS) (nomark _)) (pw_or1 (pt_not (pt_val (pe_callB (kall K) (by rfl) B.all (by decide +kernel) (pa_cons (klc (own := [("block", 4)]) (vs := [4]) (g := (gName 4)) (tt := tYes) sc_are_blocks.nd (kseq K (pv 0)) (blkOk_by (own := [("block", 4)]) (N := sc_are_blocks_N) (sc := defScope s_are_blocks) (by decide +kernel)) (fun _ _ _ _ _ => (pg_name (i := 4) sc_are_blocks.nd rfl (Or.inl rfl))) (fun _ _ _ _ _ => pts_nil) (fun _ _ _ _ _ => (pe_c (E := fun _ _ _ => False) c_is_block (hr.mono (by decide)) pass0 (pa_cons (pv 4) (pa_cons (pv 1) pa_nil))))) pa_nil))))))))
   (pss_one (ps_ret pe_bl))
   pss_nil)
   (pss_one (ps_ret (pe_cmpR op_le (pe_callB (ksum K) (by rfl) B.sum (by decide +kernel) (pa_cons (klc (own := [("turns", 2), ("runs", 3)]) (vs := [2, 3]) (g := (gTup K 2 (gCons (gName 2) (gCons (gName 3) gNil)))) (tt := tYes) sc_are_blocks.nd (kseq K (pv 0)) (blkOk_by (own := [("turns", 2), ("runs", 3)]) (N := sc_are_blocks_N) (sc := defScope s_are_blocks) (by decide +kernel)) (fun _ _ _ _ _ => (kgtup K (n := 2) (pgs_cons (pg_name (i := 2) sc_are_blocks.nd rfl (Or.inl rfl)) (pgs_cons (pg_name (i := 3) sc_are_blocks.nd rfl (Or.inl rfl)) pgs_nil)))) (fun _ _ _ _ _ => pts_nil) (fun _ _ _ _ _ => (pe_callB (klen' K) (by rfl) B.len (by decide +kernel) (pa_cons (pv 3) pa_nil)))) pa_nil)) (pe_gi m_MOST_RUNS) (nomark _))))), fun c _ => by unfold p_are_blocks p_are_blocks_e1 p_are_blocks_e0; infer_instance⟩
abbrev s_read_block : Stmt := top 40
abbrev sc_read_block_N : List Str := ["group", "words", "turns", "runs", "word"]
theorem sc_read_block : FnScope sc_read_block_N ["group"] (defScope s_read_block) := ⟨rfl, rfl, rfl, by decide +kernel, rfl, by decide +kernel, by decide +kernel⟩
theorem ok_read_block {A : Ad} (dd : Def K mg "read_block" s_read_block ["group"]) (B : Blt mg) (c_read_integer : Cal P w K mg base CX0 1 "read_integer" ["word"] (SpP K 1 (f_read_integer A))) (c_read_integers : Cal P w K mg base CX0 2 "read_integers" ["word", "marks"] (SpP K 2 (f_read_integers A))) : Cal P w K mg base CX0 3 "read_block" ["group"] (SpP K 1 (f_read_block A)) :=
 defR (τ := p_read_block A) dd sc_read_block 4 rfl rfl fun f cdv Ar out s H E hr => ⟨_, (pss_cons (ps_set (i := 1) sc_read_block.nd rfl (Or.inl rfl) (kbm K PySem.F.plainAttrs_str PySem.F.slot_str_split PySem.F.type_str_split ksplit (pv 0) (pa_cons pe_str pa_nil)))
   (pss_cons (ps_set (i := 2) sc_read_block.nd rfl (Or.inl rfl) (pe_c (E := fun _ _ _ => False) c_read_integer (hr.mono (by decide)) pass0 (pa_cons (pe_ix (kix K) (pv 1) pe_int (fun _ _ => rfl)) pa_nil)))
   (pss_cons (kslc (i := 3) (own := [("word", 4)]) (vs := [4]) (g := (gName 4)) (tt := tYes) sc_read_block.nd rfl rfl (sw_true rfl rfl rfl (by decide +kernel)) (kseq K (pe_slice (kslice K) (pv 1) (po_some pe_int) po_none)) (blkOk_by (own := [("word", 4)]) (N := sc_read_block_N) (sc := defScope s_read_block) (by decide +kernel)) (fun _ _ _ _ _ => (pg_name (i := 4) sc_read_block.nd rfl (Or.inl rfl))) (fun _ _ _ _ _ => pts_nil) (fun _ _ _ _ _ => (pe_c (E := fun _ _ _ => False) c_read_integers (hr.mono (by decide)) pass0 (pa_cons (pv 4) (pa_cons pe_str pa_nil)))))
   (pss_cons (ps_if (PW.pt (pw_or (pt_cmpR kisN (pv 2) pe_non (nomark _)) (pw_or (pt_cmpR (keq K hr.units) (pv 3) (pe_lst pa_nil) (nomark _)) (pw_or1 (pt_cmpR (kinD K (u65 hr)) pe_non (pv 3) (by with_unfolding_all rfl))))))
   (pss_one (ps_never))
   pss_nil)
   (pss_one (ps_ret (pe_tup (pa_cons (pv 2) (pa_cons (pv 3) pa_nil))))))))), fun c _ => by unfold p_read_block p_read_block_e0; infer_instance⟩
abbrev s_read_plan : Stmt := top 41
abbrev sc_read_plan_N : List Str := ["text", "found", "group"]
theorem sc_read_plan : FnScope sc_read_plan_N ["text"] (defScope s_read_plan) := ⟨rfl, rfl, rfl, by decide +kernel, rfl, by decide +kernel, by decide +kernel⟩
theorem ok_read_plan {A : Ad} (dd : Def K mg "read_plan" s_read_plan ["text"]) (B : Blt mg) {t_MOST_BROKERS : Tok} (m_MOST_BROKERS : mg "MOST_BROKERS" = some (.int 10 t_MOST_BROKERS)) (c_are_blocks : Cal P w K mg base CX0 6 "are_blocks" ["thing", "size"] (SpP K 2 (f_are_blocks A))) (c_read_block : Cal P w K mg base CX0 3 "read_block" ["group"] (SpP K 1 (f_read_block A))) : Cal P w K mg base CX0 7 "read_plan" ["text"] (SpP K 1 (f_read_plan A)) :=
 defR (τ := p_read_plan A) dd sc_read_plan 2 rfl rfl fun f cdv Ar out s H E hr => ⟨_, (pss_cons (ps_if (pt_not (pt_val (pe_callB (kisi K) (by rfl) B.isinstance (by decide +kernel) (pa_cons (pv 0) (pa_cons (pe_ty (n := "str") B.str (by decide +kernel)) pa_nil)))))
   (pss_one (ps_never))
   pss_nil)
   (pss_cons (ps_set (i := 1) sc_read_plan.nd rfl (Or.inl rfl) (pe_ifExp (pt_cmpR (kne K hr.units) (pv 0) pe_str (nomark _)) (klc (own := [("group", 2)]) (vs := [2]) (g := (gName 2)) (tt := tYes) sc_read_plan.nd (kseq K (kbm K PySem.F.plainAttrs_str PySem.F.slot_str_split PySem.F.type_str_split ksplit (pv 0) (pa_cons pe_str pa_nil))) (blkOk_by (own := [("group", 2)]) (N := sc_read_plan_N) (sc := defScope s_read_plan) (by decide +kernel)) (fun _ _ _ _ _ => (pg_name (i := 2) sc_read_plan.nd rfl (Or.inl rfl))) (fun _ _ _ _ _ => pts_nil) (fun _ _ _ _ _ => (pe_c (E := fun _ _ _ => False) c_read_block (hr.mono (by decide)) pass0 (pa_cons (pv 2) pa_nil)))) (pe_lst pa_nil)))
   (pss_cons (ps_if (pt_not (pt_val (pe_cV (E := fun _ _ _ => False) c_are_blocks (hr.mono (by decide)) pass0 (pa_cons (pv 1) (pa_cons (pe_gi m_MOST_BROKERS) pa_nil)))))
   (pss_one (ps_never))
   pss_nil)
   (pss_one (ps_ret (pv 1)))))), fun c _ => by unfold p_read_plan p_read_plan_e0; infer_instance⟩
abbrev s__law_plan_text : Stmt := top 54
abbrev sc__law_plan_text_N : List Str := ["_law_plan", "_law_groups", "_law_turns", "_law_runs", "_law_words", "_law_one", "_law_other", "_law_times"]
theorem sc__law_plan_text : FnScope sc__law_plan_text_N ["_law_plan"] (defScope s__law_plan_text) := ⟨rfl, rfl, rfl, by decide +kernel, rfl, by decide +kernel, by decide +kernel⟩
theorem ok__law_plan_text {A : Ad} (dd : Def K mg "_law_plan_text" s__law_plan_text ["_law_plan"]) (B : Blt mg) : Cal P w K mg base CX0 1 "_law_plan_text" ["_law_plan"] (SpP K 1 (f__law_plan_text A)) :=
 defR (τ := p__law_plan_text A) dd sc__law_plan_text 7 rfl rfl fun f cdv Ar out s H E hr => ⟨_, (pss_cons (ps_set (i := 1) sc__law_plan_text.nd rfl (Or.inl rfl) (pe_lst pa_nil))
   (pss_cons (ps_for PassesOwn.never rfl (kseq K (pv 0)) (kgtup K (n := 2) (pgs_cons (pg_name (i := 2) sc__law_plan_text.nd rfl (Or.inl rfl)) (pgs_cons (pg_name (i := 3) sc__law_plan_text.nd rfl (Or.inl rfl)) pgs_nil)))
   (pss_cons (kslc (i := 4) (own := [("_law_one", 5), ("_law_other", 6), ("_law_times", 7)]) (vs := [5, 6, 7]) (g := (gTup K 3 (gCons (gName 5) (gCons (gName 6) (gCons (gName 7) gNil))))) (tt := tYes) sc__law_plan_text.nd rfl rfl (sw_true rfl rfl rfl (by decide +kernel)) (kseq K (pv 3)) (blkOk_by (own := [("_law_one", 5), ("_law_other", 6), ("_law_times", 7)]) (N := sc__law_plan_text_N) (sc := defScope s__law_plan_text) (by decide +kernel)) (fun _ _ _ _ _ => (kgtup K (n := 3) (pgs_cons (pg_name (i := 5) sc__law_plan_text.nd rfl (Or.inl rfl)) (pgs_cons (pg_name (i := 6) sc__law_plan_text.nd rfl (Or.inl rfl)) (pgs_cons (pg_name (i := 7) sc__law_plan_text.nd rfl (Or.inl rfl)) pgs_nil))))) (fun _ _ _ _ _ => pts_nil) (fun _ _ _ _ _ => (pe_op (kplus K) (pe_op (kplus K) (pe_op (kplus K) (pe_op (kplus K) (pe_callTy kstrOf (by rfl) B.str (by decide +kernel) (pa_cons (pv 5) pa_nil)) pe_str) (pe_callTy kstrOf (by rfl) B.str (by decide +kernel) (pa_cons (pv 6) pa_nil))) pe_str) (pe_callTy kstrOf (by rfl) B.str (by decide +kernel) (pa_cons (pv 7) pa_nil)))))
   (pss_one (ps_expr (kbm K PySem.F.plainAttrs_list PySem.F.slot_list_append PySem.F.type_list_append mt_append (pv 1) (pa_cons (kbm K PySem.F.plainAttrs_str PySem.F.slot_str_join PySem.F.type_str_join (kjoin K) pe_str (pa_cons (pe_op (kplus K) (pe_lst (pa_cons (pe_callTy kstrOf (by rfl) B.str (by decide +kernel) (pa_cons (pv 2) pa_nil)) pa_nil)) (pv 4)) pa_nil)) pa_nil))))))
   (pss_one (ps_ret (korS K (kbm K PySem.F.plainAttrs_str PySem.F.slot_str_join PySem.F.type_str_join (kjoin K) pe_str (pa_cons (pv 1) pa_nil)) (pe_one pe_str)))))), fun c _ => by unfold p__law_plan_text p__law_plan_text_b0 p__law_plan_text_g0 p__law_plan_text_e0; infer_instance⟩
abbrev s__law_alike : Stmt := top 45
abbrev sc__law_alike_N : List Str := ["_law_found", "_law_due"]
theorem sc__law_alike : FnScope sc__law_alike_N ["_law_found", "_law_due"] (defScope s__law_alike) := ⟨rfl, rfl, rfl, by decide +kernel, rfl, by decide +kernel, by decide +kernel⟩
theorem ok__law_alike {A : Ad} (dd : Def K mg "_law_alike" s__law_alike ["_law_found", "_law_due"]) (B : Blt mg) : CalG P w K mg base CX0 1 "_law_alike" ["_law_found", "_law_due"] (SpP K 2 (f__law_alike A)) :=
 defRG (τ := p__law_alike A) dd sc__law_alike 0 rfl rfl fun f cdv Ar out s H E hgu hr => ⟨_, (pss_one (ps_ret (pe_and (pe_cmpR (keq K hr.units) (pv 0) (pv 1) (nomark _)) (pe_one (pe_cmpR op_eq (pe_callB (krepr K hgu hr.units) (by rfl) B.repr (by decide +kernel) (pa_cons (pv 0) pa_nil)) (pe_callB (krepr K hgu hr.units) (by rfl) B.repr (by decide +kernel) (pa_cons (pv 1) pa_nil)) (nomark _)))))), fun c _ => by unfold p__law_alike; infer_instance⟩
abbrev s__law_run : Stmt := top 51
abbrev sc__law_run_N : List Str := ["_law_bag_here", "_law_bundles_here", "_law_great", "_law_row", "_law_times"]
theorem sc__law_run : FnScope sc__law_run_N ["_law_bag_here", "_law_bundles_here", "_law_great"] (defScope s__law_run) := ⟨rfl, rfl, rfl, by decide +kernel, rfl, by decide +kernel, by decide +kernel⟩
theorem ok__law_run {A : Ad} (dd : Def K mg "_law_run" s__law_run ["_law_bag_here", "_law_bundles_here", "_law_great"]) (B : Blt mg) (c__law_take : Cal P w K mg base CX0 1 "_law_take" ["_law_bag_here", "_law_many"] (SpP K 2 f_take)) : Cal P w K mg base CX0 2 "_law_run" ["_law_bag_here", "_law_bundles_here", "_law_great"] (SpP K 3 (f__law_run A)) :=
 defR (τ := p__law_run A) dd sc__law_run 2 rfl rfl fun f cdv Ar out s H E hr => ⟨_, (pss_cons (ps_set (i := 3) sc__law_run.nd rfl (Or.inl rfl) (pe_ix (kix K) (pv 1) (pe_c (E := fun _ _ _ => False) c__law_take (hr.mono (by decide)) pass0 (pa_cons (pv 0) (pa_cons (pe_callB (klen' K) (by rfl) B.len (by decide +kernel) (pa_cons (pv 1) pa_nil)) pa_nil))) (fun _ _ => rfl)))
   (pss_cons (ps_set (i := 4) sc__law_run.nd rfl (Or.inl rfl) (pe_ix (kix K) (pe_lst (pa_cons pe_int (pa_cons (pe_op (kplus K) pe_int (pe_c (E := fun _ _ _ => False) c__law_take (hr.mono (by decide)) pass0 (pa_cons (pv 0) (pa_cons pe_int pa_nil)))) (pa_cons (pe_op (kplus K) pe_int (pe_c (E := fun _ _ _ => False) c__law_take (hr.mono (by decide)) pass0 (pa_cons (pv 0) (pa_cons (pe_ix (kix K) (pv 3) pe_int (fun _ _ => rfl)) pa_nil)))) pa_nil)))) (pe_c (E := fun _ _ _ => False) c__law_take (hr.mono (by decide)) pass0 (pa_cons (pv 0) (pa_cons pe_int pa_nil))) (fun _ _ => rfl)))
   (pss_cons (ps_if (PW.pt (pw_and (pt_val (pv 2)) (pw_and1 (pt_cmpR (keq K hr.units) (pe_c (E := fun _ _ _ => False) c__law_take (hr.mono (by decide)) pass0 (pa_cons (pv 0) (pa_cons pe_int pa_nil))) pe_int (nomark _)))))
   (pss_one (ps_set (i := 4) sc__law_run.nd rfl (Or.inl rfl) (pe_op (kplus K) pe_int (pe_c (E := fun _ _ _ => False) c__law_take (hr.mono (by decide)) pass0 (pa_cons (pv 0) (pa_cons (pe_op op_pow pe_int pe_int) pa_nil))))))
   pss_nil)
   (pss_one (ps_ret (pe_ix (kix K) (pe_lst (pa_cons (pe_tup (pa_cons (pe_ix (kix K) (pv 3) pe_int (fun _ _ => rfl)) (pa_cons (pe_ix (kix K) (pv 3) pe_int (fun _ _ => rfl)) (pa_cons (pv 4) pa_nil)))) (pa_cons (pe_tup (pa_cons (pe_ix (kix K) (pv 3) pe_int (fun _ _ => rfl)) (pa_cons (pe_ix (kix K) (pv 3) pe_int (fun _ _ => rfl)) (pa_cons (pv 4) pa_nil)))) pa_nil))) (pe_c (E := fun _ _ _ => False) c__law_take (hr.mono (by decide)) pass0 (pa_cons (pv 0) (pa_cons pe_int pa_nil))) (fun _ _ => rfl))))))), fun c _ => by unfold p__law_run; infer_instance⟩
abbrev s_spaced : Stmt := top 30
abbrev sc_spaced_N : List Str := ["words"]
theorem sc_spaced : FnScope sc_spaced_N ["words"] (defScope s_spaced) := ⟨rfl, rfl, rfl, by decide +kernel, rfl, by decide +kernel, by decide +kernel⟩
theorem ok_spaced {A : Ad} (dd : Def K mg "spaced" s_spaced ["words"]) (B : Blt mg) : Cal P w K mg base CX0 1 "spaced" ["words"] (SpP K 1 (f_spaced A)) :=
 defR (τ := p_spaced A) dd sc_spaced 0 rfl rfl fun f cdv Ar out s H E hr => ⟨_, (pss_one (ps_ret (pe_ifExp (pt_cmpR (kne K hr.units) (pv 0) (pe_lst pa_nil) (nomark _)) (kbm K PySem.F.plainAttrs_str PySem.F.slot_str_join PySem.F.type_str_join (kjoin K) pe_str (pa_cons (pv 0) pa_nil)) pe_str))), fun c _ => by unfold p_spaced; infer_instance⟩
abbrev s_show_plan : Stmt := top 33
abbrev sc_show_plan_N : List Str := ["plan", "groups", "turns", "runs", "one", "other", "times"]
theorem sc_show_plan : FnScope sc_show_plan_N ["plan"] (defScope s_show_plan) := ⟨rfl, rfl, rfl, by decide +kernel, rfl, by decide +kernel, by decide +kernel⟩
theorem ok_show_plan {A : Ad} (dd : Def K mg "show_plan" s_show_plan ["plan"]) (B : Blt mg) (c_spaced : Cal P w K mg base CX0 1 "spaced" ["words"] (SpP K 1 (f_spaced A))) : Cal P w K mg base CX0 2 "show_plan" ["plan"] (SpP K 1 (f_show_plan A)) :=
 defR (τ := p_show_plan A) dd sc_show_plan 6 rfl rfl fun f cdv Ar out s H E hr => ⟨_, (pss_cons (ps_set (i := 1) sc_show_plan.nd rfl (Or.inl rfl) (pe_lst pa_nil))
   (pss_cons (ps_for PassesOwn.never rfl (kseq K (pv 0)) (kgtup K (n := 2) (pgs_cons (pg_name (i := 2) sc_show_plan.nd rfl (Or.inl rfl)) (pgs_cons (pg_name (i := 3) sc_show_plan.nd rfl (Or.inl rfl)) pgs_nil)))
   (pss_one (ps_expr (kbm K PySem.F.plainAttrs_list PySem.F.slot_list_append PySem.F.type_list_append mt_append (pv 1) (pa_cons (pe_c (E := fun _ _ _ => False) c_spaced (hr.mono (by decide)) pass0 (pa_cons (pe_op (kplus K) (pe_lst (pa_cons (pe_callTy kstrOf (by rfl) B.str (by decide +kernel) (pa_cons (pv 2) pa_nil)) pa_nil)) (klc (own := [("one", 4), ("other", 5), ("times", 6)]) (vs := [4, 5, 6]) (g := (gTup K 3 (gCons (gName 4) (gCons (gName 5) (gCons (gName 6) gNil))))) (tt := tYes) sc_show_plan.nd (kseq K (pv 3)) (blkOk_by (own := [("one", 4), ("other", 5), ("times", 6)]) (N := sc_show_plan_N) (sc := defScope s_show_plan) (by decide +kernel)) (fun _ _ _ _ _ => (kgtup K (n := 3) (pgs_cons (pg_name (i := 4) sc_show_plan.nd rfl (Or.inl rfl)) (pgs_cons (pg_name (i := 5) sc_show_plan.nd rfl (Or.inl rfl)) (pgs_cons (pg_name (i := 6) sc_show_plan.nd rfl (Or.inl rfl)) pgs_nil))))) (fun _ _ _ _ _ => pts_nil) (fun _ _ _ _ _ => (kjoined (.cons (pe_fmt (pv 4)) (.cons pe_str (.cons (pe_fmt (pv 5)) (.cons pe_str (.cons (pe_fmt (pv 6)) .nil))))))))) pa_nil)) pa_nil)))))
   (pss_one (ps_ret (pe_ifExp (pt_cmpR (kne K hr.units) (pv 1) (pe_lst pa_nil) (nomark _)) (kbm K PySem.F.plainAttrs_str PySem.F.slot_str_join PySem.F.type_str_join (kjoin K) pe_str (pa_cons (pv 1) pa_nil)) pe_str))))), fun c _ => by unfold p_show_plan p_show_plan_b0 p_show_plan_g0 p_show_plan_e0; infer_instance⟩
abbrev s__law_plans_right : Stmt := top 56
abbrev sc__law_plans_right_N : List Str := ["_law_bag_here", "_law_bundles_here", "_law_plans", "_law_plan", "_law_text_here", "_law_shown", "_law_found", "_law_k"]
theorem sc__law_plans_right : FnScope sc__law_plans_right_N ["_law_bag_here", "_law_bundles_here"] (defScope s__law_plans_right) := ⟨rfl, rfl, rfl, by decide +kernel, rfl, by decide +kernel, by decide +kernel⟩
theorem ok__law_plans_right {A : Ad} (dd : Def K mg "_law_plans_right" s__law_plans_right ["_law_bag_here", "_law_bundles_here"]) (B : Blt mg) (c__law_any_plan : Cal P w K mg base CX0 2 "_law_any_plan" ["_law_bag_here"] (SpP K 1 (f__law_any_plan A))) (c__law_take : Cal P w K mg base CX0 1 "_law_take" ["_law_bag_here", "_law_many"] (SpP K 2 f_take)) (c_read_plan : Cal P w K mg base CX0 7 "read_plan" ["text"] (SpP K 1 (f_read_plan A))) (c__law_plan_text : Cal P w K mg base CX0 1 "_law_plan_text" ["_law_plan"] (SpP K 1 (f__law_plan_text A))) (c__law_alike : CalG P w K mg base CX0 1 "_law_alike" ["_law_found", "_law_due"] (SpP K 2 (f__law_alike A))) (c__law_run : Cal P w K mg base CX0 2 "_law_run" ["_law_bag_here", "_law_bundles_here", "_law_great"] (SpP K 3 (f__law_run A))) (c_show_plan : Cal P w K mg base CX0 2 "show_plan" ["plan"] (SpP K 1 (f_show_plan A))) : CalG P w K mg base CX0 8 "_law_plans_right" ["_law_bag_here", "_law_bundles_here"] (SpP K 2 (f__law_plans_right A)) :=
 defRG (τ := p__law_plans_right A) dd sc__law_plans_right 6 rfl rfl fun f cdv Ar out s H E hgu hr => ⟨_, (pss_cons (ps_set (i := 2) sc__law_plans_right.nd rfl (Or.inl rfl) (pe_lst (pa_cons (pe_c (E := fun _ _ _ => False) c__law_any_plan (hr.mono (by decide)) pass0 (pa_cons (pv 0) pa_nil)) (pa_cons (pe_lst pa_nil) (pa_cons (klc (own := [("_law_k", 7)]) (vs := [7]) (g := (gName 7)) (tt := tYes) sc__law_plans_right.nd (pi_range1 rfl B.range (pa_cons pe_int pa_nil)) (blkOk_by (own := [("_law_k", 7)]) (N := sc__law_plans_right_N) (sc := defScope s__law_plans_right) (by decide +kernel)) (fun _ _ _ _ _ => (pg_name (i := 7) sc__law_plans_right.nd rfl (Or.inl rfl))) (fun _ _ _ _ _ => pts_nil) (fun _ _ _ _ _ => (pe_tup (pa_cons (pe_op (kplus K) pe_int (pv 7)) (pa_cons (pe_lst (pa_cons (pe_c (E := fun _ _ _ => False) c__law_run (hr.mono (by decide)) pass0 (pa_cons (pv 0) (pa_cons (pv 1) (pa_cons pe_bl pa_nil)))) pa_nil)) pa_nil))))) pa_nil)))))
   (pss_cons (ps_if (pt_cmpR (keq K hr.units) (pe_c (E := fun _ _ _ => False) c__law_take (hr.mono (by decide)) pass0 (pa_cons (pv 0) (pa_cons pe_int pa_nil))) pe_int (nomark _))
   (pss_one (ps_expr (kbm K PySem.F.plainAttrs_list PySem.F.slot_list_append PySem.F.type_list_append mt_append (pv 2) (pa_cons (pe_op ktimes (pe_lst (pa_cons (pe_tup (pa_cons pe_int (pa_cons (pe_lst (pa_cons (pe_c (E := fun _ _ _ => False) c__law_run (hr.mono (by decide)) pass0 (pa_cons (pv 0) (pa_cons (pv 1) (pa_cons pe_bl pa_nil)))) pa_nil)) pa_nil))) pa_nil)) pe_int) pa_nil))))
   pss_nil)
   (pss_cons (ps_for PassesOwn.never rfl (kseq K (pv 2)) (pg_name (i := 3) sc__law_plans_right.nd rfl (Or.inl rfl))
   (pss_cons (ps_par (i := 4) (j := 5) (by rfl) sc__law_plans_right.nd rfl rfl (by decide) rfl rfl (pa_cons (pe_c (E := fun _ _ _ => False) c__law_plan_text (hr.mono (by decide)) pass0 (pa_cons (pv 3) pa_nil)) (pa_cons (pe_callB (krepr K hgu hr.units) (by rfl) B.repr (by decide +kernel) (pa_cons (pv 3) pa_nil)) pa_nil)) (by rfl))
   (pss_cons (ps_if (PW.pt (pw_or (pt_not (pt_val (pe_cGV (E := fun _ _ _ => False) c__law_alike hgu (hr.mono (by decide)) pass0 (pa_cons (pe_lst (pa_cons (pe_c (E := fun _ _ _ => False) c_show_plan (hr.mono (by decide)) pass0 (pa_cons (pv 3) pa_nil)) (pa_cons (pe_c (E := fun _ _ _ => False) c_read_plan (hr.mono (by decide)) pass0 (pa_cons (pv 4) pa_nil)) pa_nil))) (pa_cons (pe_lst (pa_cons (pv 4) (pa_cons (pv 3) pa_nil))) pa_nil))))) (pw_or1 (pt_cmpR op_ne (pe_callB (krepr K hgu hr.units) (by rfl) B.repr (by decide +kernel) (pa_cons (pv 3) pa_nil)) (pv 5) (nomark _)))))
   (pss_one (ps_ret pe_bl))
   pss_nil)
   (pss_cons (ps_set (i := 6) sc__law_plans_right.nd rfl (Or.inl rfl) (pe_c (E := fun _ _ _ => False) c_read_plan (hr.mono (by decide)) pass0 (pa_cons (pv 4) pa_nil)))
   (pss_cons (ps_expr (kbm K PySem.F.plainAttrs_list PySem.F.slot_list_append PySem.F.type_list_append mt_append (pv 6) (pa_cons pe_non pa_nil)))
   (pss_one (ps_if (pt_not (pt_val (pe_cGV (E := fun _ _ _ => False) c__law_alike hgu (hr.mono (by decide)) pass0 (pa_cons (pe_c (E := fun _ _ _ => False) c_read_plan (hr.mono (by decide)) pass0 (pa_cons (pv 4) pa_nil)) (pa_cons (pv 3) pa_nil)))))
   (pss_one (ps_ret pe_bl))
   pss_nil)))))))
   (pss_one (ps_ret pe_bl))))), fun c _ => by unfold p__law_plans_right p__law_plans_right_c0 p__law_plans_right_b0 p__law_plans_right_g0 p__law_plans_right_e0; infer_instance⟩
abbrev s__law_text : Stmt := top 52
abbrev sc__law_text_N : List Str := ["_law_bounds_here", "_law_bundles_here", "_law_first", "_law_rows", "_law_one", "_law_other", "_law_many", "_law_floor", "_law_ceiling"]
theorem sc__law_text : FnScope sc__law_text_N ["_law_bounds_here", "_law_bundles_here"] (defScope s__law_text) := ⟨rfl, rfl, rfl, by decide +kernel, rfl, by decide +kernel, by decide +kernel⟩
theorem ok__law_text {A : Ad} (dd : Def K mg "_law_text" s__law_text ["_law_bounds_here", "_law_bundles_here"]) (B : Blt mg) : Cal P w K mg base CX0 1 "_law_text" ["_law_bounds_here", "_law_bundles_here"] (SpP K 2 (f__law_text A)) :=
 defR (τ := p__law_text A) dd sc__law_text 7 rfl rfl fun f cdv Ar out s H E hr => ⟨_, (pss_cons (ps_set (i := 2) sc__law_text.nd rfl (Or.inl rfl) (kbm K PySem.F.plainAttrs_str PySem.F.slot_str_join PySem.F.type_str_join (kjoin K) pe_str (pa_cons (klc (own := [("_law_floor", 7), ("_law_ceiling", 8)]) (vs := [7, 8]) (g := (gTup K 2 (gCons (gName 7) (gCons (gName 8) gNil)))) (tt := tYes) sc__law_text.nd (kseq K (pv 0)) (blkOk_by (own := [("_law_floor", 7), ("_law_ceiling", 8)]) (N := sc__law_text_N) (sc := defScope s__law_text) (by decide +kernel)) (fun _ _ _ _ _ => (kgtup K (n := 2) (pgs_cons (pg_name (i := 7) sc__law_text.nd rfl (Or.inl rfl)) (pgs_cons (pg_name (i := 8) sc__law_text.nd rfl (Or.inl rfl)) pgs_nil)))) (fun _ _ _ _ _ => pts_nil) (fun _ _ _ _ _ => (pe_op (kplus K) (pe_op (kplus K) (pe_callTy kstrOf (by rfl) B.str (by decide +kernel) (pa_cons (pv 7) pa_nil)) pe_str) (pe_callTy kstrOf (by rfl) B.str (by decide +kernel) (pa_cons (pv 8) pa_nil))))) pa_nil)))
   (pss_cons (kslc (i := 3) (own := [("_law_one", 4), ("_law_other", 5), ("_law_many", 6)]) (vs := [4, 5, 6]) (g := (gTup K 3 (gCons (gName 4) (gCons (gName 5) (gCons (gName 6) gNil))))) (tt := tYes) sc__law_text.nd rfl rfl (sw_true rfl rfl rfl (by decide +kernel)) (kseq K (pv 1)) (blkOk_by (own := [("_law_one", 4), ("_law_other", 5), ("_law_many", 6)]) (N := sc__law_text_N) (sc := defScope s__law_text) (by decide +kernel)) (fun _ _ _ _ _ => (kgtup K (n := 3) (pgs_cons (pg_name (i := 4) sc__law_text.nd rfl (Or.inl rfl)) (pgs_cons (pg_name (i := 5) sc__law_text.nd rfl (Or.inl rfl)) (pgs_cons (pg_name (i := 6) sc__law_text.nd rfl (Or.inl rfl)) pgs_nil))))) (fun _ _ _ _ _ => pts_nil) (fun _ _ _ _ _ => (pe_op (kplus K) (pe_op (kplus K) (pe_op (kplus K) (pe_op (kplus K) (pe_callTy kstrOf (by rfl) B.str (by decide +kernel) (pa_cons (pv 4) pa_nil)) pe_str) (pe_callTy kstrOf (by rfl) B.str (by decide +kernel) (pa_cons (pv 5) pa_nil))) pe_str) (pe_callTy kstrOf (by rfl) B.str (by decide +kernel) (pa_cons (pv 6) pa_nil)))))
   (pss_one (ps_ret (pe_op (kplus K) (pe_op (kplus K) (pv 2) pe_str) (korS K (kbm K PySem.F.plainAttrs_str PySem.F.slot_str_join PySem.F.type_str_join (kjoin K) pe_str (pa_cons (pv 3) pa_nil)) (pe_one pe_str))))))), fun c _ => by unfold p__law_text p__law_text_e1 p__law_text_e0; infer_instance⟩
abbrev s_Cluster___eq__ : Stmt := inClass (top 20) 1
abbrev sc_Cluster___eq___N : List Str := ["self", "other"]
theorem sc_Cluster___eq__ : FnScope sc_Cluster___eq___N ["self", "other"] (defScope s_Cluster___eq__) := ⟨rfl, rfl, rfl, by decide +kernel, rfl, by decide +kernel, by decide +kernel⟩
theorem ok_Cluster___eq__ {A : Ad} (dd : MDef K A.Cluster "__eq__" "Cluster.__eq__" s_Cluster___eq__ ["self", "other"]) (B : Blt mg) (T_Cluster : ClsR K mg A.Cluster "Cluster") (I_Cluster : ClsE K A.Cluster) [FldOk K A.Cluster "limits"] [FldOk K A.Cluster "rows"] : MCal P w K mg base CX0 1 A.Cluster "__eq__" ["self", "other"] (SpP K 2 (f_Clusteru_equ A)) :=
 mdefR (τ := p_Clusteru_equ A) dd sc_Cluster___eq__ 0 rfl rfl fun f cdv Ar out s H E hr => ⟨_, (pss_cons (ps_if (pt_not (pt_val (pe_callB (kisC K I_Cluster.isi) (by rfl) B.isinstance (by decide +kernel) (pa_cons (pv 1) (pa_cons (pe_glob (v := .ref A.Cluster) (by rfl) T_Cluster.mgC rfl) pa_nil)))))
   (pss_one (ps_ret pe_bl))
   pss_nil)
   (pss_one (ps_ret (pe_and (pe_cmpR (keq K hr.units) (kfld K A.Cluster (pv 0)) (kfld K A.Cluster (pv 1)) (nomark _)) (pe_one (pe_cmpR (keq K hr.units) (kfld K A.Cluster (pv 0)) (kfld K A.Cluster (pv 1)) (nomark _))))))), fun c _ => by unfold p_Clusteru_equ; infer_instance⟩
abbrev s_Cluster_bounds : Stmt := inClass (top 20) 4
abbrev sc_Cluster_bounds_N : List Str := ["self"]
theorem sc_Cluster_bounds : FnScope sc_Cluster_bounds_N ["self"] (defScope s_Cluster_bounds) := ⟨rfl, rfl, rfl, by decide +kernel, rfl, by decide +kernel, by decide +kernel⟩
theorem ok_Cluster_bounds {A : Ad} (dd : MDef K A.Cluster "bounds" "Cluster.bounds" s_Cluster_bounds ["self"]) (B : Blt mg) [FldOk K A.Cluster "limits"] : MCal P w K mg base CX0 1 A.Cluster "bounds" ["self"] (SpP K 1 (f_Cluster_bounds A)) :=
 mdefR (τ := p_Cluster_bounds A) dd sc_Cluster_bounds 0 rfl rfl fun f cdv Ar out s H E hr => ⟨_, (pss_one (ps_ret (pe_callTy (klistOf K) (by rfl) B.list (by decide +kernel) (pa_cons (kfld K A.Cluster (pv 0)) pa_nil)))), fun c _ => by unfold p_Cluster_bounds; infer_instance⟩
abbrev s_Cluster_bundles : Stmt := inClass (top 20) 5
abbrev sc_Cluster_bundles_N : List Str := ["self"]
theorem sc_Cluster_bundles : FnScope sc_Cluster_bundles_N ["self"] (defScope s_Cluster_bundles) := ⟨rfl, rfl, rfl, by decide +kernel, rfl, by decide +kernel, by decide +kernel⟩
theorem ok_Cluster_bundles {A : Ad} (dd : MDef K A.Cluster "bundles" "Cluster.bundles" s_Cluster_bundles ["self"]) (B : Blt mg) [FldOk K A.Cluster "rows"] : MCal P w K mg base CX0 1 A.Cluster "bundles" ["self"] (SpP K 1 (f_Cluster_bundles A)) :=
 mdefR (τ := p_Cluster_bundles A) dd sc_Cluster_bundles 0 rfl rfl fun f cdv Ar out s H E hr => ⟨_, (pss_one (ps_ret (pe_callTy (klistOf K) (by rfl) B.list (by decide +kernel) (pa_cons (kfld K A.Cluster (pv 0)) pa_nil)))), fun c _ => by unfold p_Cluster_bundles; infer_instance⟩
abbrev s_show_cluster : Stmt := top 31
abbrev sc_show_cluster_N : List Str := ["cluster", "bounds", "bundles", "floor", "ceiling", "first", "second", "partitions"]
theorem sc_show_cluster : FnScope sc_show_cluster_N ["cluster"] (defScope s_show_cluster) := ⟨rfl, rfl, rfl, by decide +kernel, rfl, by decide +kernel, by decide +kernel⟩
theorem ok_show_cluster {A : Ad} (dd : Def K mg "show_cluster" s_show_cluster ["cluster"]) (B : Blt mg) (T_Cluster : ClsR K mg A.Cluster "Cluster") (c_spaced : Cal P w K mg base CX0 1 "spaced" ["words"] (SpP K 1 (f_spaced A))) (c_Cluster_bounds : MCal P w K mg base CX0 1 A.Cluster "bounds" ["self"] (SpP K 1 (f_Cluster_bounds A))) (c_Cluster_bundles : MCal P w K mg base CX0 1 A.Cluster "bundles" ["self"] (SpP K 1 (f_Cluster_bundles A))) : Cal P w K mg base CX0 2 "show_cluster" ["cluster"] (SpP K 1 (f_show_cluster A)) :=
 defR (τ := p_show_cluster A) dd sc_show_cluster 7 rfl rfl fun f cdv Ar out s H E hr => ⟨_, (pss_cons (ps_set (i := 1) sc_show_cluster.nd rfl (Or.inl rfl) (pe_c (E := fun _ _ _ => False) c_spaced (hr.mono (by decide)) pass0 (pa_cons (klc (own := [("floor", 3), ("ceiling", 4)]) (vs := [3, 4]) (g := (gTup K 2 (gCons (gName 3) (gCons (gName 4) gNil)))) (tt := tYes) sc_show_cluster.nd (kseq K (pe_m0 (E := fun _ _ _ => False) c_Cluster_bounds T_Cluster.cl (hr.mono (by decide)) pass0 (pv 0))) (blkOk_by (own := [("floor", 3), ("ceiling", 4)]) (N := sc_show_cluster_N) (sc := defScope s_show_cluster) (by decide +kernel)) (fun _ _ _ _ _ => (kgtup K (n := 2) (pgs_cons (pg_name (i := 3) sc_show_cluster.nd rfl (Or.inl rfl)) (pgs_cons (pg_name (i := 4) sc_show_cluster.nd rfl (Or.inl rfl)) pgs_nil)))) (fun _ _ _ _ _ => pts_nil) (fun _ _ _ _ _ => (kjoined (.cons (pe_fmt (pv 3)) (.cons pe_str (.cons (pe_fmt (pv 4)) .nil)))))) pa_nil)))
   (pss_cons (ps_set (i := 2) sc_show_cluster.nd rfl (Or.inl rfl) (pe_c (E := fun _ _ _ => False) c_spaced (hr.mono (by decide)) pass0 (pa_cons (klc (own := [("first", 5), ("second", 6), ("partitions", 7)]) (vs := [5, 6, 7]) (g := (gTup K 3 (gCons (gName 5) (gCons (gName 6) (gCons (gName 7) gNil))))) (tt := tYes) sc_show_cluster.nd (kseq K (pe_m0 (E := fun _ _ _ => False) c_Cluster_bundles T_Cluster.cl (hr.mono (by decide)) pass0 (pv 0))) (blkOk_by (own := [("first", 5), ("second", 6), ("partitions", 7)]) (N := sc_show_cluster_N) (sc := defScope s_show_cluster) (by decide +kernel)) (fun _ _ _ _ _ => (kgtup K (n := 3) (pgs_cons (pg_name (i := 5) sc_show_cluster.nd rfl (Or.inl rfl)) (pgs_cons (pg_name (i := 6) sc_show_cluster.nd rfl (Or.inl rfl)) (pgs_cons (pg_name (i := 7) sc_show_cluster.nd rfl (Or.inl rfl)) pgs_nil))))) (fun _ _ _ _ _ => pts_nil) (fun _ _ _ _ _ => (kjoined (.cons (pe_fmt (pv 5)) (.cons pe_str (.cons (pe_fmt (pv 6)) (.cons pe_str (.cons (pe_fmt (pv 7)) .nil)))))))) pa_nil)))
   (pss_one (ps_ret (pe_op (kplus K) (pe_op (kplus K) (pv 1) pe_str) (pv 2)))))), fun c _ => by unfold p_show_cluster p_show_cluster_e1 p_show_cluster_e0; infer_instance⟩
abbrev s_show_set : Stmt := top 34
abbrev sc_show_set_N : List Str := ["members", "broker"]
theorem sc_show_set : FnScope sc_show_set_N ["members"] (defScope s_show_set) := ⟨rfl, rfl, rfl, by decide +kernel, rfl, by decide +kernel, by decide +kernel⟩
theorem ok_show_set {A : Ad} (dd : Def K mg "show_set" s_show_set ["members"]) (B : Blt mg) (c_spaced : Cal P w K mg base CX0 1 "spaced" ["words"] (SpP K 1 (f_spaced A))) : Cal P w K mg base CX0 2 "show_set" ["members"] (SpP K 1 (f_show_set A)) :=
 defR (τ := p_show_set A) dd sc_show_set 1 rfl rfl fun f cdv Ar out s H E hr => ⟨_, (pss_one (ps_ret (pe_c (E := fun _ _ _ => False) c_spaced (hr.mono (by decide)) pass0 (pa_cons (klc (own := [("broker", 1)]) (vs := [1]) (g := (gName 1)) (tt := tYes) sc_show_set.nd (kseq K (pv 0)) (blkOk_by (own := [("broker", 1)]) (N := sc_show_set_N) (sc := defScope s_show_set) (by decide +kernel)) (fun _ _ _ _ _ => (pg_name (i := 1) sc_show_set.nd rfl (Or.inl rfl))) (fun _ _ _ _ _ => pts_nil) (fun _ _ _ _ _ => (pe_callTy kstrOf (by rfl) B.str (by decide +kernel) (pa_cons (pv 1) pa_nil)))) pa_nil)))), fun c _ => by unfold p_show_set p_show_set_e0; infer_instance⟩
abbrev s_show_leads : Stmt := top 32
abbrev sc_show_leads_N : List Str := ["leads", "many"]
theorem sc_show_leads : FnScope sc_show_leads_N ["leads"] (defScope s_show_leads) := ⟨rfl, rfl, rfl, by decide +kernel, rfl, by decide +kernel, by decide +kernel⟩
theorem ok_show_leads {A : Ad} (dd : Def K mg "show_leads" s_show_leads ["leads"]) (B : Blt mg) (c_spaced : Cal P w K mg base CX0 1 "spaced" ["words"] (SpP K 1 (f_spaced A))) : Cal P w K mg base CX0 2 "show_leads" ["leads"] (SpP K 1 (f_show_leads A)) :=
 defR (τ := p_show_leads A) dd sc_show_leads 1 rfl rfl fun f cdv Ar out s H E hr => ⟨_, (pss_one (ps_ret (pe_c (E := fun _ _ _ => False) c_spaced (hr.mono (by decide)) pass0 (pa_cons (klc (own := [("many", 1)]) (vs := [1]) (g := (gName 1)) (tt := tYes) sc_show_leads.nd (kseq K (pv 0)) (blkOk_by (own := [("many", 1)]) (N := sc_show_leads_N) (sc := defScope s_show_leads) (by decide +kernel)) (fun _ _ _ _ _ => (pg_name (i := 1) sc_show_leads.nd rfl (Or.inl rfl))) (fun _ _ _ _ _ => pts_nil) (fun _ _ _ _ _ => (pe_callTy kstrOf (by rfl) B.str (by decide +kernel) (pa_cons (pv 1) pa_nil)))) pa_nil)))), fun c _ => by unfold p_show_leads p_show_leads_e0; infer_instance⟩
abbrev s_read_leads : Stmt := top 39
abbrev sc_read_leads_N : List Str := ["text", "found", "row", "many"]
theorem sc_read_leads : FnScope sc_read_leads_N ["text"] (defScope s_read_leads) := ⟨rfl, rfl, rfl, by decide +kernel, rfl, by decide +kernel, by decide +kernel⟩
theorem ok_read_leads {A : Ad} (dd : Def K mg "read_leads" s_read_leads ["text"]) (B : Blt mg) {t_MOST_BUNDLES : Tok} (m_MOST_BUNDLES : mg "MOST_BUNDLES" = some (.int 45 t_MOST_BUNDLES)) {t_MOST_COUNT : Tok} (m_MOST_COUNT : mg "MOST_COUNT" = some (.int 1000000000000000000 t_MOST_COUNT)) (c_read_words : Cal P w K mg base CX0 3 "read_words" ["text", "marks"] (SpP K 2 (f_read_words A))) : Cal P w K mg base CX0 4 "read_leads" ["text"] (SpP K 1 (f_read_leads A)) :=
 defR (τ := p_read_leads A) dd sc_read_leads 3 rfl rfl fun f cdv Ar out s H E hr => ⟨_, (pss_cons (ps_if (pt_not (pt_val (pe_callB (kisi K) (by rfl) B.isinstance (by decide +kernel) (pa_cons (pv 0) (pa_cons (pe_ty (n := "str") B.str (by decide +kernel)) pa_nil)))))
   (pss_one (ps_never))
   pss_nil)
   (pss_cons (ps_set (i := 1) sc_read_leads.nd rfl (Or.inl rfl) (pe_callTy (ktupOf K) (by rfl) B.tuple (by decide +kernel) (pa_cons (klc (own := [("row", 2)]) (vs := [2]) (g := (gName 2)) (tt := tYes) sc_read_leads.nd (kseq K (pe_c (E := fun _ _ _ => False) c_read_words (hr.mono (by decide)) pass0 (pa_cons (pv 0) (pa_cons pe_str pa_nil)))) (blkOk_by (own := [("row", 2)]) (N := sc_read_leads_N) (sc := defScope s_read_leads) (by decide +kernel)) (fun _ _ _ _ _ => (pg_name (i := 2) sc_read_leads.nd rfl (Or.inl rfl))) (fun _ _ _ _ _ => pts_nil) (fun _ _ _ _ _ => (pe_ix (kix K) (pv 2) pe_int (fun _ _ => rfl)))) pa_nil)))
   (pss_cons (ps_if (PW.pt (pw_or (pt_cmpR op_gt (pe_callB (klen' K) (by rfl) B.len (by decide +kernel) (pa_cons (pv 1) pa_nil)) (pe_gi m_MOST_BUNDLES) (nomark _)) (pw_or1 (pt_val (pe_callB (kany K) (by rfl) B.any (by decide +kernel) (pa_cons (klc (own := [("many", 3)]) (vs := [3]) (g := (gName 3)) (tt := tYes) sc_read_leads.nd (kseq K (pv 1)) (blkOk_by (own := [("many", 3)]) (N := sc_read_leads_N) (sc := defScope s_read_leads) (by decide +kernel)) (fun _ _ _ _ _ => (pg_name (i := 3) sc_read_leads.nd rfl (Or.inl rfl))) (fun _ _ _ _ _ => pts_nil) (fun _ _ _ _ _ => (pe_cmpR op_gt (pv 3) (pe_gi m_MOST_COUNT) (nomark _)))) pa_nil))))))
   (pss_one (ps_never))
   pss_nil)
   (pss_one (ps_ret (pv 1)))))), fun c _ => by unfold p_read_leads p_read_leads_e1 p_read_leads_e0; infer_instance⟩
abbrev s_law : Stmt := top 57
abbrev sc_law_N : List Str := ["_law_script", "_law_bag_here", "_law_k", "_law_bounds_here", "_law_bundles_here", "_law_leads", "_law_at", "_law_some", "_law_cluster", "_law_text_here", "_law_found", "_law_drawn", "_law_members", "_law_handed", "_law_broker", "_law_row"]
theorem sc_law : FnScope sc_law_N ["_law_script"] (defScope s_law) := ⟨rfl, rfl, rfl, by decide +kernel, rfl, by decide +kernel, by decide +kernel⟩
theorem ok_law {A : Ad} (dd : Def K mg "law" s_law ["_law_script"]) (B : Blt mg) (T_Cluster : ClsR K mg A.Cluster "Cluster") (I_Cluster : ClsE K A.Cluster) (c__law_bag : Cal P w K mg base CX0 1 "_law_bag" ["_law_script"] (sp_bag K)) (c__law_net : Cal P w K mg base CX0 4 "_law_net" ["_law_bag_here", "_law_most", "_law_great"] (SpP K 3 (f__law_net_1 A))) (c__law_take : Cal P w K mg base CX0 1 "_law_take" ["_law_bag_here", "_law_many"] (SpP K 2 f_take)) (c_read_cluster : Cal P w K mg base CX0 8 "read_cluster" ["text"] (SpP K 1 (f_read_cluster A))) (c__law_leads_text : Cal P w K mg base CX0 1 "_law_leads_text" ["_law_leads"] (SpP K 1 (f__law_leads_text A))) (c__law_plans_right : CalG P w K mg base CX0 8 "_law_plans_right" ["_law_bag_here", "_law_bundles_here"] (SpP K 2 (f__law_plans_right A))) (c_Cluster___init__ : MCal P w K mg base CX0 6 A.Cluster "__init__" ["self", "bounds", "bundles"] (SpI K A.Cluster 2 (f_Clusteru_initu A))) (c__law_text : Cal P w K mg base CX0 1 "_law_text" ["_law_bounds_here", "_law_bundles_here"] (SpP K 2 (f__law_text A))) (c_Cluster___eq__ : MCal P w K mg base CX0 1 A.Cluster "__eq__" ["self", "other"] (SpP K 2 (f_Clusteru_equ A))) (c__law_alike : CalG P w K mg base CX0 1 "_law_alike" ["_law_found", "_law_due"] (SpP K 2 (f__law_alike A))) (c_show_cluster : Cal P w K mg base CX0 2 "show_cluster" ["cluster"] (SpP K 1 (f_show_cluster A))) (c_Cluster_bounds : MCal P w K mg base CX0 1 A.Cluster "bounds" ["self"] (SpP K 1 (f_Cluster_bounds A))) (c_show_set : Cal P w K mg base CX0 2 "show_set" ["members"] (SpP K 1 (f_show_set A))) (c_show_leads : Cal P w K mg base CX0 2 "show_leads" ["leads"] (SpP K 1 (f_show_leads A))) (c_read_leads : Cal P w K mg base CX0 4 "read_leads" ["text"] (SpP K 1 (f_read_leads A))) (hq : runL (p_law_k92 A) 16 1) : CalG P w K mg base CX0 9 "law" ["_law_script"] (sp_law K) :=
 lawR dd sc_law rfl (by decide) hq fun f cdv Ar out s H E hgu hr => ⟨_, (pss_cons (ps_set (i := 1) sc_law.nd rfl (Or.inr rfl) (pe_c (E := fun _ _ _ => False) c__law_bag (hr.mono (by decide)) pass0 (pa_cons (pv 0) pa_nil)))
   (pss_cons (ps_for PassesOwn.never rfl (pi_range1 rfl B.range (pa_cons pe_int pa_nil)) (pg_name (i := 2) sc_law.nd rfl (Or.inl rfl))
   (pss_cons (ps_asg (pe_c (E := fun _ _ _ => False) c__law_net (hr.mono (by decide)) pass0 (pa_cons (pv 1) (pa_cons pe_int (pa_cons pe_bl pa_nil)))) (kgtup K (n := 3) (pgs_cons (pg_name (i := 3) sc_law.nd rfl (Or.inl rfl)) (pgs_cons (pg_name (i := 4) sc_law.nd rfl (Or.inl rfl)) (pgs_cons (pg_name (i := 5) sc_law.nd rfl (Or.inl rfl)) pgs_nil)))))
   (pss_cons (ps_set (i := 6) sc_law.nd rfl (Or.inl rfl) (pe_c (E := fun _ _ _ => False) c__law_take (hr.mono (by decide)) pass0 (pa_cons (pv 1) (pa_cons (pe_callB (klen' K) (by rfl) B.len (by decide +kernel) (pa_cons (pv 3) pa_nil)) pa_nil))))
   (pss_cons (ps_asg (pe_ix (kix K) (pe_lst (pa_cons (pe_ix (kix K) (pv 3) (pv 6) (fun _ _ => rfl)) (pa_cons (pe_tup (pa_cons pe_int (pa_cons (pe_op op_pow pe_int pe_int) pa_nil))) (pa_cons (pe_tup (pa_cons (pe_op op_pow pe_int pe_int) (pa_cons (pe_op op_pow pe_int pe_int) pa_nil))) pa_nil)))) (pe_c (E := fun _ _ _ => False) c__law_take (hr.mono (by decide)) pass0 (pa_cons (pv 1) (pa_cons pe_int pa_nil))) (fun _ _ => rfl)) (pg_sub (pv 3) (pv 6) set_list))
   (pss_cons (ps_for PassesOwn.never rfl (kseq K (pe_lst (pa_cons (pv 4) (pa_cons (pe_lst pa_nil) (pa_cons (pe_slice (kslice K) (pv 4) po_none (po_some pe_int)) pa_nil))))) (pg_name (i := 7) sc_law.nd rfl (Or.inl rfl))
   (pss_cons (ps_par (i := 8) (j := 9) (by rfl) sc_law.nd rfl rfl (by decide) rfl rfl (pa_cons (pe_mk (E := fun _ _ _ => False) c_Cluster___init__ T_Cluster.mks T_Cluster.kc T_Cluster.mgC (hr.mono (by decide)) pass0 (pa_cons (pv 3) (pa_cons (pv 7) pa_nil))) (pa_cons (pe_c (E := fun _ _ _ => False) c__law_text (hr.mono (by decide)) pass0 (pa_cons (pv 3) (pa_cons (pv 7) pa_nil))) pa_nil)) (by rfl))
   (pss_cons (ps_set (i := 10) sc_law.nd rfl (Or.inl rfl) (pe_c (E := fun _ _ _ => False) c_read_cluster (hr.mono (by decide)) pass0 (pa_cons (pv 9) pa_nil)))
   (pss_cons (ps_if (PW.pt (pw_or (pt_not (pt_val (pe_cGV (E := fun _ _ _ => False) c__law_alike hgu (hr.mono (by decide)) pass0 (pa_cons (pe_c (E := fun _ _ _ => False) c_show_cluster (hr.mono (by decide)) pass0 (pa_cons (pv 8) pa_nil)) (pa_cons (pv 9) pa_nil))))) (pw_or (pt_not (pt_val (pe_callB (kisC K I_Cluster.isi) (by rfl) B.isinstance (by decide +kernel) (pa_cons (pv 10) (pa_cons (pe_glob (v := .ref A.Cluster) (by rfl) T_Cluster.mgC rfl) pa_nil))))) (pw_or1 (pt_cmpR (kneO (E := fun _ _ _ => False) c_Cluster___eq__ I_Cluster.isi.ins.hm I_Cluster.ne (hr.mono (by decide)) pass0) (pv 10) (pv 8) (nomark _))))))
   (pss_one (ps_ret pe_bl))
   pss_nil)
   (pss_one (ps_if (PW.pt (pw_or (pt_cmpR (kne K hr.units) (pe_c (E := fun _ _ _ => False) c_show_cluster (hr.mono (by decide)) pass0 (pa_cons (pv 10) pa_nil)) (pv 9) (nomark _)) (pw_or1 (pt_cmpR (kne K hr.units) (pe_m0 (E := fun _ _ _ => False) c_Cluster_bounds T_Cluster.cl (hr.mono (by decide)) pass0 (pv 10)) (pv 3) (nomark _)))))
   (pss_one (ps_ret pe_bl))
   pss_nil))))))
   (pss_cons (ps_set (i := 11) sc_law.nd rfl (Or.inl rfl) (pe_callTy (ktupOf K) (by rfl) B.tuple (by decide +kernel) (pa_cons (klc (own := [("_law_row", 15)]) (vs := [15]) (g := (gName 15)) (tt := tYes) sc_law.nd (kseq K (pv 4)) (blkOk_by (own := [("_law_row", 15)]) (N := sc_law_N) (sc := defScope s_law) (by decide +kernel)) (fun _ _ _ _ _ => (pg_name (i := 15) sc_law.nd rfl (Or.inl rfl))) (fun _ _ _ _ _ => pts_nil) (fun _ _ _ _ _ => (pe_c (E := fun _ _ _ => False) c__law_take (hr.mono (by decide)) pass0 (pa_cons (pv 1) (pa_cons (pe_op (kplus K) (pe_ix (kix K) (pv 15) pe_int (fun _ _ => rfl)) pe_int) pa_nil))))) pa_nil)))
   (pss_cons (ps_for PassesOwn.never rfl (kseq K (pe_lst (pa_cons (pv 5) (pa_cons (pv 11) (pa_cons (pe_tup pa_nil) pa_nil))))) (pg_name (i := 7) sc_law.nd rfl (Or.inl rfl))
   (pss_cons (ps_set (i := 9) sc_law.nd rfl (Or.inl rfl) (pe_c (E := fun _ _ _ => False) c__law_leads_text (hr.mono (by decide)) pass0 (pa_cons (pv 7) pa_nil)))
   (pss_one (ps_if (pt_not (pt_val (pe_cGV (E := fun _ _ _ => False) c__law_alike hgu (hr.mono (by decide)) pass0 (pa_cons (pe_lst (pa_cons (pe_c (E := fun _ _ _ => False) c_show_leads (hr.mono (by decide)) pass0 (pa_cons (pv 7) pa_nil)) (pa_cons (pe_c (E := fun _ _ _ => False) c_read_leads (hr.mono (by decide)) pass0 (pa_cons (pv 9) pa_nil)) pa_nil))) (pa_cons (pe_lst (pa_cons (pv 9) (pa_cons (pv 7) pa_nil))) pa_nil)))))
   (pss_one (ps_ret pe_bl))
   pss_nil))))
   (pss_cons (kslc (i := 12) (own := [("_law_broker", 14)]) (vs := [14]) (g := (gName 14)) sc_law.nd rfl rfl (sw_true rfl rfl rfl (by decide +kernel)) (pi_range1 rfl B.range (pa_cons (pe_callB (klen' K) (by rfl) B.len (by decide +kernel) (pa_cons (pv 3) pa_nil)) pa_nil)) (blkOk_by (own := [("_law_broker", 14)]) (N := sc_law_N) (sc := defScope s_law) (by decide +kernel)) (fun _ _ _ _ _ => (pg_name (i := 14) sc_law.nd rfl (Or.inl rfl))) (fun _ _ _ _ _ => (pts_one (pt_cmpR (keq K hr.units) (pe_c (E := fun _ _ _ => False) c__law_take (hr.mono (by decide)) pass0 (pa_cons (pv 1) (pa_cons pe_int pa_nil))) pe_int (nomark _)))) (fun _ _ _ _ _ => (pv 14)))
   (pss_cons (ps_set (i := 13) sc_law.nd rfl (Or.inl rfl) (pe_callTy (klistOf K) (by rfl) B.list (by decide +kernel) (pa_cons (pv 12) pa_nil)))
   (pss_cons (ps_if (PW.pt (pw_or (pt_not (pt_val (pe_cGV (E := fun _ _ _ => False) c__law_alike hgu (hr.mono (by decide)) pass0 (pa_cons (pe_c (E := fun _ _ _ => False) c_show_set (hr.mono (by decide)) pass0 (pa_cons (pv 13) pa_nil)) (pa_cons (pe_c (E := fun _ _ _ => False) c__law_leads_text (hr.mono (by decide)) pass0 (pa_cons (pv 12) pa_nil)) pa_nil))))) (pw_or1 (pt_cmpR (kne K hr.units) (pv 13) (pv 12) (nomark _)))))
   (pss_one (ps_ret pe_bl))
   pss_nil)
   (pss_one (ps_if (pt_not (pt_val (pe_cG (E := fun _ _ _ => False) c__law_plans_right hgu (hr.mono (by decide)) pass0 (pa_cons (pv 1) (pa_cons (pv 4) pa_nil)))))
   (pss_one (ps_ret pe_bl))
   pss_nil))))))))))))
   (pss_one (ps_ret pe_bl)))), fun c _ => by unfold p_law_k92 p_law_k92_b2 p_law_k92_g2 p_law_k92_c4 p_law_k92_c3 p_law_k92_c2 p_law_k92_c1 p_law_k92_c0 p_law_k92_t0 p_law_k92_e1 p_law_k92_b1 p_law_k92_g1 p_law_k92_e0 p_law_k92_b0 p_law_k92_g0; infer_instance⟩
end
theorem all_mk {l : PySem.W.OpenLaw} {w : World} {K : PySem.W.Frag} {mg : Str → Option Value} {fa : Addr} {C_Cluster : Addr} {t_MOST_BROKERS : Tok} {t_MOST_BUNDLES : Tok} {t_MOST_AMOUNT : Tok} {t_MOST_COUNT : Tok} {t_MOST_BLOCKS : Tok} {t_MOST_RUNS : Tok} {t_MOST_IN_BLOCK : Tok} {t_MOST_DIGITS : Tok} (hfa : mg "law" = some (.ref fa))
  (T_Cluster : ClsR K mg C_Cluster "Cluster")
  (F_Cluster_limits : FldOk K C_Cluster "limits")
  (F_Cluster_rows : FldOk K C_Cluster "rows")
  (F_Cluster_numbers : FldOk K C_Cluster "numbers")
  (I_Cluster : ClsE K C_Cluster)
  (D__law_bag : Def K mg "_law_bag" s__law_bag ["_law_script"])
  (D__law_take : Def K mg "_law_take" s__law_take ["_law_bag_here", "_law_many"])
  (D__law_amount : Def K mg "_law_amount" s__law_amount ["_law_bag_here", "_law_great"])
  (D__law_bundles : Def K mg "_law_bundles" s__law_bundles ["_law_bag_here", "_law_size", "_law_great"])
  (D__law_bounds : Def K mg "_law_bounds" s__law_bounds ["_law_bag_here", "_law_held"])
  (D__law_loads : Def K mg "_law_loads" s__law_loads ["_law_size", "_law_bundles_here", "_law_leads"])
  (D__law_net : Def K mg "_law_net" s__law_net ["_law_bag_here", "_law_most", "_law_great"])
  (D_is_integer : Def K mg "is_integer" s_is_integer ["thing"])
  (D_is_between : Def K mg "is_between" s_is_between ["thing", "least", "most"])
  (D_is_amount : Def K mg "is_amount" s_is_amount ["thing"])
  (D_is_bound : Def K mg "is_bound" s_is_bound ["thing"])
  (D_are_bounds : Def K mg "are_bounds" s_are_bounds ["thing"])
  (D_is_broker : Def K mg "is_broker" s_is_broker ["thing", "size"])
  (D_is_count : Def K mg "is_count" s_is_count ["thing"])
  (D_is_bundle : Def K mg "is_bundle" s_is_bundle ["thing", "size"])
  (D_are_bundles : Def K mg "are_bundles" s_are_bundles ["thing", "size"])
  (D_Cluster___init__ : MDef K C_Cluster "__init__" "Cluster.__init__" s_Cluster___init__ ["self", "bounds", "bundles"])
  (D_read_integer : Def K mg "read_integer" s_read_integer ["word"])
  (D_read_integers : Def K mg "read_integers" s_read_integers ["word", "marks"])
  (D_read_words : Def K mg "read_words" s_read_words ["text", "marks"])
  (D_read_cluster : Def K mg "read_cluster" s_read_cluster ["text"])
  (D__law_leads_text : Def K mg "_law_leads_text" s__law_leads_text ["_law_leads"])
  (D__law_any_plan : Def K mg "_law_any_plan" s__law_any_plan ["_law_bag_here"])
  (D_is_run : Def K mg "is_run" s_is_run ["thing", "size"])
  (D_is_block : Def K mg "is_block" s_is_block ["thing", "size"])
  (D_are_blocks : Def K mg "are_blocks" s_are_blocks ["thing", "size"])
  (D_read_block : Def K mg "read_block" s_read_block ["group"])
  (D_read_plan : Def K mg "read_plan" s_read_plan ["text"])
  (D__law_plan_text : Def K mg "_law_plan_text" s__law_plan_text ["_law_plan"])
  (D__law_alike : Def K mg "_law_alike" s__law_alike ["_law_found", "_law_due"])
  (D__law_run : Def K mg "_law_run" s__law_run ["_law_bag_here", "_law_bundles_here", "_law_great"])
  (D_spaced : Def K mg "spaced" s_spaced ["words"])
  (D_show_plan : Def K mg "show_plan" s_show_plan ["plan"])
  (D__law_plans_right : Def K mg "_law_plans_right" s__law_plans_right ["_law_bag_here", "_law_bundles_here"])
  (D__law_text : Def K mg "_law_text" s__law_text ["_law_bounds_here", "_law_bundles_here"])
  (D_Cluster___eq__ : MDef K C_Cluster "__eq__" "Cluster.__eq__" s_Cluster___eq__ ["self", "other"])
  (D_Cluster_bounds : MDef K C_Cluster "bounds" "Cluster.bounds" s_Cluster_bounds ["self"])
  (D_Cluster_bundles : MDef K C_Cluster "bundles" "Cluster.bundles" s_Cluster_bundles ["self"])
  (D_show_cluster : Def K mg "show_cluster" s_show_cluster ["cluster"])
  (D_show_set : Def K mg "show_set" s_show_set ["members"])
  (D_show_leads : Def K mg "show_leads" s_show_leads ["leads"])
  (D_read_leads : Def K mg "read_leads" s_read_leads ["text"])
  (D_law : Def K mg "law" s_law ["_law_script"])
  (m_MOST_BROKERS : mg "MOST_BROKERS" = some (.int 10 t_MOST_BROKERS))
  (m_MOST_BUNDLES : mg "MOST_BUNDLES" = some (.int 45 t_MOST_BUNDLES))
  (m_MOST_AMOUNT : mg "MOST_AMOUNT" = some (.int 1000000000000000000000000000000 t_MOST_AMOUNT))
  (m_MOST_COUNT : mg "MOST_COUNT" = some (.int 1000000000000000000 t_MOST_COUNT))
  (m_MOST_BLOCKS : mg "MOST_BLOCKS" = some (.int 400 t_MOST_BLOCKS))
  (m_MOST_RUNS : mg "MOST_RUNS" = some (.int 4000 t_MOST_RUNS))
  (m_MOST_IN_BLOCK : mg "MOST_IN_BLOCK" = some (.int 1000 t_MOST_IN_BLOCK))
  (m_MOST_DIGITS : mg "MOST_DIGITS" = some (.int 40 t_MOST_DIGITS))
  (B : Blt mg) :
  ∃ fd : FuncData, (∀ (s : Shared) (v : Value), BindsTo s fd ⟨[v], []⟩ [("_law_script", v)]) ∧ ∀ base : Heap, K.In base → base.Ns mainGlobals mg → FnG l.prog w K mg base CX0 9 fa fd ["_law_script"] (sp_law K) := by
 refine law_end D_law hfa (fun _ _ _ _ _ _ _ => rfl) (fun base _ _ => ?_)
 have c__law_bag := ok__law_bag (P := l.prog) (w := w) (base := base) D__law_bag B
 have c__law_take := R.Cal.imp (ok__law_take (P := l.prog) (w := w) (base := base) D__law_take B) (fun _ _ _ _ z => sp_take_of (K := K) z)
 have c__law_amount := ok__law_amount (P := l.prog) (w := w) (base := base) (A := ⟨C_Cluster, 0, 0, 0, 0, 0, 0, 0, 0, 0, 0, 0, 0, 0, 0, 0, 0, 0, 0⟩) D__law_amount B c__law_take
 have c__law_bundles := ok__law_bundles (P := l.prog) (w := w) (base := base) (A := ⟨C_Cluster, 0, 0, 0, 0, 0, 0, 0, 0, 0, 0, 0, 0, 0, 0, 0, 0, 0, 0⟩) D__law_bundles B c__law_take c__law_amount
 have c__law_bounds := ok__law_bounds (P := l.prog) (w := w) (base := base) (A := ⟨C_Cluster, 0, 0, 0, 0, 0, 0, 0, 0, 0, 0, 0, 0, 0, 0, 0, 0, 0, 0⟩) D__law_bounds B c__law_take
 have c__law_loads := ok__law_loads (P := l.prog) (w := w) (base := base) (A := ⟨C_Cluster, 0, 0, 0, 0, 0, 0, 0, 0, 0, 0, 0, 0, 0, 0, 0, 0, 0, 0⟩) D__law_loads B
 have c__law_net := ok__law_net (P := l.prog) (w := w) (base := base) (A := ⟨C_Cluster, 0, 0, 0, 0, 0, 0, 0, 0, 0, 0, 0, 0, 0, 0, 0, 0, 0, 0⟩) D__law_net B c__law_bundles c__law_take c__law_bounds c__law_loads
 have c_is_integer := ok_is_integer (P := l.prog) (w := w) (base := base) (A := ⟨C_Cluster, 0, 0, 0, 0, 0, 0, 0, 0, 0, 0, 0, 0, 0, 0, 0, 0, 0, 0⟩) D_is_integer B
 have c_is_between := ok_is_between (P := l.prog) (w := w) (base := base) (A := ⟨C_Cluster, 0, 0, 0, 0, 0, 0, 0, 0, 0, 0, 0, 0, 0, 0, 0, 0, 0, 0⟩) D_is_between B c_is_integer
 have c_is_amount := ok_is_amount (P := l.prog) (w := w) (base := base) (A := ⟨C_Cluster, 0, 0, 0, 0, 0, 0, 0, 0, 0, 0, 0, 0, 0, 0, 0, 0, 0, 0⟩) D_is_amount B m_MOST_AMOUNT c_is_between
 have c_is_bound := ok_is_bound (P := l.prog) (w := w) (base := base) (A := ⟨C_Cluster, 0, 0, 0, 0, 0, 0, 0, 0, 0, 0, 0, 0, 0, 0, 0, 0, 0, 0⟩) D_is_bound B c_is_amount
 have c_are_bounds := ok_are_bounds (P := l.prog) (w := w) (base := base) (A := ⟨C_Cluster, 0, 0, 0, 0, 0, 0, 0, 0, 0, 0, 0, 0, 0, 0, 0, 0, 0, 0⟩) D_are_bounds B m_MOST_BROKERS c_is_bound
 have c_is_broker := ok_is_broker (P := l.prog) (w := w) (base := base) (A := ⟨C_Cluster, 0, 0, 0, 0, 0, 0, 0, 0, 0, 0, 0, 0, 0, 0, 0, 0, 0, 0⟩) D_is_broker B c_is_between
 have c_is_count := ok_is_count (P := l.prog) (w := w) (base := base) (A := ⟨C_Cluster, 0, 0, 0, 0, 0, 0, 0, 0, 0, 0, 0, 0, 0, 0, 0, 0, 0, 0⟩) D_is_count B m_MOST_COUNT c_is_between
 have c_is_bundle := ok_is_bundle (P := l.prog) (w := w) (base := base) (A := ⟨C_Cluster, 0, 0, 0, 0, 0, 0, 0, 0, 0, 0, 0, 0, 0, 0, 0, 0, 0, 0⟩) D_is_bundle B c_is_broker c_is_count
 have c_are_bundles := ok_are_bundles (P := l.prog) (w := w) (base := base) (A := ⟨C_Cluster, 0, 0, 0, 0, 0, 0, 0, 0, 0, 0, 0, 0, 0, 0, 0, 0, 0, 0⟩) D_are_bundles B m_MOST_BUNDLES c_is_bundle
 have c_Cluster___init__ := ok_Cluster___init__ (P := l.prog) (w := w) (base := base) (A := ⟨C_Cluster, 0, 0, 0, 0, 0, 0, 0, 0, 0, 0, 0, 0, 0, 0, 0, 0, 0, 0⟩) D_Cluster___init__ B c_are_bounds c_are_bundles
 have c_read_integer := ok_read_integer (P := l.prog) (w := w) (base := base) (A := ⟨C_Cluster, 0, 0, 0, 0, 0, 0, 0, 0, 0, 0, 0, 0, 0, 0, 0, 0, 0, 0⟩) D_read_integer B m_MOST_DIGITS
 have c_read_integers := ok_read_integers (P := l.prog) (w := w) (base := base) (A := ⟨C_Cluster, 0, 0, 0, 0, 0, 0, 0, 0, 0, 0, 0, 0, 0, 0, 0, 0, 0, 0⟩) D_read_integers B c_read_integer
 have c_read_words := ok_read_words (P := l.prog) (w := w) (base := base) (A := ⟨C_Cluster, 0, 0, 0, 0, 0, 0, 0, 0, 0, 0, 0, 0, 0, 0, 0, 0, 0, 0⟩) D_read_words B c_read_integers
 have c_read_cluster := ok_read_cluster (P := l.prog) (w := w) (base := base) (A := ⟨C_Cluster, 0, 0, 0, 0, 0, 0, 0, 0, 0, 0, 0, 0, 0, 0, 0, 0, 0, 0⟩) D_read_cluster B T_Cluster c_Cluster___init__ c_read_words c_are_bounds c_are_bundles
 have c__law_leads_text := ok__law_leads_text (P := l.prog) (w := w) (base := base) (A := ⟨C_Cluster, 0, 0, 0, 0, 0, 0, 0, 0, 0, 0, 0, 0, 0, 0, 0, 0, 0, 0⟩) D__law_leads_text B
 have c__law_any_plan := ok__law_any_plan (P := l.prog) (w := w) (base := base) (A := ⟨C_Cluster, 0, 0, 0, 0, 0, 0, 0, 0, 0, 0, 0, 0, 0, 0, 0, 0, 0, 0⟩) D__law_any_plan B c__law_take
 have c_is_run := ok_is_run (P := l.prog) (w := w) (base := base) (A := ⟨C_Cluster, 0, 0, 0, 0, 0, 0, 0, 0, 0, 0, 0, 0, 0, 0, 0, 0, 0, 0⟩) D_is_run B c_is_broker c_is_count
 have c_is_block := ok_is_block (P := l.prog) (w := w) (base := base) (A := ⟨C_Cluster, 0, 0, 0, 0, 0, 0, 0, 0, 0, 0, 0, 0, 0, 0, 0, 0, 0, 0⟩) D_is_block B m_MOST_IN_BLOCK c_is_count c_is_run
 have c_are_blocks := ok_are_blocks (P := l.prog) (w := w) (base := base) (A := ⟨C_Cluster, 0, 0, 0, 0, 0, 0, 0, 0, 0, 0, 0, 0, 0, 0, 0, 0, 0, 0⟩) D_are_blocks B m_MOST_BLOCKS m_MOST_RUNS c_is_block
 have c_read_block := ok_read_block (P := l.prog) (w := w) (base := base) (A := ⟨C_Cluster, 0, 0, 0, 0, 0, 0, 0, 0, 0, 0, 0, 0, 0, 0, 0, 0, 0, 0⟩) D_read_block B c_read_integer c_read_integers
 have c_read_plan := ok_read_plan (P := l.prog) (w := w) (base := base) (A := ⟨C_Cluster, 0, 0, 0, 0, 0, 0, 0, 0, 0, 0, 0, 0, 0, 0, 0, 0, 0, 0⟩) D_read_plan B m_MOST_BROKERS c_are_blocks c_read_block
 have c__law_plan_text := ok__law_plan_text (P := l.prog) (w := w) (base := base) (A := ⟨C_Cluster, 0, 0, 0, 0, 0, 0, 0, 0, 0, 0, 0, 0, 0, 0, 0, 0, 0, 0⟩) D__law_plan_text B
 have c__law_alike := ok__law_alike (P := l.prog) (w := w) (base := base) (A := ⟨C_Cluster, 0, 0, 0, 0, 0, 0, 0, 0, 0, 0, 0, 0, 0, 0, 0, 0, 0, 0⟩) D__law_alike B
 have c__law_run := ok__law_run (P := l.prog) (w := w) (base := base) (A := ⟨C_Cluster, 0, 0, 0, 0, 0, 0, 0, 0, 0, 0, 0, 0, 0, 0, 0, 0, 0, 0⟩) D__law_run B c__law_take
 have c_spaced := ok_spaced (P := l.prog) (w := w) (base := base) (A := ⟨C_Cluster, 0, 0, 0, 0, 0, 0, 0, 0, 0, 0, 0, 0, 0, 0, 0, 0, 0, 0⟩) D_spaced B
 have c_show_plan := ok_show_plan (P := l.prog) (w := w) (base := base) (A := ⟨C_Cluster, 0, 0, 0, 0, 0, 0, 0, 0, 0, 0, 0, 0, 0, 0, 0, 0, 0, 0⟩) D_show_plan B c_spaced
 have c__law_plans_right := ok__law_plans_right (P := l.prog) (w := w) (base := base) (A := ⟨C_Cluster, 0, 0, 0, 0, 0, 0, 0, 0, 0, 0, 0, 0, 0, 0, 0, 0, 0, 0⟩) D__law_plans_right B c__law_any_plan c__law_take c_read_plan c__law_plan_text c__law_alike c__law_run c_show_plan
 have c__law_text := ok__law_text (P := l.prog) (w := w) (base := base) (A := ⟨C_Cluster, 0, 0, 0, 0, 0, 0, 0, 0, 0, 0, 0, 0, 0, 0, 0, 0, 0, 0⟩) D__law_text B
 have c_Cluster___eq__ := ok_Cluster___eq__ (P := l.prog) (w := w) (base := base) (A := ⟨C_Cluster, 0, 0, 0, 0, 0, 0, 0, 0, 0, 0, 0, 0, 0, 0, 0, 0, 0, 0⟩) D_Cluster___eq__ B T_Cluster I_Cluster
 have c_Cluster_bounds := ok_Cluster_bounds (P := l.prog) (w := w) (base := base) (A := ⟨C_Cluster, 0, 0, 0, 0, 0, 0, 0, 0, 0, 0, 0, 0, 0, 0, 0, 0, 0, 0⟩) D_Cluster_bounds B
 have c_Cluster_bundles := ok_Cluster_bundles (P := l.prog) (w := w) (base := base) (A := ⟨C_Cluster, 0, 0, 0, 0, 0, 0, 0, 0, 0, 0, 0, 0, 0, 0, 0, 0, 0, 0⟩) D_Cluster_bundles B
 have c_show_cluster := ok_show_cluster (P := l.prog) (w := w) (base := base) (A := ⟨C_Cluster, 0, 0, 0, 0, 0, 0, 0, 0, 0, 0, 0, 0, 0, 0, 0, 0, 0, 0⟩) D_show_cluster B T_Cluster c_spaced c_Cluster_bounds c_Cluster_bundles
 have c_show_set := ok_show_set (P := l.prog) (w := w) (base := base) (A := ⟨C_Cluster, 0, 0, 0, 0, 0, 0, 0, 0, 0, 0, 0, 0, 0, 0, 0, 0, 0, 0⟩) D_show_set B c_spaced
 have c_show_leads := ok_show_leads (P := l.prog) (w := w) (base := base) (A := ⟨C_Cluster, 0, 0, 0, 0, 0, 0, 0, 0, 0, 0, 0, 0, 0, 0, 0, 0, 0, 0⟩) D_show_leads B c_spaced
 have c_read_leads := ok_read_leads (P := l.prog) (w := w) (base := base) (A := ⟨C_Cluster, 0, 0, 0, 0, 0, 0, 0, 0, 0, 0, 0, 0, 0, 0, 0, 0, 0, 0⟩) D_read_leads B m_MOST_BUNDLES m_MOST_COUNT c_read_words
 exact ok_law (A := ⟨C_Cluster, 0, 0, 0, 0, 0, 0, 0, 0, 0, 0, 0, 0, 0, 0, 0, 0, 0, 0⟩) D_law B T_Cluster I_Cluster c__law_bag c__law_net c__law_take c_read_cluster c__law_leads_text c__law_plans_right c_Cluster___init__ c__law_text c_Cluster___eq__ c__law_alike c_show_cluster c_Cluster_bounds c_show_set c_show_leads c_read_leads (k92_law _)
theorem facts {l : PySem.W.OpenLaw} {w : World} {K : PySem.W.Frag} {h : Heap} {mg : Str → Option Value} {fa : Addr} (X : K.In h) (G : h.Ns mainGlobals mg) (hfa : mg "law" = some (.ref fa)) (c : SaysZ faL fnL exL K) :
  ∃ fd : FuncData, (∀ (s : Shared) (v : Value), BindsTo s fd ⟨[v], []⟩ [("_law_script", v)]) ∧ ∀ base : Heap, K.In base → base.Ns mainGlobals mg → FnG l.prog w K mg base CX0 9 fa fd ["_law_script"] (sp_law K) := by
 obtain ⟨t_MOST_BROKERS, m_MOST_BROKERS⟩ := He.int_ok X G (c.d.fact 48 (f := .int "MOST_BROKERS" 10) rfl)
 obtain ⟨t_MOST_BUNDLES, m_MOST_BUNDLES⟩ := He.int_ok X G (c.d.fact 49 (f := .int "MOST_BUNDLES" 45) rfl)
 obtain ⟨t_MOST_AMOUNT, m_MOST_AMOUNT⟩ := He.int_ok X G (c.d.fact 50 (f := .int "MOST_AMOUNT" 1000000000000000000000000000000) rfl)
 obtain ⟨t_MOST_COUNT, m_MOST_COUNT⟩ := He.int_ok X G (c.d.fact 51 (f := .int "MOST_COUNT" 1000000000000000000) rfl)
 obtain ⟨t_MOST_BLOCKS, m_MOST_BLOCKS⟩ := He.int_ok X G (c.d.fact 52 (f := .int "MOST_BLOCKS" 400) rfl)
 obtain ⟨t_MOST_RUNS, m_MOST_RUNS⟩ := He.int_ok X G (c.d.fact 53 (f := .int "MOST_RUNS" 4000) rfl)
 obtain ⟨t_MOST_IN_BLOCK, m_MOST_IN_BLOCK⟩ := He.int_ok X G (c.d.fact 54 (f := .int "MOST_IN_BLOCK" 1000) rfl)
 obtain ⟨t_MOST_DIGITS, m_MOST_DIGITS⟩ := He.int_ok X G (c.d.fact 55 (f := .int "MOST_DIGITS" 40) rfl)
 exact all_mk (C_Cluster := (He.ga K "Cluster")) hfa
  (⟨He.cls_ok (c.d.fact 0 (f := .cls "Cluster") rfl), He.glo_ok X G (c.d.fact 1 (f := .glo "Cluster") rfl), (c.b 0 rfl), (c.b 1 rfl)⟩)
  (⟨He.cls_ok (c.d.fact 0 (f := .cls "Cluster") rfl), He.noat_ok (c.d.fact 2 (f := .noat "Cluster" "limits") rfl)⟩)
  (⟨He.cls_ok (c.d.fact 0 (f := .cls "Cluster") rfl), He.noat_ok (c.d.fact 3 (f := .noat "Cluster" "rows") rfl)⟩)
  (⟨He.cls_ok (c.d.fact 0 (f := .cls "Cluster") rfl), He.noat_ok (c.d.fact 4 (f := .noat "Cluster" "numbers") rfl)⟩)
  (⟨⟨⟨He.cls_ok (c.d.fact 0 (f := .cls "Cluster") rfl), (c.q 2 (p := PySem.W.findIn K (.ref (He.ga K "Cluster")) "__class__" = some (some (.builtin "object.__class__"))) rfl), (c.q 3 (p := PySem.W.specialIn K (.builtin "object.__class__") "__get__" = some (some (.builtin "getset_descriptor.__get__"))) rfl), (c.q 4 (p := PySem.W.takesIn K (.builtin "object.__class__") = some true) rfl), (c.q 5 (p := PySem.W.mroIn K (He.ga K "Cluster") (.type "object") = some true) rfl), by unfold PySem.W.kitOne; rw [if_pos (by simp)]⟩, by have i := (c.b 6 rfl); have t := (c.q 7 (p := PySem.W.typeIn K (.ref (He.ga K "Cluster")) = some (.type "type")) rfl); unfold PySem.W.isClsIn at i; rw [i, t]; simp⟩, (c.q 8 (p := PySem.W.findIn K (.ref (He.ga K "Cluster")) "__ne__" = some (some (.builtin "object.__ne__"))) rfl)⟩)
  (def_mkF X G (c.d.fact 5 (f := .glo "_law_bag") rfl) (c.d.def_ 0 rfl) (fun _ _ _ _ _ _ us hl => match us, hl with | [_], _ => rfl))
  (def_mkF X G (c.d.fact 6 (f := .glo "_law_take") rfl) (c.d.def_ 1 rfl) (fun _ _ _ _ _ _ us hl => match us, hl with | [_, _], _ => rfl))
  (def_mkF X G (c.d.fact 7 (f := .glo "_law_amount") rfl) (c.d.def_ 2 rfl) (fun _ _ _ _ _ _ us hl => match us, hl with | [_, _], _ => rfl))
  (def_mkF X G (c.d.fact 8 (f := .glo "_law_bundles") rfl) (c.d.def_ 3 rfl) (fun _ _ _ _ _ _ us hl => match us, hl with | [_, _, _], _ => rfl))
  (def_mkF X G (c.d.fact 9 (f := .glo "_law_bounds") rfl) (c.d.def_ 4 rfl) (fun _ _ _ _ _ _ us hl => match us, hl with | [_, _], _ => rfl))
  (def_mkF X G (c.d.fact 10 (f := .glo "_law_loads") rfl) (c.d.def_ 5 rfl) (fun _ _ _ _ _ _ us hl => match us, hl with | [_, _, _], _ => rfl))
  (def_mkF X G (c.d.fact 11 (f := .glo "_law_net") rfl) (c.d.def_ 6 rfl) (fun _ _ _ _ _ _ us hl => match us, hl with | [_, _, _], _ => rfl))
  (def_mkF X G (c.d.fact 12 (f := .glo "is_integer") rfl) (c.d.def_ 7 rfl) (fun _ _ _ _ _ _ us hl => match us, hl with | [_], _ => rfl))
  (def_mkF X G (c.d.fact 13 (f := .glo "is_between") rfl) (c.d.def_ 8 rfl) (fun _ _ _ _ _ _ us hl => match us, hl with | [_, _, _], _ => rfl))
  (def_mkF X G (c.d.fact 14 (f := .glo "is_amount") rfl) (c.d.def_ 9 rfl) (fun _ _ _ _ _ _ us hl => match us, hl with | [_], _ => rfl))
  (def_mkF X G (c.d.fact 15 (f := .glo "is_bound") rfl) (c.d.def_ 10 rfl) (fun _ _ _ _ _ _ us hl => match us, hl with | [_], _ => rfl))
  (def_mkF X G (c.d.fact 16 (f := .glo "are_bounds") rfl) (c.d.def_ 11 rfl) (fun _ _ _ _ _ _ us hl => match us, hl with | [_], _ => rfl))
  (def_mkF X G (c.d.fact 17 (f := .glo "is_broker") rfl) (c.d.def_ 12 rfl) (fun _ _ _ _ _ _ us hl => match us, hl with | [_, _], _ => rfl))
  (def_mkF X G (c.d.fact 18 (f := .glo "is_count") rfl) (c.d.def_ 13 rfl) (fun _ _ _ _ _ _ us hl => match us, hl with | [_], _ => rfl))
  (def_mkF X G (c.d.fact 19 (f := .glo "is_bundle") rfl) (c.d.def_ 14 rfl) (fun _ _ _ _ _ _ us hl => match us, hl with | [_, _], _ => rfl))
  (def_mkF X G (c.d.fact 20 (f := .glo "are_bundles") rfl) (c.d.def_ 15 rfl) (fun _ _ _ _ _ _ us hl => match us, hl with | [_, _], _ => rfl))
  (mdef_mkF (c.d.fact 21 (f := .meth "Cluster" "__init__") rfl) (c.d.def_ 16 rfl) (fun _ _ _ _ _ _ us hl => match us, hl with | [_, _, _], _ => rfl))
  (def_mkF X G (c.d.fact 22 (f := .glo "read_integer") rfl) (c.d.def_ 17 rfl) (fun _ _ _ _ _ _ us hl => match us, hl with | [_], _ => rfl))
  (def_mkF X G (c.d.fact 23 (f := .glo "read_integers") rfl) (c.d.def_ 18 rfl) (fun _ _ _ _ _ _ us hl => match us, hl with | [_, _], _ => rfl))
  (def_mkF X G (c.d.fact 24 (f := .glo "read_words") rfl) (c.d.def_ 19 rfl) (fun _ _ _ _ _ _ us hl => match us, hl with | [_, _], _ => rfl))
  (def_mkF X G (c.d.fact 25 (f := .glo "read_cluster") rfl) (c.d.def_ 20 rfl) (fun _ _ _ _ _ _ us hl => match us, hl with | [_], _ => rfl))
  (def_mkF X G (c.d.fact 26 (f := .glo "_law_leads_text") rfl) (c.d.def_ 21 rfl) (fun _ _ _ _ _ _ us hl => match us, hl with | [_], _ => rfl))
  (def_mkF X G (c.d.fact 27 (f := .glo "_law_any_plan") rfl) (c.d.def_ 22 rfl) (fun _ _ _ _ _ _ us hl => match us, hl with | [_], _ => rfl))
  (def_mkF X G (c.d.fact 28 (f := .glo "is_run") rfl) (c.d.def_ 23 rfl) (fun _ _ _ _ _ _ us hl => match us, hl with | [_, _], _ => rfl))
  (def_mkF X G (c.d.fact 29 (f := .glo "is_block") rfl) (c.d.def_ 24 rfl) (fun _ _ _ _ _ _ us hl => match us, hl with | [_, _], _ => rfl))
  (def_mkF X G (c.d.fact 30 (f := .glo "are_blocks") rfl) (c.d.def_ 25 rfl) (fun _ _ _ _ _ _ us hl => match us, hl with | [_, _], _ => rfl))
  (def_mkF X G (c.d.fact 31 (f := .glo "read_block") rfl) (c.d.def_ 26 rfl) (fun _ _ _ _ _ _ us hl => match us, hl with | [_], _ => rfl))
  (def_mkF X G (c.d.fact 32 (f := .glo "read_plan") rfl) (c.d.def_ 27 rfl) (fun _ _ _ _ _ _ us hl => match us, hl with | [_], _ => rfl))
  (def_mkF X G (c.d.fact 33 (f := .glo "_law_plan_text") rfl) (c.d.def_ 28 rfl) (fun _ _ _ _ _ _ us hl => match us, hl with | [_], _ => rfl))
  (def_mkF X G (c.d.fact 34 (f := .glo "_law_alike") rfl) (c.d.def_ 29 rfl) (fun _ _ _ _ _ _ us hl => match us, hl with | [_, _], _ => rfl))
  (def_mkF X G (c.d.fact 35 (f := .glo "_law_run") rfl) (c.d.def_ 30 rfl) (fun _ _ _ _ _ _ us hl => match us, hl with | [_, _, _], _ => rfl))
  (def_mkF X G (c.d.fact 36 (f := .glo "spaced") rfl) (c.d.def_ 31 rfl) (fun _ _ _ _ _ _ us hl => match us, hl with | [_], _ => rfl))
  (def_mkF X G (c.d.fact 37 (f := .glo "show_plan") rfl) (c.d.def_ 32 rfl) (fun _ _ _ _ _ _ us hl => match us, hl with | [_], _ => rfl))
  (def_mkF X G (c.d.fact 38 (f := .glo "_law_plans_right") rfl) (c.d.def_ 33 rfl) (fun _ _ _ _ _ _ us hl => match us, hl with | [_, _], _ => rfl))
  (def_mkF X G (c.d.fact 39 (f := .glo "_law_text") rfl) (c.d.def_ 34 rfl) (fun _ _ _ _ _ _ us hl => match us, hl with | [_, _], _ => rfl))
  (mdef_mkF (c.d.fact 40 (f := .meth "Cluster" "__eq__") rfl) (c.d.def_ 35 rfl) (fun _ _ _ _ _ _ us hl => match us, hl with | [_, _], _ => rfl))
  (mdef_mkF (c.d.fact 41 (f := .meth "Cluster" "bounds") rfl) (c.d.def_ 36 rfl) (fun _ _ _ _ _ _ us hl => match us, hl with | [_], _ => rfl))
  (mdef_mkF (c.d.fact 42 (f := .meth "Cluster" "bundles") rfl) (c.d.def_ 37 rfl) (fun _ _ _ _ _ _ us hl => match us, hl with | [_], _ => rfl))
  (def_mkF X G (c.d.fact 43 (f := .glo "show_cluster") rfl) (c.d.def_ 38 rfl) (fun _ _ _ _ _ _ us hl => match us, hl with | [_], _ => rfl))
  (def_mkF X G (c.d.fact 44 (f := .glo "show_set") rfl) (c.d.def_ 39 rfl) (fun _ _ _ _ _ _ us hl => match us, hl with | [_], _ => rfl))
  (def_mkF X G (c.d.fact 45 (f := .glo "show_leads") rfl) (c.d.def_ 40 rfl) (fun _ _ _ _ _ _ us hl => match us, hl with | [_], _ => rfl))
  (def_mkF X G (c.d.fact 46 (f := .glo "read_leads") rfl) (c.d.def_ 41 rfl) (fun _ _ _ _ _ _ us hl => match us, hl with | [_], _ => rfl))
  (def_mkF X G (c.d.fact 47 (f := .glo "law") rfl) (c.d.def_ 42 rfl) (fun _ _ _ _ _ _ us hl => match us, hl with | [_], _ => rfl))
  m_MOST_BROKERS
  m_MOST_BUNDLES
  m_MOST_AMOUNT
  m_MOST_COUNT
  m_MOST_BLOCKS
  m_MOST_RUNS
  m_MOST_IN_BLOCK
  m_MOST_DIGITS
  (⟨He.free_ok X G (c.d.fact 56 (f := .free "len") rfl), He.free_ok X G (c.d.fact 57 (f := .free "isinstance") rfl), He.free_ok X G (c.d.fact 58 (f := .free "int") rfl), He.free_ok X G (c.d.fact 59 (f := .free "bool") rfl), He.free_ok X G (c.d.fact 60 (f := .free "list") rfl), He.free_ok X G (c.d.fact 61 (f := .free "tuple") rfl), He.free_ok X G (c.d.fact 62 (f := .free "str") rfl), He.free_ok X G (c.d.fact 63 (f := .free "all") rfl), He.free_ok X G (c.d.fact 64 (f := .free "any") rfl), He.free_ok X G (c.d.fact 65 (f := .free "zip") rfl), He.free_ok X G (c.d.fact 66 (f := .free "range") rfl), He.free_ok X G (c.d.fact 67 (f := .free "abs") rfl), He.free_ok X G (c.d.fact 68 (f := .free "repr") rfl), He.free_ok X G (c.d.fact 69 (f := .free "min") rfl), He.free_ok X G (c.d.fact 70 (f := .free "max") rfl), He.free_ok X G (c.d.fact 71 (f := .free "sum") rfl), He.free_ok X G (c.d.fact 72 (f := .free "sorted") rfl), He.free_ok X G (c.d.fact 73 (f := .free "enumerate") rfl), He.free_ok X G (c.d.fact 74 (f := .free "reversed") rfl), He.free_ok X G (c.d.fact 75 (f := .free "set") rfl), He.free_ok X G (c.d.fact 76 (f := .free "dict") rfl), He.free_ok X G (c.d.fact 77 (f := .free "ValueError") rfl)⟩)
end R
open PySem PySem.W PySem.Calls PyProof.Rows in
set_option maxRecDepth 100000 in
set_option maxHeartbeats 0 in
theorem PySem.Challenge.cw_leadswitch_k92_whole_texts_there_and_bac_holds : PySem.Challenge.rw_leadswitch_k92_whole_texts_there_and_bac.Holds := by
 w_on; o_law
 refine HandSHeadRun.head_any (r := OpenLaw.row PySem.Challenge.rw_leadswitch_k92_whole_texts_there_and_bac) (q := view (OpenLaw.row PySem.Challenge.rw_leadswitch_k92_whole_texts_there_and_bac).prog [57]) (H := R.hookZ R.faL R.fnL R.exL) (ob := R.obZ R.faL R.fnL R.exL) (M := 20000) (loose := R.looseL) (d := HandSHeadRun.topDef (OpenLaw.row PySem.Challenge.rw_leadswitch_k92_whole_texts_there_and_bac).prog 57) (kwd := []) R.obZ_eq
  (by kernel_rfl) (fun s => by kernel_rfl) R.runZ (by kernel_rfl) (by kernel_rfl) (by kernel_rfl) (by rfl) (by first | assumption | decide +kernel) (by decide +kernel) ⟨rfl, rfl, rfl, rfl, rfl, by decide +kernel⟩ ?hw ?hc
 case hw => w_witness2
 case hc =>
  refine R.walk_ofGE (l := PySem.Challenge.rw_leadswitch_k92_whole_texts_there_and_bac) (n := 63) (k := 9) (x := "_law_script") (cx := fun _ => L2.CX0) rfl (by decide) (by kernel_rfl) ⟨rfl, by decide, by decide⟩ ?F (fun _ _ _ _ _ z => z)
  intro w mg fa h Y gn hmg0
  obtain ⟨K, KX, c⟩ := Y
  have hmg : mg ("law" : PySem.Str) = some (.ref fa) := by
   have e : (HandSHeadRun.topDef (OpenLaw.row PySem.Challenge.rw_leadswitch_k92_whole_texts_there_and_bac).prog 57).name = ("law" : PySem.Str) := by kernel_rfl
   rw [← e]
   exact hmg0
  obtain ⟨fd, hb, hF⟩ := R.facts (l := PySem.Challenge.rw_leadswitch_k92_whole_texts_there_and_bac) (w := w) KX gn hmg c
  exact ⟨K, fd, _root_.G.sp_law K, KX, hb, fun H a ns hl _ hS => ⟨a, ns, rfl, hS, hl, fun _ => rfl⟩, hF⟩
