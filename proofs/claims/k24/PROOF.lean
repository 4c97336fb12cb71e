import PyProof.Rows.All
import Wide.All
import OpenK.AllK
import Wide.FinOn
import PyProof.EqAt
import PyProof.EqKinds
import PyProof.TupleCall
import HandS.ForMost
import HandS.ForExc
import HandS.Wide
import HandS.IsInst
import HandS.Evl
import HandS.Zip
import HandS.Flow
import HandS.TupAny
import HandS.Walk
import HandS.Style
import PyProof.StrBlock2
import PyProof.ReprLen
import PyProof.FitsInt
import HandS.SetBool
import HandS.TupSets
import HandS.Deep
import KE.GoesMore
import KE.GoesZip
import KE.GoesEnum
import HandS.DictComp
import HandS.ForDict
import PyProof.P3In
import HandS.Codes
import HandS.ExcInit
import HandS.ExcOwn
import HandS.ExcField
import HandS.TryOnly
import HandS.TryMany
import KE.KExcIs
import HandS.SortInts
import HandS.SortRule
import HandS.More
import HandS.Flt
import PySem.Challenge.RW_leadswitch_k24_stopped_far
set_option Elab.async false
set_option linter.all false
set_option maxRecDepth 100000
set_option maxHeartbeats 4000000
/-! ## G1: calls of defs that want to know that no repr runs around them -/
namespace G
open PySem PySem.Spec PyProof.Rows L2
/-- FnOk for callers around which no repr is running -/
structure FnG (P : Program) (w : World) (K : PySem.W.Frag) (mg : Str → Option Value) (base : Heap) (cx : CXT) (k : Nat) (f : Addr) (fd : FuncData) (ps : List Str) (sp : Sp) : Prop where
  lenG : ∀ vs H Q E, sp vs H Q E → vs.length = ps.length
  runG : ∀ (A : Around) (out : List Env) (st : Shared) (H : Hp) (as : Args) (us : List Value) (vs : List V) (Q : VK) (E : XK), A.guards = some [] → Room k A → Env0 P w K mg base A out st H →
    BindsTo st fd as (ps.zip us) → Vals vs us → sp vs H Q E → codeAny (model P w) A (.call (.ref f) as) (CR cx out P w H st Q E) st
section
variable {P : Program} {w : World} {K : PySem.W.Frag} {mg : Str → Option Value} {base : Heap} {cx : CXT} {k : Nat} {f : Addr} {fd : FuncData} {ps : List Str} {sp : Sp}
theorem FnG.of (F : FnOk P w K mg base cx k f fd ps sp) : FnG P w K mg base cx k f fd ps sp :=
  ⟨F.len, fun A out st H as us vs Q E _ hr => F.run A out st H as us vs Q E hr⟩
theorem FnG.up {j : Nat} (F : FnG P w K mg base cx j f fd ps sp) (h : j ≤ k) : FnG P w K mg base cx k f fd ps sp :=
  ⟨F.lenG, fun A out st H as us vs Q E hg hr => F.runG A out st H as us vs Q E hg (hr.mono h)⟩
theorem fnG_of {name qual : Str} {params : Arguments} {body : List Stmt} {scope : Scope} {dV kV doc pm cdv ct oc : Value} {an od : Option Addr} {osl : Array (Option Value)} {N : List Str}
    (lk : K.lookup f = some ⟨oc, od, .func (PySem.W.fnOf name qual params body scope dV kV doc pm an cdv ct), osl⟩) (hcd : PySem.W.codeIn K cdv qual = true) (S : FnScope N ps scope)
    (ln : ∀ vs H Q E, sp vs H Q E → vs.length = ps.length)
    (bd : ∀ (A : Around) (out : List Env) (st : Shared) (H : Hp) (vs : List V) (Q : VK) (E : XK), A.guards = some [] → Room k (A.deeper (envOfC qual scope st.heap.objs.size f cdv)) → sp vs H Q E →
      ∃ t, PSs (cxOf cx P w K mg base N qual scope f cdv A out st H E) body t ∧ t { nx := fun _ H' => Q .non H', rt := Q } (start N vs) H) :
    FnG P w K mg base cx (k + 1) f (PySem.W.fnOf name qual params body scope dV kV doc pm an cdv ct) ps sp := by
  refine ⟨ln, fun A out st H as us vs Q E hg hr e0 hb r hsp => ?_⟩
  have hkeep : ∀ b o, base.get? b = some o → st.heap.get? b = some o := fun b o e => (e0.bs b o e).1
  have KX : K.In st.heap := e0.mod.kin.keeps hkeep
  have hkind : ∀ y ∈ ps.zip us, scope.names.lookup y.1 = some .local ∨ (scope.names.lookup y.1 = some .cell ∧ ((cellsFrom (st.heap.objs.size + 1) scope.names []).lookup y.1).isSome = true) := by
    rintro ⟨n, v⟩ hy
    rcases S.par n (List.of_mem_zip hy).1 with q | q
    · exact Or.inl q
    · exact Or.inr ⟨q, PySem.W.cellsFrom_some _ _ _ (Or.inl q)⟩
  refine codeAny_call_function hr.depth (KX _ _ lk) rfl S.co S.gen rfl (PySem.W.codeRec_of KX hcd) (hb _ _ _ _ ?_)
  refine wpAny_newFunctionEnv_cells S.kind hkind fun env he st1 x => ?_
  subst he
  refine ⟨(e0.mod.nolimit.keeps hkeep).keeps x.toInCall.keep, codeAny_func ?_⟩
  obtain ⟨t, ht, hq⟩ := bd A out st H vs Q E hg (hr.deeper _) hsp
  have I0 := inv_start (CX := cx) (E := E) S hr.hd e0 (ln _ _ _ _ hsp) r x
  refine wpAny_mono (ht.run [] st1 (start N vs) H _ I0 hq) (fun fl s' hs => ?_) fun _ _ z => z
  match fl, hs with
  | .ret u, ⟨v, σ', H', J, rv, q⟩ => exact ⟨v, H', J.os, J.bare, J.base, J.hok, rv, q⟩
  | .next, ⟨σ', H', J, q⟩ => exact ⟨V.non, H', J.os, J.bare, J.base, J.hok, rfl, q⟩
  | .brk, ⟨_, _, _, q⟩ => exact False.elim q
  | .cont, ⟨_, _, _, q⟩ => exact False.elim q
/-- a def without errors that leave it -/
theorem okG {x qual : Str} {st : Stmt} {N : List Str} (F : Fun K x qual st f fd) (S : FnScope N ps (defScope st)) (ln : ∀ vs H Q E, sp vs H Q E → vs.length = ps.length)
    (bd : ∀ (cdv : Value) (A : Around) (out : List Env) (s : Shared) (H : Hp) (vs : List V) (Q : VK) (E : XK), A.guards = some [] → Room k (A.deeper (envOfC qual (defScope st) s.heap.objs.size f cdv)) → sp vs H Q E →
      ∃ t, PSs (cxOf CX0 P w K mg base N qual (defScope st) f cdv A out s H E).nox (defBody st) t ∧ t { nx := fun _ H' => Q .non H', rt := Q } (start N vs) H) : FnG P w K mg base CX0 (k + 1) f fd ps sp := by
  obtain ⟨oc, od, kV, doc, pm, an, cdv, ct, osl, rfl, lk, hcd⟩ := F.ex
  refine fnG_of lk hcd S ln fun A out s H vs Q E hg hr hsp => ?_
  obtain ⟨t, ht, q⟩ := bd cdv A out s H vs Q E hg hr hsp
  exact ⟨t, ht.nox, q⟩
/-- .. with such errors -/
theorem okGX {x qual : Str} {st : Stmt} {N : List Str} (F : Fun K x qual st f fd) (S : FnScope N ps (defScope st)) (ln : ∀ vs H Q E, sp vs H Q E → vs.length = ps.length)
    (bd : ∀ (cdv : Value) (A : Around) (out : List Env) (s : Shared) (H : Hp) (vs : List V) (Q : VK) (E : XK), A.guards = some [] → Room k (A.deeper (envOfC qual (defScope st) s.heap.objs.size f cdv)) → sp vs H Q E →
      ∃ t, PSs (cxOf (L2.CX P w) P w K mg base N qual (defScope st) f cdv A out s H E) (defBody st) t ∧ t { nx := fun _ H' => Q .non H', rt := Q } (start N vs) H) : FnG P w K mg base (L2.CX P w) (k + 1) f fd ps sp := by
  obtain ⟨oc, od, kV, doc, pm, an, cdv, ct, osl, rfl, lk, hcd⟩ := F.ex
  exact fnG_of lk hcd S ln fun A out s H vs Q E hg hr hsp => bd cdv A out s H vs Q E hg hr hsp
end
section
variable {X : Cx} {cx : CXT} {k : Nat} {f : Addr} {fd : FuncData} {ps : List Str} {sp : Sp} {dvs : List V} {ds : List Value} {E : XK} {x : Str} {p pos : Pos} {e : Expr} {es : List Expr} {t : TA}
theorem run_fnG {pins : List (Addr × Obj)} {σ : L2.St} {H : Hp} {s : Shared} {Q : VK} {us : List Value} {vs : List V} (F : FnG X.prog X.w X.K X.mg X.base cx k f fd ps sp) (hgu : X.A.guards = some []) (hr : Room k X.A) (hb : Binds X.K fd ps ds) (hd : Vals dvs ds)
    (hx : Passes cx X E) (I : Inv X pins σ H s) (r : Vals vs us) (h : sp (vs ++ dvs) H Q E) : wpAny (model X.prog X.w) X.A (call (.ref f) us) (EP X pins σ Q) X.xe s := by
  have r2 := r.append hd
  have hl := F.lenG _ _ _ _ h
  rw [r2.length] at hl
  have go := F.runG X.A X.stack s H ⟨us, []⟩ (us ++ ds) (vs ++ dvs) Q E hgu hr I.env0 (hb s us I.kIn hl) r2 h
  refine wpAny_call (codeAny_mono go fun res s' hq => ?_)
  match res, hq with
  | .error e, hq => exact hx pins σ H s e s' I hq
  | .ok (.ret u), hq => exact I.after hq
  | .ok .next, hq => exact False.elim hq
  | .ok .brk, hq => exact False.elim hq
  | .ok .cont, hq => exact False.elim hq
theorem pe_callG (F : FnG X.prog X.w X.K X.mg X.base cx k f fd ps sp) (hgu : X.A.guards = some []) (hr : Room k X.A) (hg : Gl X x) (hm : X.mg x = some (.ref f)) (hk : PySem.W.keepIn X.K (.ref f) = true) (hb : Binds X.K fd ps ds) (hd : Vals dvs ds)
    (hx : Passes cx X E) (ha : PA X (e :: es) t) (hdb : (x == ("__debug__" : Str)) = false := by decide) (he : starEach (e :: es) X.env = (false, eval e X.env) :: starEach es X.env := by rfl)
    (hpl : (backTo pos (starEach es X.env)).any (·.1) = false := by rfl) : PE X (.Call (.Name x p) (e :: es) [] pos) (tCall sp dvs E t) := by
  refine ⟨fun pins s σ H Q I h => wpAny_Call_Name_kw (ld_glob I hg hm ?_ hdb)⟩
  refine PySem.W.callWith_K (h₀ := X.base) I.ok.mod.kin hk (thn (ha.run pos pins s σ H _ I h) fun us s1 hh => ?_) he hpl
  obtain ⟨vs, H1, I1, r, q⟩ := hh
  exact ⟨I1.kIn, run_fnG F hgu hr hb hd hx I1 r q⟩
theorem pe_callG0 (F : FnG X.prog X.w X.K X.mg X.base cx k f fd ps sp) (hgu : X.A.guards = some []) (hr : Room k X.A) (hg : Gl X x) (hm : X.mg x = some (.ref f)) (hk : PySem.W.keepIn X.K (.ref f) = true) (hb : Binds X.K fd ps ds) (hd : Vals dvs ds)
    (hx : Passes cx X E) (hdb : (x == ("__debug__" : Str)) = false := by decide) : PE X (.Call (.Name x p) [] [] pos) (tCall sp dvs E tNil) :=
  ⟨fun pins s σ H Q I h => wpAny_Call_Name_kw (ld_glob I hg hm (PySem.W.callWith_K0 I.kIn hk (run_fnG (us := []) F hgu hr hb hd hx I .nil h)) hdb)⟩
end
/-- the law's call, from a promise that holds where no repr runs around -/
theorem law_callG {P : Program} {w : World} {K : PySem.W.Frag} {mg mb : Str → Option Value} {cx : CXT} {k : Nat} {fa a : Addr} {fd : FuncData} {x : Str} {sp : Sp} {s₁ : Shared} {vs : List Value} {ns : List Int}
    (KX : K.In s₁.heap) (hns : s₁.heap.Ns mainGlobals mg) (hb : s₁.heap.Ns builtinsNs mb) (hbb : ∀ x : Str, x ≠ "__name__" → mb x = bootBuiltins x) (hlim : s₁.heap.NoLimit) (hg : s₁.gens = #[])
    (ha : s₁.heap.get? a = some { cls := .type "list", data := .seq vs.toArray }) (hi : IntsAre vs ns) (hl : ns.length ≤ sizeLine) (hr : Room k callerA)
    (F : ∀ base : Heap, K.In base → base.Ns mainGlobals mg → FnG P w K mg base cx k fa fd [x] sp) (hbind : ∀ (s : Shared) (u : Value), BindsTo s fd ⟨[u], []⟩ [(x, u)])
    (hsp : ∀ H : Hp, Only H → SqL K H a (ns.map V.int) → sp [.ref a] H (fun v _ => v = .bl true) fun _ _ _ => False)
    (hcx : ∀ H e s', cx [] H s₁ (fun _ _ _ => False) e s' → False) :
    codeAny (model P w) callerA (.call (.ref fa) ⟨[.ref a], []⟩) (fun r s' => r = .ok (.ret (.bool true)) ∧ OldK s₁.heap s'.heap ∧ s'.os = s₁.os ∧ AllBare s'.gens) s₁ := by
  have rv := vals_ints hi
  have lenV := hi.length
  have core : ∀ H : Hp, Only H → SqL K H a (ns.map V.int) → HOk P w H s₁.heap → (∀ b, H b ≠ none → b = a) → (H a ≠ none → K.lookup a = none) →
      codeAny (model P w) callerA (.call (.ref fa) ⟨[.ref a], []⟩) (fun r s' => r = .ok (.ret (.bool true)) ∧ OldK s₁.heap s'.heap ∧ s'.os = s₁.os ∧ AllBare s'.gens) s₁ := by
    intro H only hS hok hA hK
    have nodict : ∀ {b : Addr} {o : Obj} {es : Array DictEntry} {ep : Nat}, s₁.heap.get? b = some o → o.data = .dict es ep → H b = none := by
      intro b o es ep e d
      refine Classical.byContradiction fun q => ?_
      have eb := hA b q
      subst eb
      rw [ha] at e
      cases e
      exact nomatch d
    have nsK : ∀ {b : Addr} {m : Str → Option Value}, s₁.heap.Ns b m → (hidT s₁.heap H).Ns b m := by
      rintro b m ⟨o, es, ep, e, d, r⟩
      exact ⟨o, es, ep, hidT_get e (nodict e d), d, r⟩
    have hKb : K.In (hidT s₁.heap H) := by
      intro b o e
      refine hidT_get (KX b o e) (Classical.byContradiction fun q => ?_)
      have eb := hA b q
      subst eb
      rw [hK q] at e
      cases e
    obtain ⟨mc, hm1, hm2⟩ := hlim
    have md : Mod K mg (hidT s₁.heap H) := ⟨hKb, nsK hns, ⟨mb, nsK hb, hbb⟩, ⟨mc, nsK hm1, hm2⟩⟩
    have e0 : Env0 P w K mg (hidT s₁.heap H) callerA [] s₁ H :=
      ⟨rfl, md, fun b o e => of_hidT e, Nat.le_of_eq (hidT_size _ _), trivial, fun b z => absurd (show b ∈ ([] : List Addr) from z) (by simp), hok, .of_eq hg⟩
    have go := (F _ hKb (nsK hns)).runG callerA [] s₁ H ⟨[.ref a], []⟩ [.ref a] [.ref a] _ _ rfl hr e0 (hbind s₁ (.ref a)) (.cons rfl .nil) (hsp H only hS)
    refine codeAny_mono go fun res s' h => ?_
    match res, h with
    | .error e, h => exact (hcx H e s' h).elim
    | .ok .next, h => exact False.elim h
    | .ok .brk, h => exact False.elim h
    | .ok .cont, h => exact False.elim h
    | .ok (.ret u), ⟨v, H', os, bare, un, hok', r', q⟩ =>
      have q' : v = .bl true := q
      subst q'
      have r'' : u = Value.bool true := r'
      subst r''
      refine ⟨rfl, OldK.of_keep fun b o e => ?_, os, bare⟩
      rcases only b with z | ⟨ob, xs, z⟩
      · exact un.keep b o e z (fun z => absurd (show b ∈ ([] : List Addr) from z) (by simp)) (by simp)
      · have e1 := (hok b _ z).1
        have e2 := (hok' b _ (un.frzs b ob _ z)).1
        rw [e] at e1
        cases e1
        exact e2
  cases hk : K.lookup a with
  | some o =>
    have e := KX a o hk
    rw [ha] at e
    cases e
    exact core (fun _ => none) (fun _ => Or.inl rfl) (Or.inr ⟨_, vs.toArray, _, hk, rfl, rfl, rfl, by rw [List.size_toArray, lenV]; exact hl, by simpa using rv⟩) (fun _ _ z => nomatch z) (fun _ z => absurd rfl z) fun z => absurd rfl z
  | none =>
    refine core (fun b => if b = a then some (.frz { cls := .type "list", data := .seq vs.toArray } (.lst (ns.map V.int))) else none) (fun b => ?_) (Or.inl (Or.inr ⟨{ cls := .type "list", data := .seq vs.toArray }, if_pos rfl⟩)) (fun b u z => ?_) (fun b z => ?_) fun _ => hk
    · by_cases hb : b = a
      · exact Or.inr ⟨_, _, if_pos hb⟩
      · exact Or.inl (if_neg hb)
    · by_cases hb : b = a
      · dsimp only at z
        rw [if_pos hb] at z
        cases z
        subst hb
        exact ⟨ha, by rw [List.length_map]; exact hl, vs, _, rv, ha⟩
      · dsimp only at z
        rw [if_neg hb] at z
        cases z
    · exact Classical.byContradiction fun hb => z (if_neg hb)
theorem walk_ofG {l : PySem.W.OpenLaw} {n k : Nat} {q : Program} {loose : List Str} {XP : (Str → Option Value) → Heap → Prop} {YP : World → Heap → Prop} {d : DefRec} {K : Params → PySem.W.Frag} {cx : World → CXT} {sp : World → Sp} {x : Str}
    (hn : l.most = some n) (hn2 : n ≤ sizeLine) (hdf : d.params.defaults = []) (hr : Room k callerA)
    (hY : ∀ (w : World) (h : Heap), YP w h → (K w.params).In h)
    (F : ∀ (w : World) (mg : Str → Option Value) (fa : Addr) (h : Heap), (K w.params).In h → h.Ns mainGlobals mg → mg d.name = some (.ref fa) →
      ∃ fd : FuncData, (∀ (s : Shared) (u : Value), BindsTo s fd ⟨[u], []⟩ [(x, u)]) ∧
        ∀ base : Heap, (K w.params).In base → base.Ns mainGlobals mg → FnG l.prog w (K w.params) mg base (cx w) k fa fd [x] (sp w))
    (hsp : ∀ (w : World) (H : Hp) (a : Addr) (ns : List Int), ns.length ≤ n → Only H → SqL (K w.params) H a (ns.map V.int) → sp w [.ref a] H (fun v _ => v = .bl true) fun _ _ _ => False)
    (hcx : ∀ (w : World) (H : Hp) (s : Shared) (e : Value) (s' : Shared), cx w [] H s (fun _ _ _ => False) e s' → False) :
    PySem.W.WalkO q loose XP YP l.row.toRowW d [] (fun f vs => PySem.call f vs) := by
  refine Att.attach_call hn hdf fun w s₀ s₁ mg mb fa o pm cd doc a vs ns gr y ho hd hcd hmg hobj hints hlen hg => ?_
  obtain ⟨fd, hb, hF⟩ := F w mg fa _ (hY w _ y) gr.T.g hmg
  exact law_callG (hY w _ y) gr.T.g gr.T.b gr.T.builtins gr.T.nolimit hg hobj hints (Nat.le_trans hlen hn2) hr hF hb (fun H only hS => hsp w H a ns hlen only hS) fun H e s' => hcx w H s₁ e s'
end G

/-! ## G2: data (None, bools, ints, texts, lists, tuples, dicts) over the abstract heap: what a value stands for; its type; repr; == -/
namespace G
open PySem PySem.Spec PyProof.Rows L2
def kD : Key → PyData
  | .inl i => .int i
  | .inr x => .str x
mutual
/-- in H the value stands for the datum -/
inductive Da (K : PySem.W.Frag) (H : Hp) : V → PyData → Prop
  | non : Da K H .non .none
  | bl (b : Bool) : Da K H (.bl b) (.bool b)
  | int (i : Int) : Da K H (.int i) (.int i)
  | str (x : Str) : Da K H (.str x) (.str x)
  | lst {a : Addr} {xs : List V} {ds : List PyData} : SqL K H a xs → DaL K H xs ds → Da K H (.ref a) (.list ds)
  | tup {a : Addr} {xs : List V} {ds : List PyData} : SqT K H a xs → DaL K H xs ds → Da K H (.ref a) (.tuple ds)
  | dct {a : Addr} {kvs : List (Key × V)} {es : List (PyData × PyData)} : H a = some (.dK kvs) → DaE K H kvs es → Da K H (.ref a) (.dict es)
inductive DaL (K : PySem.W.Frag) (H : Hp) : List V → List PyData → Prop
  | nil : DaL K H [] []
  | cons {v : V} {vs : List V} {d : PyData} {ds : List PyData} : Da K H v d → DaL K H vs ds → DaL K H (v :: vs) (d :: ds)
inductive DaE (K : PySem.W.Frag) (H : Hp) : List (Key × V) → List (PyData × PyData) → Prop
  | nil : DaE K H [] []
  | cons {k : Key} {v : V} {kvs : List (Key × V)} {d : PyData} {es : List (PyData × PyData)} : Da K H v d → DaE K H kvs es → DaE K H ((k, v) :: kvs) ((kD k, d) :: es)
end
section
variable {K : PySem.W.Frag} {H H' : Hp}
theorem sql_up {a : Addr} {xs : List V} (e : Same H H') (h : SqL K H a xs) : SqL K H' a xs := e.seq h
theorem sqt_up {a : Addr} {xs : List V} (e : Same H H') (h : SqT K H a xs) : SqT K H' a xs := Evl.ex_t e h
mutual
theorem Da.up (e : Same H H') : ∀ (d : PyData) (v : V), Da K H v d → Da K H' v d
  | .none, _, h => by cases h; exact .non
  | .bool b, _, h => by cases h; exact .bl b
  | .int i, _, h => by cases h; exact .int i
  | .str x, _, h => by cases h; exact .str x
  | .list ds, _, h => by cases h with | lst a b => exact .lst (sql_up e a) (DaL.up e ds _ b)
  | .tuple ds, _, h => by cases h with | tup a b => exact .tup (sqt_up e a) (DaL.up e ds _ b)
  | .dict es, _, h => by cases h with | dct a b => exact .dct (e _ _ a) (DaE.up e es _ b)
theorem DaL.up (e : Same H H') : ∀ (ds : List PyData) (vs : List V), DaL K H vs ds → DaL K H' vs ds
  | [], _, h => by cases h; exact .nil
  | d :: ds, _, h => by cases h with | cons a b => exact .cons (Da.up e d _ a) (DaL.up e ds _ b)
theorem DaE.up (e : Same H H') : ∀ (es : List (PyData × PyData)) (kvs : List (Key × V)), DaE K H kvs es → DaE K H' kvs es
  | [], _, h => by cases h; exact .nil
  | (k, d) :: es, _, h => by cases h with | cons a b => exact .cons (Da.up e d _ a) (DaE.up e es _ b)
end
theorem Da.mono {d : PyData} {v : V} (h : Da K H v d) (e : Same H H') : Da K H' v d := Da.up e d v h
theorem DaL.mono {ds : List PyData} {vs : List V} (h : DaL K H vs ds) (e : Same H H') : DaL K H' vs ds := DaL.up e ds vs h
theorem DaL.len {ds : List PyData} : ∀ {vs : List V}, DaL K H vs ds → vs.length = ds.length := by
  induction ds with
  | nil => intro vs h; cases h; rfl
  | cons d ds ih => intro vs h; cases h with | cons a b => simp [ih b]
theorem DaL.get {ds : List PyData} : ∀ {vs : List V} {i : Nat} {d : PyData}, DaL K H vs ds → ds[i]? = some d → ∃ v, vs[i]? = some v ∧ Da K H v d := by
  induction ds with
  | nil => intro vs i d h e; simp at e
  | cons x ds ih =>
    intro vs i d h e
    cases h with
    | cons a b =>
      cases i with
      | zero => simp at e; subst e; exact ⟨_, rfl, a⟩
      | succ i =>
        obtain ⟨v, q, r⟩ := ih (i := i) b (by simpa using e)
        exact ⟨v, by simpa using q, r⟩
theorem DaL.getV {ds : List PyData} : ∀ {vs : List V} {i : Nat} {v : V}, DaL K H vs ds → vs[i]? = some v → ∃ d, ds[i]? = some d ∧ Da K H v d := by
  induction ds with
  | nil => intro vs i d h e; cases h; simp at e
  | cons x ds ih =>
    intro vs i d h e
    cases h with
    | cons a b =>
      cases i with
      | zero => simp at e; subst e; exact ⟨_, rfl, a⟩
      | succ i =>
        obtain ⟨v, q, r⟩ := ih (i := i) b (by simpa using e)
        exact ⟨v, by simpa using q, r⟩
theorem DaL.app {xs ys : List PyData} : ∀ {us vs : List V}, DaL K H us xs → DaL K H vs ys → DaL K H (us ++ vs) (xs ++ ys) := by
  induction xs with
  | nil => intro us vs h k; cases h; exact k
  | cons x xs ih => intro us vs h k; cases h with | cons a b => exact .cons a (ih b k)
theorem DaL.take {xs : List PyData} : ∀ {us : List V} (n : Nat), DaL K H us xs → DaL K H (us.take n) (xs.take n) := by
  induction xs with
  | nil => intro us n h; cases h; simp; exact .nil
  | cons x xs ih =>
    intro us n h
    cases h with
    | cons a b =>
      cases n with
      | zero => exact .nil
      | succ n => exact .cons a (ih n b)
theorem DaL.drop {xs : List PyData} : ∀ {us : List V} (n : Nat), DaL K H us xs → DaL K H (us.drop n) (xs.drop n) := by
  induction xs with
  | nil => intro us n h; cases h; simp; exact .nil
  | cons x xs ih =>
    intro us n h
    cases h with
    | cons a b =>
      cases n with
      | zero => exact .cons a b
      | succ n => exact ih n b
theorem DaL.rev {xs : List PyData} : ∀ {us : List V}, DaL K H us xs → DaL K H us.reverse xs.reverse := by
  induction xs with
  | nil => intro us h; cases h; exact .nil
  | cons x xs ih =>
    intro us h
    cases h with
    | cons a b =>
      rw [List.reverse_cons, List.reverse_cons]
      exact (ih b).app (.cons a .nil)
theorem DaL.ints : ∀ (ns : List Int), DaL K H (ns.map V.int) (ns.map PyData.int)
  | [] => .nil
  | n :: ns => .cons (.int n) (DaL.ints ns)
theorem DaL.bls : ∀ (ns : List Bool), DaL K H (ns.map V.bl) (ns.map PyData.bool)
  | [] => .nil
  | n :: ns => .cons (.bl n) (DaL.bls ns)
theorem DaL.rep {v : V} {d : PyData} (h : Da K H v d) : ∀ n, DaL K H (List.replicate n v) (List.replicate n d)
  | 0 => .nil
  | n + 1 => .cons h (DaL.rep h n)
theorem DaL.unints : ∀ {ns : List Int} {vs : List V}, DaL K H vs (ns.map PyData.int) → vs = ns.map V.int
  | [], _, h => by cases h; rfl
  | n :: ns, _, h => by
    cases h with
    | cons a b =>
      cases a
      rw [DaL.unints b]
      rfl
/-- the name of a datum's class -/
def tyN : PyData → String
  | .none => "NoneType"
  | .bool _ => "bool"
  | .int _ => "int"
  | .str _ => "str"
  | .list _ => "list"
  | .tuple _ => "tuple"
  | .dict _ => "dict"
theorem Da.ty {d : PyData} {v : V} (h : Da K H v d) : TyX K H v (.type (tyN d)) := by
  cases h with
  | non => exact .base .non
  | bl b => exact .base (.bl b)
  | int i => exact .base (.int i)
  | str x => exact .base (.str x)
  | lst a _ =>
    rcases a with (a | ⟨o, a⟩) | ⟨o, _, _, a, c, _⟩
    · exact .base (.lst a)
    · exact .base (.frz a)
    · exact .kList a c
  | tup a _ =>
    rcases a with (a | ⟨o, a⟩) | ⟨o, _, _, a, c, _⟩
    · exact .base (.tup a)
    · exact .fTuple a
    · exact .kTuple a c
  | dct a _ => exact .base (.dK a)
def isI : PyData → Bool
  | .int _ => true
  | .bool _ => true
  | _ => false
def isB : PyData → Bool
  | .bool _ => true
  | _ => false
def isL : PyData → Bool
  | .list _ => true
  | _ => false
def isT : PyData → Bool
  | .tuple _ => true
  | _ => false
theorem kit_int (d : PyData) : PySem.W.kitOne K (.type (tyN d)) (.type "int") = some (isI d) := by
  cases d
  · exact kit_ty (show kitB "NoneType" "int" = some false by decide +kernel)
  · exact kit_ty (show kitB "bool" "int" = some true by decide +kernel)
  · exact kit_ty (show kitB "int" "int" = some true by decide +kernel)
  · exact kit_ty (show kitB "str" "int" = some false by decide +kernel)
  · exact kit_ty (show kitB "list" "int" = some false by decide +kernel)
  · exact kit_ty (show kitB "tuple" "int" = some false by decide +kernel)
  · exact kit_ty (show kitB "dict" "int" = some false by decide +kernel)
theorem kit_bool (d : PyData) : PySem.W.kitOne K (.type (tyN d)) (.type "bool") = some (isB d) := by
  cases d
  · exact kit_ty (show kitB "NoneType" "bool" = some false by decide +kernel)
  · exact kit_ty (show kitB "bool" "bool" = some true by decide +kernel)
  · exact kit_ty (show kitB "int" "bool" = some false by decide +kernel)
  · exact kit_ty (show kitB "str" "bool" = some false by decide +kernel)
  · exact kit_ty (show kitB "list" "bool" = some false by decide +kernel)
  · exact kit_ty (show kitB "tuple" "bool" = some false by decide +kernel)
  · exact kit_ty (show kitB "dict" "bool" = some false by decide +kernel)
theorem kit_list (d : PyData) : PySem.W.kitOne K (.type (tyN d)) (.type "list") = some (isL d) := by
  cases d
  · exact kit_ty (show kitB "NoneType" "list" = some false by decide +kernel)
  · exact kit_ty (show kitB "bool" "list" = some false by decide +kernel)
  · exact kit_ty (show kitB "int" "list" = some false by decide +kernel)
  · exact kit_ty (show kitB "str" "list" = some false by decide +kernel)
  · exact kit_ty (show kitB "list" "list" = some true by decide +kernel)
  · exact kit_ty (show kitB "tuple" "list" = some false by decide +kernel)
  · exact kit_ty (show kitB "dict" "list" = some false by decide +kernel)
theorem kit_tuple (d : PyData) : PySem.W.kitOne K (.type (tyN d)) (.type "tuple") = some (isT d) := by
  cases d
  · exact kit_ty (show kitB "NoneType" "tuple" = some false by decide +kernel)
  · exact kit_ty (show kitB "bool" "tuple" = some false by decide +kernel)
  · exact kit_ty (show kitB "int" "tuple" = some false by decide +kernel)
  · exact kit_ty (show kitB "str" "tuple" = some false by decide +kernel)
  · exact kit_ty (show kitB "list" "tuple" = some false by decide +kernel)
  · exact kit_ty (show kitB "tuple" "tuple" = some true by decide +kernel)
  · exact kit_ty (show kitB "dict" "tuple" = some false by decide +kernel)
mutual
theorem Da.dp : ∀ (d : PyData) (v : V), d.canLay0 = true → Da K H v d → Dp K H v d
  | .none, _, _, h => by cases h; exact .non
  | .bool b, _, _, h => by cases h; exact .bl b
  | .int i, _, _, h => by cases h; exact .int i
  | .str x, _, _, h => by cases h; exact .str x
  | .list ds, _, c, h => by cases h with | lst a b => exact .lst a (DaL.dp ds _ (by simpa only [PyData.canLay0] using c) b)
  | .tuple ds, _, c, h => by cases h with | tup a b => exact .tup a (DaL.dp ds _ (by simpa only [PyData.canLay0] using c) b)
  | .dict es, _, c, _ => by simp only [PyData.canLay0] at c; cases c
theorem DaL.dp : ∀ (ds : List PyData) (vs : List V), PyData.canLayAll0 ds = true → DaL K H vs ds → DpAll K H vs ds
  | [], _, _, h => by cases h; exact .nil
  | d :: ds, _, c, h => by
    cases h with
    | cons a b =>
      have c' : PyData.canLay0 d = true ∧ PyData.canLayAll0 ds = true := by simpa only [PyData.canLayAll0, Bool.and_eq_true] using c
      exact .cons (Da.dp d _ c'.1 a) (DaL.dp ds _ c'.2 b)
end
end
section
variable {X : Cx} {pins : List (Addr × Obj)} {σ : L2.St} {H : Hp} {s : Shared}
theorem key_read {P : Program} {w : World} {k : Key} {u : Value} (h : (mixKind P w).is k u = true) (hp : Heap) (hs : (kD k).showable = true) (hz : (kD k).shown.length ≤ sizeLine) :
    Reads hp u (kD k) [] ∧ ReprIs P w u (kD k).shown := by
  rcases keyIs_shape (show keyIs k u = true from h) with ⟨i, t, rfl, rfl⟩ | ⟨x, t, rfl, rfl⟩
  · refine ⟨Reads.int i t, ?_⟩
    show ReprIs P w _ (PyData.int i).shown
    simp only [PyData.shown]
    exact ReprIs.int t (by simpa [kD, PyData.showable] using hs)
  · refine ⟨Reads.str x t, ?_⟩
    show ReprIs P w _ (PyData.str x).shown
    simp only [PyData.shown]
    exact ReprIs.str x t (by simpa only [kD, PyData.shown] using hz)
/-- the texts of all items, and what they read -/
structure Rk (P : Program) (w : World) (h : Heap) (u : Value) (d : PyData) : Prop where
  rd : ∃ as, Reads h u d as
  rp : ∃ bs, ReadAtMost h d.depth bs ∧ ReprK P w bs h d.depth u d.shown
structure RkL (P : Program) (w : World) (h : Heap) (us : List Value) (ds : List PyData) : Prop where
  rd : ∃ as, ReadsAll h us ds as
  rp : ∃ bs, ReadAtMost h (PyData.depthAll ds) bs ∧ ReprAllK P w bs h (PyData.depthAll ds) us (PyData.shownAll ds)
structure RkE (P : Program) (w : World) (h : Heap) (ents : List DictEntry) (es : List (PyData × PyData)) : Prop where
  rk : ∃ as, ReadsAll h (ents.map (·.key)) (es.map (·.1)) as
  rv : ∃ as, ReadsAll h (ents.map (·.val)) (es.map (·.2)) as
  rp : ∃ bs, ReadAtMost h (PyData.depthKv es) bs ∧ ReprEntriesK P w bs h (PyData.depthKv es) ents (PyData.shownKv es)
theorem rAM_mono {h : Heap} {n m : Nat} {bs : List Addr} (a : ReadAtMost h n bs) (l : n ≤ m) : ReadAtMost h m bs := a.mono l
theorem reK_more {P : Program} {w : World} {h : Heap} {as as' : List Addr} {n m : Nat} (hs : ∀ b ∈ as, b ∈ as') (l : n ≤ m) : ∀ {en : List DictEntry} {ts : List Str}, ReprEntriesK P w as h n en ts → ReprEntriesK P w as' h m en ts
  | _, _, .nil => .nil
  | _, _, .cons a b c => .cons ((a.more hs).level_le l) ((b.more hs).level_le l) (reK_more hs l c)
mutual
theorem rk_of (I : Inv X pins σ H s) : ∀ (d : PyData) (v : V) (u : Value), Da X.K H v d → RelV v u → d.showable = true → d.shown.length ≤ sizeLine → Rk X.prog X.w s.heap u d
  | .none, _, _, h, r, _, _ => by
    cases h
    cases r
    exact ⟨⟨_, Reads.none⟩, [], (fun _ z => nomatch z), by simp only [PyData.shown]; exact .of_is ReprIs.none _ _ _⟩
  | .bool b, _, _, h, r, _, _ => by
    cases h
    cases r
    exact ⟨⟨_, Reads.bool b⟩, [], (fun _ z => nomatch z), by simp only [PyData.shown]; exact .of_is (ReprIs.bool b) _ _ _⟩
  | .int i, _, _, h, r, hs, _ => by
    cases h
    obtain ⟨t, rfl⟩ := r
    exact ⟨⟨_, Reads.int i t⟩, [], (fun _ z => nomatch z), by simp only [PyData.shown]; exact .of_is (ReprIs.int t (by simpa [PyData.showable] using hs)) _ _ _⟩
  | .str x, _, _, h, r, _, hz => by
    cases h
    obtain ⟨t, rfl⟩ := r
    exact ⟨⟨_, Reads.str x t⟩, [], (fun _ z => nomatch z), by simp only [PyData.shown]; exact .of_is (ReprIs.str x t (by simpa only [PyData.shown] using hz)) _ _ _⟩
  | .list ds, _, _, h, r, hs, hz => by
    cases h with
    | lst hq ha =>
      cases r
      obtain ⟨its, rv, ⟨o, n, ho, hc, _, hd⟩, _⟩ := I.list hq
      have hz' : (listText (PyData.shownAll ds)).length ≤ sizeLine := by simpa only [PyData.shown] using hz
      obtain ⟨⟨as, hr⟩, bs, hb, hk⟩ := rkL_of I ds _ its ha rv (by simpa only [PyData.showable] using hs) (fun t ht => Nat.le_trans (listText_mem_le ht) hz')
      have rr := Reads.list ho hc hd hr
      refine ⟨⟨_, rr⟩, _ :: bs, ReadAtMost.cons rr (by simp only [PyData.depth]; omega) hb, ?_⟩
      have hna := not_mem_of_deeper rr (n := PyData.depthAll ds) (by simp only [PyData.depth]; omega) hb
      simp only [PyData.depth, PyData.shown]
      cases its with
      | nil =>
        cases hr
        simp only [PyData.shownAll, listText_nil]
        exact ReprK.listEmpty ho hc hd
      | cons x l => exact ReprK.list ho hc hd hna (by simpa using hk.length_eq) (fun i y e => hk.item i y (by simpa using e))
  | .tuple ds, _, _, h, r, hs, hz => by
    cases h with
    | tup hq ha =>
      cases r
      obtain ⟨its, rv, ⟨o, ho, hc, n, hd⟩, _⟩ := I.tuple hq
      have hz' : (tupleText (PyData.shownAll ds)).length ≤ sizeLine := by simpa only [PyData.shown] using hz
      obtain ⟨⟨as, hr⟩, bs, hb, hk⟩ := rkL_of I ds _ its ha rv (by simpa only [PyData.showable] using hs) (fun t ht => Nat.le_trans (tupleText_mem_le ht) hz')
      have rr := Reads.tuple ho hc hd hr
      refine ⟨⟨_, rr⟩, _ :: bs, ReadAtMost.cons rr (by simp only [PyData.depth]; omega) hb, ?_⟩
      have hna := not_mem_of_deeper rr (n := PyData.depthAll ds) (by simp only [PyData.depth]; omega) hb
      simp only [PyData.depth, PyData.shown]
      exact ReprK.tuple ho hc hd hna hk
  | .dict es, _, _, h, r, hs, hz => by
    cases h with
    | @dct a kvs _ hq ha =>
      cases r
      obtain ⟨_, hsy, vs, rv, o, ents, ep, ho, hc, hd, _, pr, _⟩ := (show ObjOk X.prog X.w H s.heap a (.dK kvs) from I.hok a _ hq)
      have hz' : (dictText (PyData.shownKv es)).length ≤ sizeLine := by simpa only [PyData.shown] using hz
      obtain ⟨⟨as, hrk⟩, ⟨as', hrv⟩, bs, hb, hk⟩ := rkE_of I es kvs vs ents.toList ha rv pr (by simpa only [PyData.showable] using hs) (fun t ht => Nat.le_trans (dictText_mem_le ht) hz')
      have rr := Reads.dict ho hc.1 hd hrk hrv
      refine ⟨⟨_, rr⟩, _ :: bs, ReadAtMost.cons rr (by simp only [PyData.depth]; omega) hb, ?_⟩
      have hna := not_mem_of_deeper rr (n := PyData.depthKv es) (by simp only [PyData.depth]; omega) hb
      simp only [PyData.depth, PyData.shown]
      exact ReprK.dict ho hc.1 hd hsy hna hk
theorem rkL_of (I : Inv X pins σ H s) : ∀ (ds : List PyData) (vs : List V) (us : List Value), DaL X.K H vs ds → Vals vs us → PyData.showableAll ds = true → (∀ t ∈ PyData.shownAll ds, t.length ≤ sizeLine) → RkL X.prog X.w s.heap us ds
  | [], _, _, h, r, _, _ => by
    cases h
    cases r
    exact ⟨⟨_, ReadsAll.nil⟩, [], (fun _ z => nomatch z), by simp only [PyData.shownAll]; exact .nil⟩
  | d :: ds, _, _, h, r, hs, hz => by
    cases h with
    | cons h1 h2 =>
      cases r with
      | cons r1 r2 =>
        have hs' : d.showable = true ∧ PyData.showableAll ds = true := by simpa only [PyData.showableAll, Bool.and_eq_true] using hs
        simp only [PyData.shownAll, List.mem_cons] at hz
        obtain ⟨⟨as, ra⟩, b1, hb1, k1⟩ := rk_of I d _ _ h1 r1 hs'.1 (hz _ (Or.inl rfl))
        obtain ⟨⟨bs, rb⟩, b2, hb2, k2⟩ := rkL_of I ds _ _ h2 r2 hs'.2 fun t ht => hz t (Or.inr ht)
        refine ⟨⟨_, ReadsAll.cons ra rb⟩, b1 ++ b2, ?_, ?_⟩
        · simp only [PyData.depthAll]
          exact (hb1.mono (Nat.le_max_left _ _)).append (hb2.mono (Nat.le_max_right _ _))
        · simp only [PyData.depthAll, PyData.shownAll]
          exact .cons ((k1.more fun b hb => List.mem_append_left _ hb).level_le (Nat.le_max_left _ _)) (k2.more_le (fun b hb => List.mem_append_right _ hb) (Nat.le_max_right _ _))
theorem rkE_of (I : Inv X pins σ H s) : ∀ (es : List (PyData × PyData)) (kvs : List (Key × V)) (vs : List (Key × Value)) (ents : List DictEntry), DaE X.K H kvs es → KV kvs vs → Pairs (mixKind X.prog X.w) ents vs → PyData.showableKv es = true →
    (∀ t ∈ PyData.shownKv es, t.length ≤ sizeLine) → RkE X.prog X.w s.heap ents es
  | [], _, _, _, h, r, p, _, _ => by
    cases h
    cases r
    cases p
    exact ⟨⟨_, ReadsAll.nil⟩, ⟨_, ReadsAll.nil⟩, [], (fun _ z => nomatch z), by simp only [PyData.shownKv]; exact .nil⟩
  | (k, d) :: es, _, _, _, h, r, p, hs, hz => by
    cases h with
    | @cons ky v kvs' _ _ h1 h2 =>
      cases r with
      | @cons _ q _ qs r1 r2 =>
        obtain ⟨kq, uq⟩ := q
        cases p with
        | @cons en _ ens _ p1 p2 p3 =>
          have hs' : ((kD ky).showable = true ∧ d.showable = true) ∧ PyData.showableKv es = true := by simpa only [PyData.showableKv, Bool.and_eq_true] using hs
          simp only [PyData.shownKv, List.mem_cons] at hz
          have hz0 := hz _ (Or.inl rfl)
          rw [strLen_append, strLen_append] at hz0
          have e1 : ky = kq := r1.1
          have p1' : (mixKind X.prog X.w).is ky en.key = true := by rw [e1]; exact p1
          have p2' : en.val = uq := p2
          obtain ⟨ka, kb⟩ := key_read p1' s.heap hs'.1.1 (by omega)
          obtain ⟨⟨as, ra⟩, b1, hb1, k1⟩ := rk_of I d v uq h1 r1.2 hs'.1.2 (by omega)
          obtain ⟨⟨as2, ra2⟩, ⟨as3, ra3⟩, b2, hb2, k2⟩ := rkE_of I es _ _ ens h2 r2 p3 hs'.2 fun t ht => hz t (Or.inr ht)
          refine ⟨⟨_, ReadsAll.cons ka ra2⟩, ⟨_, ReadsAll.cons (show Reads s.heap en.val d as by rw [p2']; exact ra) ra3⟩, b1 ++ b2, ?_, ?_⟩
          · simp only [PyData.depthKv]
            exact (hb1.mono (by omega)).append (hb2.mono (by omega))
          · simp only [PyData.depthKv, PyData.shownKv]
            refine .cons (.of_is kb _ _ _) ?_ (reK_more (fun b hb => List.mem_append_right _ hb) (by omega) k2)
            rw [p2']
            exact (k1.more fun b hb => List.mem_append_left _ hb).level_le (by omega)
end
/-- repr(x) -/
def rRepr (K : PySem.W.Frag) : List V → Hp → VK → Prop := fun xs H Q => ∃ v d, xs = [v] ∧ Da K H v d ∧ d.showable = true ∧ d.depth ≤ 60 ∧ d.shown.length ≤ sizeLine ∧ Q (.str d.shown) H
theorem call_repr (hgu : X.A.guards = some []) (hu : X.A.units + 64 < cLine) : CallR X (.builtin "repr") (rRepr X.K) := by
  intro pins s σ H xs us Q I r h
  obtain ⟨v, d, rfl, hD, hs, hdp, hz, q⟩ := h
  obtain ⟨u, rfl, rv⟩ := vals1 r
  have fin : ∀ (h' : Heap) (t : Tok) (tk : Nat), (∀ b o, s.heap.get? b = some o → h'.get? b = some o) → EP X pins σ Q (.str d.shown t) { s with heap := h', toks := tk } := fun h' t tk k => ⟨.str d.shown, H, I.kept (t' := tk) k, ⟨_, rfl⟩, q⟩
  have fin0 : ∀ (t : Tok) (tk : Nat), EP X pins σ Q (.str d.shown t) { s with toks := tk } := fun t tk => ⟨.str d.shown, H, I.tok tk, ⟨_, rfl⟩, q⟩
  cases d with
  | none =>
    cases hD
    cases rv
    have f := fin0 s.toks (s.toks + 1)
    simp only [PyData.shown] at f
    exact PySem.P.repr_of_none f
  | bool b =>
    cases hD
    cases rv
    have f := fin0 s.toks (s.toks + 1)
    simp only [PyData.shown] at f
    exact PySem.P.repr_of_bool f
  | int i =>
    cases hD
    obtain ⟨t, rfl⟩ := rv
    have f := fin0 s.toks (s.toks + 1)
    simp only [PyData.shown] at f
    exact PySem.P.repr_of_int (by simpa [PyData.showable] using hs) f
  | str x =>
    cases hD
    obtain ⟨t, rfl⟩ := rv
    have f := fin0 s.toks (s.toks + 1)
    simp only [PyData.shown] at f
    exact PySem.P.repr_of_str f (by simpa only [PyData.shown] using hz)
  | list ds =>
    cases hD with
    | lst hq ha =>
      cases rv
      obtain ⟨its, rv, ⟨o, n, ho, hc, _, hd⟩, _⟩ := I.list hq
      have hz' : (listText (PyData.shownAll ds)).length ≤ sizeLine := by simpa only [PyData.shown] using hz
      obtain ⟨⟨as, hr⟩, bs, hb, hk⟩ := rkL_of I ds _ its ha rv (by simpa only [PyData.showable] using hs) (fun t ht => Nat.le_trans (listText_mem_le ht) hz')
      have rr := Reads.list ho hc hd hr
      have hna := not_mem_of_deeper rr (n := PyData.depthAll ds) (by simp only [PyData.depth]; omega) hb
      simp only [PyData.depth] at hdp
      simp only [PyData.shown] at fin
      refine call_repr_slot (by omega) ⟨o, ho, hc⟩ F.slot_list_repr.toG ?_
      cases its with
      | nil =>
        cases hr
        simp only [PyData.shownAll, listText_nil] at fin
        exact call_list_repr_empty ⟨o, ho, hc⟩ ho hd ⟨_, _, rfl, fin s.heap _ _ fun _ _ e => e⟩
      | cons x l =>
        exact call_list_reprK ho hc hd hna (by simpa using hk.length_eq) (fun i y e => hk.item i y (by simpa using e)) hgu (fun b _ => Clear.nil b) (by show X.A.units + 1 + _ < cLine; omega) (fun _ _ e => e) (fun h' u tk k => ⟨_, _, rfl, fin h' u tk k⟩) hz'
  | tuple ds =>
    cases hD with
    | tup hq ha =>
      cases rv
      obtain ⟨its, rv, ⟨o, ho, hc, n, hd⟩, _⟩ := I.tuple hq
      have hz' : (tupleText (PyData.shownAll ds)).length ≤ sizeLine := by simpa only [PyData.shown] using hz
      obtain ⟨⟨as, hr⟩, bs, hb, hk⟩ := rkL_of I ds _ its ha rv (by simpa only [PyData.showable] using hs) (fun t ht => Nat.le_trans (tupleText_mem_le ht) hz')
      have rr := Reads.tuple ho hc hd hr
      have hna := not_mem_of_deeper rr (n := PyData.depthAll ds) (by simp only [PyData.depth]; omega) hb
      simp only [PyData.depth] at hdp
      simp only [PyData.shown] at fin
      refine call_repr_slot (by omega) ⟨o, ho, hc⟩ F.slot_tuple_repr ?_
      exact call_tuple_reprK ho hc hd hna hk hgu (fun b _ => Clear.nil b) (by show X.A.units + 1 + _ < cLine; omega) (fun _ _ e => e) (fun h' u tk k => ⟨_, _, rfl, fin h' u tk k⟩) hz'
  | dict es =>
    cases hD with
    | @dct a kvs _ hq ha =>
      cases rv
      obtain ⟨_, hsy, vs, rv, o, ents, ep, ho, hc, hd, _, pr, _⟩ := (show ObjOk X.prog X.w H s.heap a (.dK kvs) from I.hok a _ hq)
      have hz' : (dictText (PyData.shownKv es)).length ≤ sizeLine := by simpa only [PyData.shown] using hz
      obtain ⟨⟨as, hrk⟩, ⟨as', hrv⟩, bs, hb, hk⟩ := rkE_of I es kvs vs ents.toList ha rv pr (by simpa only [PyData.showable] using hs) (fun t ht => Nat.le_trans (dictText_mem_le ht) hz')
      have rr := Reads.dict ho hc.1 hd hrk hrv
      have hna := not_mem_of_deeper rr (n := PyData.depthKv es) (by simp only [PyData.depth]; omega) hb
      simp only [PyData.depth] at hdp
      simp only [PyData.shown] at fin
      refine call_repr_slot (by omega) ⟨o, ho, hc.1⟩ F.slot_dict_repr ?_
      exact call_dict_reprK ho hc.1 hd hsy hna hk hgu (fun b _ => Clear.nil b) (by show X.A.units + 1 + _ < cLine; omega) (fun _ _ e => e) (fun h' u tk k => ⟨_, _, rfl, fin h' u tk k⟩) hz'
end
end G

/-! ## G3: defs of the text as callable things; the bag of draws -/
namespace G
open PySem PySem.Spec PyProof.Rows L2
/-- at f stands the def fd -/
def Has (K : PySem.W.Frag) (f : Addr) (fd : FuncData) : Prop := ∃ o, K.lookup f = some o ∧ o.data = .func fd
theorem has_of {K : PySem.W.Frag} {x q : Str} {st : Stmt} {f : Addr} {fd : FuncData} (F : Fun K x q st f fd) : Has K f fd := by
  obtain ⟨oc, od, kV, doc, pm, an, cdv, ct, osl, rfl, lk, hcd⟩ := F.ex
  exact ⟨_, lk, rfl⟩
theorem Has.uniq {K : PySem.W.Frag} {f : Addr} {fd fd' : FuncData} (h : Has K f fd) (h' : Has K f fd') : fd = fd' := by
  obtain ⟨o, a, b⟩ := h
  obtain ⟨o', a', b'⟩ := h'
  rw [a] at a'
  cases a'
  rw [b] at b'
  cases b'
  rfl
/-- the def st stands under the name x of the module -/
def Def (K : PySem.W.Frag) (mg : Str → Option Value) (x : Str) (st : Stmt) (ps : List Str) : Prop := ∃ f fd, Fun K x x st f fd ∧ mg x = some (.ref f) ∧ Binds K fd ps []
/-- what stands under the name x keeps the promise -/
def Cal (P : Program) (w : World) (K : PySem.W.Frag) (mg : Str → Option Value) (base : Heap) (cx : CXT) (k : Nat) (x : Str) (ps : List Str) (sp : Sp) : Prop :=
  ∃ f fd, FnOk P w K mg base cx k f fd ps sp ∧ mg x = some (.ref f) ∧ PySem.W.keepIn K (.ref f) = true ∧ Binds K fd ps [] ∧ Has K f fd
def CalG (P : Program) (w : World) (K : PySem.W.Frag) (mg : Str → Option Value) (base : Heap) (cx : CXT) (k : Nat) (x : Str) (ps : List Str) (sp : Sp) : Prop :=
  ∃ f fd, FnG P w K mg base cx k f fd ps sp ∧ mg x = some (.ref f) ∧ PySem.W.keepIn K (.ref f) = true ∧ Binds K fd ps [] ∧ Has K f fd
section
variable {P : Program} {w : World} {K : PySem.W.Frag} {mg : Str → Option Value} {base : Heap} {cx : CXT} {k : Nat} {x : Str} {ps N : List Str} {sp : Sp} {st : Stmt}
theorem Cal.up {j : Nat} (c : Cal P w K mg base cx j x ps sp) (h : j ≤ k) : Cal P w K mg base cx k x ps sp := let ⟨f, fd, F, r⟩ := c; ⟨f, fd, F.mono h, r⟩
theorem CalG.up {j : Nat} (c : CalG P w K mg base cx j x ps sp) (h : j ≤ k) : CalG P w K mg base cx k x ps sp := let ⟨f, fd, F, r⟩ := c; ⟨f, fd, F.up h, r⟩
theorem Cal.g (c : Cal P w K mg base cx k x ps sp) : CalG P w K mg base cx k x ps sp := let ⟨f, fd, F, r⟩ := c; ⟨f, fd, FnG.of F, r⟩
theorem Def.ok (D : Def K mg x st ps) (S : FnScope N ps (defScope st)) (ln : ∀ vs H Q E, sp vs H Q E → vs.length = ps.length)
    (bd : ∀ (f : Addr) (cdv : Value) (A : Around) (out : List Env) (s : Shared) (H : Hp) (vs : List V) (Q : VK) (E : XK), Room k (A.deeper (envOfC x (defScope st) s.heap.objs.size f cdv)) → sp vs H Q E →
      ∃ t, PSs (cxOf CX0 P w K mg base N x (defScope st) f cdv A out s H E).nox (defBody st) t ∧ t { nx := fun _ H' => Q .non H', rt := Q } (start N vs) H) : Cal P w K mg base CX0 (k + 1) x ps sp := by
  obtain ⟨f, fd, F, m, b⟩ := D
  exact ⟨f, fd, F.ok S ln fun cdv A out s H vs Q E hr h => bd f cdv A out s H vs Q E hr h, m, F.kp, b, has_of F⟩
theorem Def.okX (D : Def K mg x st ps) (S : FnScope N ps (defScope st)) (ln : ∀ vs H Q E, sp vs H Q E → vs.length = ps.length)
    (bd : ∀ (f : Addr) (cdv : Value) (A : Around) (out : List Env) (s : Shared) (H : Hp) (vs : List V) (Q : VK) (E : XK), Room k (A.deeper (envOfC x (defScope st) s.heap.objs.size f cdv)) → sp vs H Q E →
      ∃ t, PSs (cxOf (L2.CX P w) P w K mg base N x (defScope st) f cdv A out s H E) (defBody st) t ∧ t { nx := fun _ H' => Q .non H', rt := Q } (start N vs) H) : Cal P w K mg base (L2.CX P w) (k + 1) x ps sp := by
  obtain ⟨f, fd, F, m, b⟩ := D
  exact ⟨f, fd, F.okX S ln fun cdv A out s H vs Q E hr h => bd f cdv A out s H vs Q E hr h, m, F.kp, b, has_of F⟩
theorem Def.okG (D : Def K mg x st ps) (S : FnScope N ps (defScope st)) (ln : ∀ vs H Q E, sp vs H Q E → vs.length = ps.length)
    (bd : ∀ (f : Addr) (cdv : Value) (A : Around) (out : List Env) (s : Shared) (H : Hp) (vs : List V) (Q : VK) (E : XK), A.guards = some [] → Room k (A.deeper (envOfC x (defScope st) s.heap.objs.size f cdv)) → sp vs H Q E →
      ∃ t, PSs (cxOf CX0 P w K mg base N x (defScope st) f cdv A out s H E).nox (defBody st) t ∧ t { nx := fun _ H' => Q .non H', rt := Q } (start N vs) H) : CalG P w K mg base CX0 (k + 1) x ps sp := by
  obtain ⟨f, fd, F, m, b⟩ := D
  exact ⟨f, fd, G.okG F S ln fun cdv A out s H vs Q E hg hr h => bd f cdv A out s H vs Q E hg hr h, m, F.kp, b, has_of F⟩
end
/-- from what the head has written out -/
theorem def_mk {K : PySem.W.Frag} {mg : Str → Option Value} {h : Heap} {x : Str} {st : Stmt} {ps : List Str} {f : Addr} {oc : Value} {od an : Option Addr} {osl : Array (Option Value)} {kV doc pm cdv ct : Value} (X : K.In h) (G : h.Ns mainGlobals mg)
    (a : PySem.W.nsIn K mainGlobals x = some (some (.ref f))) (l : K.lookup f = some ⟨oc, od, .func (PySem.W.fnOf x x (defArgs st) (defBody st) (defScope st) .none kV doc pm an cdv ct), osl⟩) (c : PySem.W.codeIn K cdv x = true) (k : PySem.W.keepIn K (.ref f) = true)
    (hb : ∀ (kV doc pm : Value) (an : Option Addr) (cdv ct : Value) (us : List Value), us.length = ps.length → bindArgs (PySem.W.fnOf x x (defArgs st) (defBody st) (defScope st) .none kV doc pm an cdv ct) ⟨us, []⟩ = pure (ps.zip us)) : Def K mg x st ps :=
  have F := fun_mk (st := st) l c k
  ⟨f, _, F, PySem.W.mg_of X G a, F.binds hb⟩
/-- the law's def, as its end wants it -/
theorem law_end {P : Program} {w : World} {K : PySem.W.Frag} {mg : Str → Option Value} {x p : Str} {st : Stmt} {k : Nat} {sp : Sp} {fa : Addr} {cx : CXT} (D : Def K mg x st [p]) (hfa : mg x = some (.ref fa))
    (hb : ∀ (kV doc pm : Value) (an : Option Addr) (cdv ct v : Value), bindArgs (PySem.W.fnOf x x (defArgs st) (defBody st) (defScope st) .none kV doc pm an cdv ct) ⟨[v], []⟩ = pure [(p, v)]) (F : ∀ base : Heap, K.In base → base.Ns mainGlobals mg → CalG P w K mg base cx k x [p] sp) :
    ∃ fd : FuncData, (∀ (s : Shared) (v : Value), BindsTo s fd ⟨[v], []⟩ [(p, v)]) ∧ ∀ base : Heap, K.In base → base.Ns mainGlobals mg → FnG P w K mg base cx k fa fd [p] sp := by
  obtain ⟨f, fd, fn, m, b⟩ := D
  rw [hfa] at m
  cases m
  refine ⟨fd, fun s v => ?_, fun base kb nb => ?_⟩
  · obtain ⟨oc, od, kV, doc, pm, an, cdv, ct, osl, rfl, lk, hcd⟩ := fn.ex
    exact .of_eq (hb kV doc pm an cdv ct v)
  obtain ⟨f', fd', G', m', _, _, hs⟩ := F base kb nb
  rw [hfa] at m'
  cases m'
  have e := hs.uniq (has_of fn)
  subst e
  exact G'
section
variable {X : Cx} {cx : CXT} {k : Nat} {ps : List Str} {sp : Sp} {E : XK} {x : Str} {p pos : Pos} {e : Expr} {es : List Expr} {t : TA}
theorem pe_c (c : Cal X.prog X.w X.K X.mg X.base cx k x ps sp) (hr : Room k X.A) (hx : Passes cx X E) (ha : PA X (e :: es) t) (hg : Gl X x := by rfl) (hdb : (x == ("__debug__" : Str)) = false := by decide)
    (he : starEach (e :: es) X.env = (false, eval e X.env) :: starEach es X.env := by rfl) (hpl : (backTo pos (starEach es X.env)).any (·.1) = false := by rfl) : PE X (.Call (.Name x p) (e :: es) [] pos) (tCall sp [] E t) := by
  obtain ⟨f, fd, F, m, kp, b, _⟩ := c
  exact pe_call F hr hg m kp b .nil hx ha hdb he hpl
theorem pe_cG (c : CalG X.prog X.w X.K X.mg X.base cx k x ps sp) (hgu : X.A.guards = some []) (hr : Room k X.A) (hx : Passes cx X E) (ha : PA X (e :: es) t) (hg : Gl X x := by rfl) (hdb : (x == ("__debug__" : Str)) = false := by decide)
    (he : starEach (e :: es) X.env = (false, eval e X.env) :: starEach es X.env := by rfl) (hpl : (backTo pos (starEach es X.env)).any (·.1) = false := by rfl) : PE X (.Call (.Name x p) (e :: es) [] pos) (tCall sp [] E t) := by
  obtain ⟨f, fd, F, m, kp, b, _⟩ := c
  exact pe_callG F hgu hr hg m kp b .nil hx ha hdb he hpl
/-- a built-in class by its name, as a value -/
theorem pe_ty {n : String} (hm : X.mg x = none) (hv : bootBuiltins x = some (.type n)) (hg : Gl X x := by rfl) (hn : x ≠ "__name__" := by decide) (hd : (x == ("__debug__" : Str)) = false := by decide) : PE X (.Name x pos) (tC (.ty n)) :=
  pe_bltn hg hm hv rfl hn hd
/-- a module's int -/
theorem pe_gi {i : Int} {tk : Tok} (hm : X.mg x = some (.int i tk)) (hg : Gl X x := by rfl) (hd : (x == ("__debug__" : Str)) = false := by decide) : PE X (.Name x pos) (tC (.int i)) := pe_glob hg hm ⟨_, rfl⟩ hd
/-- o[i] op= e of a list, i not negative: the read -/
def rGetN (K : PySem.W.Frag) : V → V → Hp → VK → Prop := fun o i H Q => ∃ (q : Addr) (xs : List V) (n : Nat) (v : V), o = .ref q ∧ i = .int (n : Int) ∧ SqL K H q xs ∧ xs[n]? = some v ∧ Q v H
theorem get_list : PGet X (rGetN X.K) := by
  intro pins s σ H o i ov iv Q I ro ri h
  obtain ⟨q, xs, n, z, rfl, rfl, hq, he, q⟩ := h
  cases ro
  obtain ⟨t, rfl⟩ := ri
  obtain ⟨its, r, pl, hz⟩ := I.list hq
  obtain ⟨u, eu, ru⟩ := r.get he
  have hn := line63
  have hlt := (List.getElem?_eq_some_iff.mp he).1
  exact wpAny_getItem_list pl.isList (by omega) (by omega) (by simpa using eu) ⟨z, H, I, ru, q⟩
end
/-- the built-in names that the module has not bound -/
structure Blt (mg : Str → Option Value) : Prop where
  len : mg "len" = Option.none
  isinstance : mg "isinstance" = Option.none
  int : mg "int" = Option.none
  bool : mg "bool" = Option.none
  list : mg "list" = Option.none
  tuple : mg "tuple" = Option.none
  str : mg "str" = Option.none
  all : mg "all" = Option.none
  any : mg "any" = Option.none
  zip : mg "zip" = Option.none
  range : mg "range" = Option.none
  abs : mg "abs" = Option.none
  repr : mg "repr" = Option.none
  min : mg "min" = Option.none
  max : mg "max" = Option.none
  sum : mg "sum" = Option.none
  sorted : mg "sorted" = Option.none
  enumerate : mg "enumerate" = Option.none
  reversed : mg "reversed" = Option.none
  set : mg "set" = Option.none
  dict : mg "dict" = Option.none
  ValueError : mg "ValueError" = Option.none
/-! ### rules with the written part as a letter (within comprehensions the context hangs on bound names) -/
section
variable (K : PySem.W.Frag) {X : Cx}
theorem kixL (h : X.K = K := by rfl) : IxR X (rIxL K) := by subst h; exact ix_list
theorem kixT (h : X.K = K := by rfl) : IxR X (rIxT K) := by subst h; exact ix_tup
theorem kixS (h : X.K = K := by rfl) : IxR X (rIx K) := by subst h; exact ix_seq
theorem kslL (h : X.K = K := by rfl) : SlR X (rSlL K) := by subst h; exact sl_list
theorem kslT (h : X.K = K := by rfl) : SlR X (rSlA K) := by subst h; exact sl_tupA
theorem kisi (h : X.K = K := by rfl) : CallR X (.builtin "isinstance") (rIsi K) := by subst h; exact call_isi
theorem klen (h : X.K = K := by rfl) : CallR X (.builtin "len") (fun xs H Q => ∃ x n, xs = [x] ∧ LenV K x H n ∧ Q (.int n) H) := by subst h; exact call_len
theorem kall (hc : X.calm = true := by rfl) (h : X.K = K := by rfl) : CallR X (.builtin "all") (rAll K) := by subst h; exact cr_all hc
theorem kany (hc : X.calm = true := by rfl) (h : X.K = K := by rfl) : CallR X (.builtin "any") (rAny K) := by subst h; exact cr_any hc
theorem ksum (hc : X.calm = true := by rfl) (h : X.K = K := by rfl) : CallR X (.builtin "sum") (rSum K) := by subst h; exact cr_sum hc
theorem krepr (hgu : X.A.guards = some []) (hu : X.A.units + 64 < cLine) (h : X.K = K := by rfl) : CallR X (.builtin "repr") (rRepr K) := by subst h; exact call_repr hgu hu
theorem keq (hu : X.A.units + 64 < cLine) (h : X.K = K := by rfl) : OpR X (compareOp .Eq) (rEqD K) := by subst h; exact op_eqD hu
theorem kne (hu : X.A.units + 64 < cLine) (h : X.K = K := by rfl) : OpR X (compareOp .NotEq) (rNeD K) := by subst h; exact op_neD hu
theorem kin (h : X.K = K := by rfl) : OpR X (compareOp .In) (rIn K false) := by subst h; exact op_in_seq
theorem knin (h : X.K = K := by rfl) : OpR X (compareOp .NotIn) (rIn K true) := by subst h; exact op_notIn_seq
theorem ktup (h : X.K = K := by rfl) : CallR X (.type "tuple") (fun xs H Q => ∃ p ys, xs = [.ref p] ∧ ((SqL K H p ys ∧ ∀ l, H l = none → Q (.ref l) (upd H l (.tup ys))) ∨ (SqT K H p ys ∧ Q (.ref p) H))) := by subst h; exact call_tuple_of
theorem klist (h : X.K = K := by rfl) : CallR X (.type "list") (fun xs H Q => ∃ p ys, xs = [.ref p] ∧ (SqL K H p ys ∨ SqT K H p ys) ∧ ∀ l, H l = none → Q (.ref l) (upd H l (.lst ys))) := by subst h; exact call_list_of
end
/-! ### the bag -/
/-- H without what stands at b -/
def hid (b : Addr) (H : Hp) : Hp := fun a => if a = b then none else H a
theorem hid_at {b : Addr} {H : Hp} : hid b H b = none := if_pos rfl
theorem hid_ne {b a : Addr} {H : Hp} (h : a ≠ b) : hid b H a = H a := if_neg h
theorem hid_le {b : Addr} {H : Hp} : Same (hid b H) H := fun a o e => by
  by_cases h : a = b
  · subst h; rw [hid_at] at e; cases e
  · rw [hid_ne h] at e; exact e
theorem hid_same {b : Addr} {H H' : Hp} (s : Same H H') : Same (hid b H) (hid b H') := fun a o e => by
  by_cases h : a = b
  · subst h; rw [hid_at] at e; cases e
  · rw [hid_ne h] at e ⊢; exact s _ _ e
theorem hid_upd {b : Addr} {H : Hp} {o : HO} : hid b (upd H b o) = hid b H := by
  funext a
  by_cases h : a = b
  · subst h; rw [hid_at, hid_at]
  · rw [hid_ne h, hid_ne h, upd_ne h]
theorem same_new {H : Hp} {p : Addr} {o : HO} (h : H p = none) : Same H (upd H p o) := fun a u e => by
  rw [upd_ne (ne_of_none e h)]
  exact e
/-- at b stands a bag, its cells at c -/
def BagC (b c : Addr) (H : Hp) : Prop := ∃ (a s k : Int) (cs : List Int), H b = some (.lst [.int a, .int s, .int k, .ref c]) ∧ H c = some (.lst (cs.map V.int)) ∧ c ≠ b ∧ 0 ≤ a ∧ (∀ z ∈ cs, 0 ≤ z) ∧ 0 ≤ s ∧ s < 2147483647 ∧ 0 ≤ k
def BagOk (b : Addr) (H : Hp) : Prop := ∃ c, BagC b c H
/-- on from H to H': the bag at b, with the same cells, all else kept -/
structure Go (b : Addr) (H H' : Hp) : Prop where
  bg : ∃ c, BagC b c H ∧ BagC b c H'
  sm : Same (hid b H) (hid b H')
theorem Go.bag {b : Addr} {H H' : Hp} (g : Go b H H') : BagOk b H' := let ⟨c, _, h⟩ := g.bg; ⟨c, h⟩
theorem BagC.up {b c : Addr} {H H' : Hp} (h : BagC b c H) (s : Same H H') : BagC b c H' := by
  obtain ⟨a, z, k, cs, h1, h2, r⟩ := h
  exact ⟨a, z, k, cs, s _ _ h1, s _ _ h2, r⟩
theorem BagC.uniq {b c c' : Addr} {H : Hp} (h : BagC b c H) (h' : BagC b c' H) : c = c' := by
  obtain ⟨a, z, k, cs, h1, _⟩ := h
  obtain ⟨a', z', k', cs', h1', _⟩ := h'
  rw [h1] at h1'
  cases h1'
  rfl
theorem BagOk.up {b : Addr} {H H' : Hp} (h : BagOk b H) (s : Same H H') : BagOk b H' := let ⟨c, q⟩ := h; ⟨c, q.up s⟩
theorem BagOk.ne {b p : Addr} {H : Hp} (h : BagOk b H) (e : H p = none) : p ≠ b := by
  obtain ⟨c, a, z, k, cs, h1, _⟩ := h
  exact fun q => by rw [q, h1] at e; cases e
theorem Go.refl {b : Addr} {H : Hp} (h : BagOk b H) : Go b H H := let ⟨c, q⟩ := h; ⟨⟨c, q, q⟩, Same.refl _⟩
theorem Go.of {b : Addr} {H H' : Hp} (h : BagOk b H) (s : Same H H') : Go b H H' := let ⟨c, q⟩ := h; ⟨⟨c, q, q.up s⟩, hid_same s⟩
theorem Go.trans {b : Addr} {H H1 H2 : Hp} (x : Go b H H1) (y : Go b H1 H2) : Go b H H2 := by
  obtain ⟨c, c1, c2⟩ := x.bg
  obtain ⟨d, d1, d2⟩ := y.bg
  have e := c2.uniq d1
  subst e
  exact ⟨⟨c, c1, d2⟩, x.sm.trans y.sm⟩
/-- a thing that H does not know may be changed -/
theorem Go.mut {b L : Addr} {o : HO} {H H' : Hp} (x : Go b H H') (h : H L = none) : Go b H (upd H' L o) := by
  obtain ⟨c, c1, c2⟩ := x.bg
  refine ⟨⟨c, c1, ?_⟩, fun a u e => ?_⟩
  · obtain ⟨a, z, k, cs, h1, h2, _⟩ := c1
    obtain ⟨a', z', k', cs', h1', h2', r⟩ := c2
    exact ⟨a', z', k', cs', by rw [upd_ne (ne_of_none h1 h)]; exact h1', by rw [upd_ne (ne_of_none h2 h)]; exact h2', r⟩
  · by_cases hb : a = b
    · subst hb; rw [hid_at] at e; cases e
    · have q := x.sm a u e
      rw [hid_ne hb] at e q ⊢
      rw [upd_ne (ne_of_none e h)]
      exact q
theorem Go.then {b : Addr} {H H1 H2 : Hp} (x : Go b H H1) (y : Same H1 H2) : Go b H H2 := x.trans (.of x.bag y)
theorem Go.new {b p : Addr} {o : HO} {H H1 : Hp} (x : Go b H H1) (h : H1 p = none) : Go b H (upd H1 p o) := x.then (same_new h)
theorem Go.da {K : PySem.W.Frag} {b : Addr} {H H' : Hp} {v : V} {d : PyData} (g : Go b H H') (h : Da K (hid b H) v d) : Da K (hid b H') v d := h.mono g.sm
theorem Go.dal {K : PySem.W.Frag} {b : Addr} {H H' : Hp} {v : List V} {d : List PyData} (g : Go b H H') (h : DaL K (hid b H) v d) : DaL K (hid b H') v d := h.mono g.sm
theorem da_of {K : PySem.W.Frag} {b : Addr} {H : Hp} {v : V} {d : PyData} (h : Da K (hid b H) v d) : Da K H v d := h.mono hid_le
theorem dal_of {K : PySem.W.Frag} {b : Addr} {H : Hp} {v : List V} {d : List PyData} (h : DaL K (hid b H) v d) : DaL K H v d := h.mono hid_le
/-- a new list, a new tuple of such data -/
theorem da_newL {K : PySem.W.Frag} {b p : Addr} {H : Hp} {vs : List V} {ds : List PyData} (hb : BagOk b H) (h : DaL K (hid b H) vs ds) (hp : H p = none) : Da K (hid b (upd H p (.lst vs))) (.ref p) (.list ds) :=
  .lst (.inl (.inl (by rw [hid_ne (hb.ne hp)]; exact upd_same))) (h.mono (hid_same (same_new hp)))
theorem da_newT {K : PySem.W.Frag} {b p : Addr} {H : Hp} {vs : List V} {ds : List PyData} (hb : BagOk b H) (h : DaL K (hid b H) vs ds) (hp : H p = none) : Da K (hid b (upd H p (.tup vs))) (.ref p) (.tuple ds) :=
  .tup (.inl (.inl (by rw [hid_ne (hb.ne hp)]; exact upd_same))) (h.mono (hid_same (same_new hp)))
theorem daL {K : PySem.W.Frag} {p : Addr} {H : Hp} {vs : List V} {ds : List PyData} (h : DaL K H vs ds) (hp : H p = none) : Da K (upd H p (.lst vs)) (.ref p) (.list ds) := .lst (.inl (.inl upd_same)) (h.mono (same_new hp))
theorem daT {K : PySem.W.Frag} {p : Addr} {H : Hp} {vs : List V} {ds : List PyData} (h : DaL K H vs ds) (hp : H p = none) : Da K (upd H p (.tup vs)) (.ref p) (.tuple ds) := .tup (.inl (.inl upd_same)) (h.mono (same_new hp))
/-- _law_take(bag, many): some int from 0 to many - 1 -/
def sp_take : Sp := fun vs H Q _ => ∃ (b : Addr) (m : Int), vs = [.ref b, .int m] ∧ BagOk b H ∧ 0 < m ∧ m < 2 ^ 200 ∧ ∀ (v : Int) (H' : Hp), 0 ≤ v → v < m → Go b H H' → Q (.int v) H'
/-- _law_bag(script) -/
def sp_bag (K : PySem.W.Frag) : Sp := fun vs H Q _ => ∃ (a : Addr) (ns : List Int), vs = [.ref a] ∧ SqL K H a (ns.map V.int) ∧ ns.length ≤ 1000 ∧ ∀ (b : Addr) (H' : Hp), H b = none → Same H H' → BagOk b H' → Q (.ref b) H'
end G

/-! ## G4: comprehensions whose items are values that hang on no heap; small things about data -/
namespace G
open PySem PySem.Spec PyProof.Rows L2
theorem cut_map {α : Type} (f : α → V) (ns : List α) (lo hi : Option Int) : ∃ a b, cutV (ns.map f) lo hi = ((ns.drop a).take b).map f := by
  have e : cutV (ns.map f) lo hi = ((ns.map f).drop _).take _ := rfl
  rw [← List.map_drop, ← List.map_take] at e
  exact ⟨_, _, e⟩
theorem same_free {H H' : Hp} {p : Addr} (s : Same H H') (h : H' p = none) : H p = none := s.free h
/-- [e for x in xs]: e a value that hangs on x alone -/
theorem lc_map {K : PySem.W.Frag} {a : Addr} {xs ys : List V} {j : Nat} {te : TE} {vs : List Nat} {σ : L2.St} {H1 : Hp} {D : Addr} {Qd : Hp → Prop} (hx : SqL K H1 a xs) (hD : H1 D = none) (hl : ys.length = xs.length) (hz : xs.length ≤ 100000)
    (hw : ∀ x, wipe ((wipe σ vs).set j (some x)) vs = wipe σ vs)
    (hs : ∀ (i : Nat) (x y : V), xs[i]? = some x → ys[i]? = some y → ∀ H, Same H1 H → ∀ Q : VK, (∀ H4, Same H H4 → Q y H4) → te ((wipe σ vs).set j (some x)) H Q)
    (hd : ∀ H, Same H1 H → H D = some (.lst ys) → Qd H) :
    ∃ W : Nat → Nat → Hp → Prop, (∃ m, W 0 m (upd H1 D (.lst []))) ∧ ∀ i m H, W i m H →
      ((Itl K a).stop i H ∧ Qd H) ∨ ((Itl K a).go i H ∧ ∃ Nx : Hp → Prop, (∀ H', Nx H' → ∃ m', m' < m ∧ W (i + 1) m' H') ∧ ∀ x H', (Itl K a).yld i H x H' → gName j x (wipe σ vs) H' fun σ2 H2 => wipe σ2 vs = wipe σ vs ∧ tYes σ2 H2 fun b H3 =>
        if b = true then te σ2 H3 fun y H4 => ∃ acc, H4 D = some (.lst acc) ∧ acc.length < sizeLine ∧ Nx (upd H4 D (.lst (acc ++ [y]))) else Nx H3) := by
  refine lc_list (K := K) (a := a) (xs := xs) (fun i H => Same H1 H ∧ H D = some (.lst (ys.take i))) ⟨same_new hD, upd_same⟩ (fun i H _ p => sql_up p.1 hx) (fun i x H hi p => ?_) (fun H p => hd H p.1 (by rw [p.2, ← hl, List.take_length]))
  have hlt := (List.getElem?_eq_some_iff.mp hi).1
  have hy : ys[i]? = some ys[i] := List.getElem?_eq_getElem (by omega)
  refine ⟨hw x, ?_⟩
  unfold tYes
  refine iteT (hs i x ys[i] hi hy H p.1 _ fun H4 e4 => ⟨ys.take i, e4 _ _ p.2, ?_, ?_, ?_⟩)
  · rw [List.length_take, sizeLine_eq]; omega
  · exact fun b o e => by
      rw [upd_ne (ne_of_none e hD)]
      exact e4 _ _ (p.1 _ _ e)
  · rw [upd_same, List.take_succ, hy]
    rfl
theorem boolAll {α : Type} (l : List α) (f : α → Bool) : ((l.map f).all id) = l.all f := by
  induction l with
  | nil => rfl
  | cons a l ih => simp
/-- what is true of each datum -/
theorem DaL.all2 {K : PySem.W.Frag} {H : Hp} {ds : List PyData} {vs : List V} {i : Nat} {v : V} (h : DaL K H vs ds) (e : vs[i]? = some v) : ∃ d, ds[i]? = some d ∧ Da K H v d := h.getV e
end G

/-! ## G5: kinds: what the predicates say of data; their promises -/
namespace G
open PySem PySem.Spec PyProof.Rows L2
def isInt : PyData → Bool
  | .int _ => true
  | _ => false
theorem isInt_eq (d : PyData) : isInt d = (isI d && !isB d) := by cases d <;> rfl
/-- an integer from lo to hi -/
def betw (d : PyData) (lo hi : Int) : Bool := match d with
  | .int i => decide (lo ≤ i) && decide (i ≤ hi)
  | _ => false
def sp_is_integer (K : PySem.W.Frag) : Sp := fun vs H Q _ => ∃ v d, vs = [v] ∧ Da K H v d ∧ Q (.bl (isInt d)) H
def sp_is_between (K : PySem.W.Frag) : Sp := fun vs H Q _ => ∃ v d lo hi, vs = [v, .int lo, .int hi] ∧ Da K H v d ∧ Q (.bl (betw d lo hi)) H
def sp_is_amount (K : PySem.W.Frag) : Sp := fun vs H Q _ => ∃ v d, vs = [v] ∧ Da K H v d ∧ Q (.bl (betw d 0 1000000000000000000000000000000)) H
def sp_is_count (K : PySem.W.Frag) : Sp := fun vs H Q _ => ∃ v d, vs = [v] ∧ Da K H v d ∧ Q (.bl (betw d 1 1000000000000000000)) H
def sp_is_broker (K : PySem.W.Frag) : Sp := fun vs H Q _ => ∃ v d n, vs = [v, .int n] ∧ Da K H v d ∧ Q (.bl (betw d 0 (n - 1))) H
end G
namespace G
open PySem PySem.Spec PyProof.Rows L2
def ltD : PyData → PyData → Bool
  | .int a, .int b => decide (a < b)
  | _, _ => false
/-- each less than the next -/
def ascD (ds : List PyData) : Bool := (List.zipWith ltD ds (ds.drop 1)).all id
def isSetD (d : PyData) (n : Int) : Bool := match d with
  | .list ds => ds.all (fun x => betw x 0 (n - 1)) && ascD ds
  | _ => false
end G

/-! ## G6: data that can be shown; alike; odd values; comprehensions by a walk -/
namespace G
open PySem PySem.Spec PyProof.Rows L2
/-- the datum can be shown, is nested at most n deep, and its text has at most B signs -/
structure Sm (n B : Nat) (d : PyData) : Prop where
  sh : d.showable = true
  dp : d.depth ≤ n
  ln : d.shown.length ≤ B
theorem Sm.up {n m A B : Nat} {d : PyData} (h : Sm n A d) (a : n ≤ m) (b : A ≤ B) : Sm m B d := ⟨h.sh, Nat.le_trans h.dp a, Nat.le_trans h.ln b⟩
theorem Sm.none : Sm 0 5 PyData.none := ⟨rfl, Nat.le_refl _, by decide +kernel⟩
theorem Sm.bool (b : Bool) : Sm 0 5 (PyData.bool b) := by cases b <;> exact ⟨rfl, Nat.le_refl _, by decide +kernel⟩
theorem Sm.int {i : Int} (h : i.natAbs < 10 ^ 45) : Sm 0 46 (PyData.int i) := by
  refine ⟨?_, Nat.le_refl _, ?_⟩
  · simp only [PyData.showable, decide_eq_true_eq]
    exact Nat.lt_trans (PySem.Flt.log2_lt_of (k := 200) (by decide) (Nat.lt_trans h (by decide))) (by decide)
  · simp only [PyData.shown]
    have e := int_text_length_le10 (a := i) (k := 45) (by decide) h
    rw [PySem.ofString_length]
    exact e
theorem sm_all {n B : Nat} : ∀ {ds : List PyData}, (∀ d ∈ ds, Sm n B d) → PyData.showableAll ds = true ∧ PyData.depthAll ds ≤ n ∧ ((PyData.shownAll ds).map (·.length)).sum ≤ B * ds.length ∧ (PyData.shownAll ds).length = ds.length
  | [], _ => by simp [PyData.showableAll, PyData.depthAll, PyData.shownAll]
  | d :: ds, h => by
    obtain ⟨a, b, c, e⟩ := sm_all (ds := ds) fun x hx => h x (List.mem_cons_of_mem _ hx)
    have hd := h d List.mem_cons_self
    have h1 := hd.dp
    have h2 := hd.ln
    refine ⟨?_, ?_, ?_, ?_⟩
    · simp only [PyData.showableAll, hd.sh, a, Bool.and_self]
    · simp only [PyData.depthAll]
      omega
    · simp only [PyData.shownAll, List.map_cons, List.sum_cons, List.length_cons, Nat.mul_add, Nat.mul_one]
      omega
    · simp only [PyData.shownAll, List.length_cons, e]
theorem Sm.list {n B m : Nat} {ds : List PyData} (h : ∀ d ∈ ds, Sm n B d) (hm : ds.length ≤ m) : Sm (n + 1) ((B + 2) * m + 3) (PyData.list ds) := by
  obtain ⟨a, b, c, e⟩ := sm_all h
  refine ⟨by simpa only [PyData.showable] using a, by simp only [PyData.depth]; omega, ?_⟩
  simp only [PyData.shown]
  have q := listText_len_le (PyData.shownAll ds)
  rw [e] at q
  have l1 : B * ds.length ≤ B * m := Nat.mul_le_mul_left _ hm
  have l2 : (B + 2) * m = B * m + 2 * m := Nat.add_mul _ _ _
  omega
theorem Sm.tuple {n B m : Nat} {ds : List PyData} (h : ∀ d ∈ ds, Sm n B d) (hm : ds.length ≤ m) : Sm (n + 1) ((B + 2) * m + 3) (PyData.tuple ds) := by
  obtain ⟨a, b, c, e⟩ := sm_all h
  refine ⟨by simpa only [PyData.showable] using a, by simp only [PyData.depth]; omega, ?_⟩
  simp only [PyData.shown]
  have q := tupleText_len_le (PyData.shownAll ds)
  rw [e] at q
  have l1 : B * ds.length ≤ B * m := Nat.mul_le_mul_left _ hm
  have l2 : (B + 2) * m = B * m + 2 * m := Nat.add_mul _ _ _
  omega
/-- how many items -/
def lenD : PyData → Nat
  | .list xs => xs.length
  | .tuple xs => xs.length
  | _ => 0
/-- found and due stand for the same: they are alike -/
def sp_alike (K : PySem.W.Frag) : Sp := fun vs H Q _ => ∃ v u d, vs = [v, u] ∧ Da K H v d ∧ Da K H u d ∧ d.canLay0 = true ∧ Sm 60 1000000 d ∧ ∀ H', Same H H' → Q (.bl true) H'
theorem shaped_of {d : PyData} {B : Nat} (h : Sm 60 B d) (c : d.canLay0 = true) : SeqAt.shaped d = true := by
  unfold SeqAt.shaped
  rw [c, Bool.true_and]
  exact decide_eq_true (Nat.le_trans h.dp (by decide))
section
variable {X : Cx}
/-- 'a' * 99 -/
theorem op_mulS : OpR X (binaryOp .Mult) (fun x y H Q => ∃ z n, x = .str z ∧ y = .int n ∧ MulOk z n ∧ Q (.str (Txt.mul z n)) H) := by
  intro pins s σ H x y v u Q I rx ry h
  obtain ⟨z, n, rfl, rfl, ok, q⟩ := h
  obtain ⟨t, rfl⟩ := rx
  obtain ⟨t', rfl⟩ := ry
  exact SB.mul ok fun t'' k => ⟨.str _, H, I.tok k, ⟨_, rfl⟩, q⟩
end
/-- a comprehension over anything that is walked: in turn i the item f i, or none -/
theorem lc_gen {J : It} {n : Nat} {Gd : Hp → Prop} {Y : Nat → Hp → V → Hp → Prop} (w : Walk J n Gd Y) {g : TG} {tt : TT} {te : TE} {vs : List Nat} {σ : L2.St} {H1 : Hp} {D : Addr} {Qd : Hp → Prop} (f : Nat → Option V) (hD : H1 D = none) (hz : n ≤ 100000)
    (hG : ∀ H, Same H1 H → Gd H)
    (hs : ∀ i x H H', i < n → Same H1 H → Y i H x H' → ∀ (R1 : VK) (R0 : Hp → Prop), (∀ y H4, f i = some y → Same H H4 → R1 y H4) → (f i = none → ∀ H4, Same H H4 → R0 H4) →
      g x (wipe σ vs) H' fun σ2 H2 => wipe σ2 vs = wipe σ vs ∧ tt σ2 H2 fun b H3 => if b = true then te σ2 H3 R1 else R0 H3)
    (hd : ∀ H, Same H1 H → H D = some (.lst ((List.range n).filterMap f)) → Qd H) :
    ∃ W : Nat → Nat → Hp → Prop, (∃ m, W 0 m (upd H1 D (.lst []))) ∧ ∀ i m H, W i m H →
      (J.stop i H ∧ Qd H) ∨ (J.go i H ∧ ∃ Nx : Hp → Prop, (∀ H', Nx H' → ∃ m', m' < m ∧ W (i + 1) m' H') ∧ ∀ x H', J.yld i H x H' → g x (wipe σ vs) H' fun σ2 H2 => wipe σ2 vs = wipe σ vs ∧ tt σ2 H2 fun b H3 =>
        if b = true then te σ2 H3 fun y H4 => ∃ acc, H4 D = some (.lst acc) ∧ acc.length < sizeLine ∧ Nx (upd H4 D (.lst (acc ++ [y]))) else Nx H3) := by
  refine lc_it w (fun i H => Same H1 H ∧ H D = some (.lst ((List.range i).filterMap f))) ⟨same_new hD, upd_same⟩ (fun i H _ p => hG H p.1) (fun i x H H' hi p y => ?_) (fun H p => hd H p.1 p.2)
  refine hs i x H H' hi p.1 y _ _ (fun y H4 hf e4 => ⟨_, e4 _ _ p.2, ?_, ?_, ?_⟩) (fun hf H4 e4 => ⟨p.1.trans e4, ?_⟩)
  · have q : ((List.range i).filterMap f).length ≤ (List.range i).length := List.length_filterMap_le f _
    rw [List.length_range] at q
    rw [sizeLine_eq]
    omega
  · exact fun b o e => by
      rw [upd_ne (ne_of_none e hD)]
      exact e4 _ _ (p.1 _ _ e)
  · rw [upd_same, List.range_succ, List.filterMap_append]
    simp [hf]
  · rw [e4 _ _ p.2, List.range_succ, List.filterMap_append]
    simp [hf]
theorem fm_take (ys : List V) : ∀ n, n ≤ ys.length → (List.range n).filterMap (fun i => ys[i]?) = ys.take n
  | 0, _ => by simp
  | n + 1, h => by
    rw [List.range_succ, List.filterMap_append, fm_take ys n (by omega), List.take_succ]
    have e : ys[n]? = some ys[n] := List.getElem?_eq_getElem (by omega)
    simp [e]
theorem fm_get (ys : List V) : (List.range ys.length).filterMap (fun i => ys[i]?) = ys := by
  rw [fm_take ys _ (Nat.le_refl _), List.take_length]
/-- the v-th of such values -/
theorem DaL.pick {K : PySem.W.Frag} {H : Hp} {vs : List V} {ds : List PyData} {v : Int} (h : DaL K H vs ds) (h0 : 0 ≤ v) (h1 : v < (ds.length : Int)) : ∃ x d, atI vs v = some x ∧ d ∈ ds ∧ ds[v.toNat]? = some d ∧ Da K H x d := by
  obtain ⟨n, rfl⟩ := Int.eq_ofNat_of_zero_le h0
  have hn : n < ds.length := by omega
  obtain ⟨x, e, hx⟩ := h.get (List.getElem?_eq_getElem hn)
  exact ⟨x, ds[n], atI_nat e, List.getElem_mem hn, by simpa using List.getElem?_eq_getElem hn, hx⟩
end G
namespace G
open PySem PySem.Spec PyProof.Rows L2
theorem cut_1 (xs : List V) : cutV xs (some 1) none = xs.drop 1 := by
  cases xs with
  | nil => rfl
  | cons x xs =>
    have e : cutV (x :: xs) (some 1) none = ((x :: xs).drop (min 1 (xs.length + 1))).take ((xs.length + 1) - min 1 (xs.length + 1)) := rfl
    rw [e, Nat.min_eq_left (by omega)]
    simp
theorem betw_int {d : PyData} {lo hi : Int} (h : betw d lo hi = true) : ∃ i, d = .int i := by
  cases d with
  | int i => exact ⟨i, rfl⟩
  | _ => cases h
def sp_is_set (K : PySem.W.Frag) : Sp := fun vs H Q _ => ∃ v d n, vs = [v, .int n] ∧ Da K H v d ∧ lenD d ≤ 100000 ∧ ∀ H', Same H H' → Q (.bl (isSetD d n)) H'
end G
namespace G
open PySem PySem.Spec PyProof.Rows L2
/-- the places (from 1) where the next is not greater -/
def notAsc (bs : List Bool) (i : Nat) : Option Int := if bs[i]? = some true then none else some (1 + (i : Int))
theorem fm_map {β : Type} (f : Nat → Option β) (g : β → V) (n : Nat) : (List.range n).filterMap (fun i => (f i).map g) = ((List.range n).filterMap f).map g := by
  induction n with
  | zero => rfl
  | succ n ih =>
    rw [List.range_succ, List.filterMap_append, List.filterMap_append, ih, List.map_append]
    cases h : f n <;> simp [h]
theorem canLay_ints : ∀ ns : List Int, PyData.canLayAll0 (ns.map PyData.int) = true
  | [] => rfl
  | n :: ns => by rw [List.map_cons, PyData.canLayAll0, canLay_ints ns]; rfl
theorem depth_ints : ∀ ns : List Int, PyData.depthAll (ns.map PyData.int) = 0
  | [] => rfl
  | n :: ns => by rw [List.map_cons, PyData.depthAll, depth_ints ns]; rfl
theorem shaped_ints (ns : List Int) : SeqAt.shaped (.list (ns.map PyData.int)) = true := by
  unfold SeqAt.shaped
  rw [PyData.canLay0, canLay_ints, PyData.depth, depth_ints]
  rfl
theorem eqv_nil (ns : List Int) : PyData.eqv (.list (ns.map PyData.int)) (.list []) = ns.isEmpty := by
  cases ns <;> simp [PyData.eqv, PyData.eqvAll]
theorem isE_app {α : Type} (a b : List α) : (a ++ b).isEmpty = (a.isEmpty && b.isEmpty) := by
  cases a <;> simp
theorem notAsc_go (bs : List Bool) : ∀ n, n ≤ bs.length → ((List.range n).filterMap (notAsc bs)).isEmpty = (bs.take n).all id
  | 0, _ => by simp
  | n + 1, h => by
    have e : bs[n]? = some bs[n] := List.getElem?_eq_getElem (by omega)
    rw [List.range_succ, List.filterMap_append, isE_app, notAsc_go bs n (by omega), List.take_succ, List.all_append, e]
    congr 1
    unfold notAsc
    cases hb : bs[n] <;> simp [e, hb]
theorem notAsc_all (ds : List PyData) : ((List.range (List.zipWith ltD ds (ds.drop 1)).length).filterMap (notAsc (List.zipWith ltD ds (ds.drop 1)))).isEmpty = (true && ascD ds) := by
  rw [notAsc_go _ _ (Nat.le_refl _), List.take_length]
  rfl
end G
namespace G
open PySem PySem.Spec PyProof.Rows L2
theorem Go.get {b p : Addr} {o : HO} {H H' : Hp} (g : Go b H H') (h : H p = some o) (n : p ≠ b) : H' p = some o := by
  have q := g.sm p o (by rw [hid_ne n]; exact h)
  rw [hid_ne n] at q
  exact q
theorem cp10 {j : Int} (h0 : 0 ≤ j) (h1 : j ≤ 1000000) : CPow 10 j := ⟨h0, h1, by decide⟩
theorem pickI {ns : List Int} {v : Int} (h0 : 0 ≤ v) (h1 : v < (ns.length : Int)) : ∃ z, z ∈ ns ∧ atI (ns.map V.int) v = some (.int z) := by
  obtain ⟨n, rfl⟩ := Int.eq_ofNat_of_zero_le h0
  have hn : n < ns.length := by omega
  exact ⟨ns[n], List.getElem_mem hn, atI_nat (by rw [List.getElem?_map, List.getElem?_eq_getElem hn]; rfl)⟩
def sp_number : Sp := fun vs H Q _ => ∃ b, vs = [.ref b] ∧ BagOk b H ∧ ∀ (v : Int) (H' : Hp), v.natAbs < 10 ^ 45 → Go b H H' → Q (.int v) H'
/-- some small datum -/
def sp_odd (K : PySem.W.Frag) : Sp := fun vs H Q _ => ∃ b, vs = [.ref b] ∧ BagOk b H ∧ ∀ (v : V) (d : PyData) (H' : Hp), Go b H H' → Da K (hid b H') v d → Sm 4 100000 d → lenD d ≤ 2000 → Q v H'
def sp_brokers (K : PySem.W.Frag) : Sp := fun vs H Q _ => ∃ b n, vs = [.ref b, .int n] ∧ BagOk b H ∧ 2 ≤ n ∧ n ≤ 10 ∧ ∀ (v : V) (d : PyData) (H' : Hp), Go b H H' → Da K (hid b H') v d → Sm 5 4000000 d → lenD d ≤ 100 → Q v H'
end G
namespace G
open PySem PySem.Spec PyProof.Rows L2
def nestL : Nat → PyData
  | 0 => .list []
  | n + 1 => .list [nestL n]
abbrev oddVA : List V := [V.int 0, V.int 1, V.int (-1), V.int 10, V.int 9, V.int (10 ^ (18 : Int).toNat), V.int (10 ^ (18 : Int).toNat + 1), V.int (10 ^ (30 : Int).toNat), V.int (10 ^ (30 : Int).toNat + 1), V.int (-10 ^ (39 : Int).toNat), V.bl true, V.bl false, V.non, V.str "", V.str "1"]
def oddA : List PyData := [.int 0, .int 1, .int (-1), .int 10, .int 9, .int (10 ^ (18 : Int).toNat), .int (10 ^ (18 : Int).toNat + 1), .int (10 ^ (30 : Int).toNat), .int (10 ^ (30 : Int).toNat + 1), .int (-10 ^ (39 : Int).toNat), .bool true, .bool false, .none, .str "", .str "1"]
def oddB0 : List PyData := [.tuple [], .tuple [.int 0], .tuple [.int 0, .int 1], .tuple [.int 0, .int 1, .int 2], .tuple [.int 1, .int 0], .list [], .list [.int 0], .list [.int 0, .int 1], .list [.list [.int 0, .int 1]], .dict [], .dict [(.int 0, .int 1)], nestL 3]
def oddB : List PyData := [.tuple [], .tuple [.int 0], .tuple [.int 0, .int 1], .tuple [.int 0, .int 1, .int 2], .tuple [.int 1, .int 0], .list [], .list [.int 0], .list [.int 0, .int 1], .list [.list [.int 0, .int 1]], .dict [], .dict [(.int 0, .int 1)], nestL 3, .list (List.replicate 2000 (.int 0))]
theorem flat_rep {α : Type} (a : α) : ∀ n : Nat, (List.replicate n [a]).flatten = List.replicate n a
  | 0 => rfl
  | n + 1 => by rw [List.replicate_succ, List.flatten_cons, flat_rep a n]; rfl
theorem mul99 : MulOk "a" 99 := ⟨by decide +kernel, fun _ _ => by decide +kernel, fun _ _ => by decide +kernel⟩
def smB (d : PyData) : Bool := d.showable && decide (d.depth ≤ 4) && decide (d.shown.length ≤ 100000) && decide (lenD d ≤ 2000)
theorem of_smB {d : PyData} (h : smB d = true) : Sm 4 100000 d ∧ lenD d ≤ 2000 := by
  unfold smB at h
  simp only [Bool.and_eq_true, decide_eq_true_eq] at h
  exact ⟨⟨h.1.1.1, h.1.1.2, h.1.2⟩, h.2⟩
theorem oddA_ok : oddA.all smB = true := by decide +kernel
theorem oddB_ok : oddB0.all smB = true := by decide +kernel
theorem oddC_ok : smB (.str (Txt.mul "a" 99)) = true := by decide +kernel
theorem odd_ok (d : PyData) (h : d ∈ (oddA ++ oddB) ++ [PyData.str (Txt.mul "a" 99)]) : Sm 4 100000 d ∧ lenD d ≤ 2000 := by
  rcases List.mem_append.mp h with h | h
  · rcases List.mem_append.mp h with h | h
    · exact of_smB (List.all_eq_true.mp oddA_ok d h)
    · have e : oddB = oddB0 ++ [.list (List.replicate 2000 (.int 0))] := rfl
      rw [e] at h
      rcases List.mem_append.mp h with h | h
      · exact of_smB (List.all_eq_true.mp oddB_ok d h)
      · rw [List.mem_singleton.mp h]
        refine ⟨(Sm.list (n := 0) (B := 46) (m := 2000) (fun d hd => ?_) (by simp)).up (by decide) (by decide), by simp [lenD]⟩
        rw [(List.mem_replicate.mp hd).2]
        exact Sm.int (by decide)
  · rw [List.mem_singleton.mp h]
    exact of_smB oddC_ok
end G
namespace G
open PySem PySem.Spec PyProof.Rows L2
/-- at most N ints, none of more than 45 digits -/
def SmI (N : Nat) (ms : List Int) : Prop := ms.length ≤ N ∧ ∀ z ∈ ms, z.natAbs < 10 ^ 45
theorem cutI {N : Nat} {ns : List Int} (h : SmI N ns) (lo hi : Option Int) : ∃ ms, cutV (ns.map V.int) lo hi = ms.map V.int ∧ SmI N ms := by
  obtain ⟨a, b, e⟩ := cut_map V.int ns lo hi
  refine ⟨_, e, ?_, fun z hz => h.2 z (List.mem_of_mem_drop (List.mem_of_mem_take hz))⟩
  have h1 := h.1
  rw [List.length_take, List.length_drop]
  omega
theorem SmI.sm {N : Nat} {ms : List Int} (h : SmI N ms) : ∀ d ∈ ms.map PyData.int, Sm 0 46 d := fun d hd => by
  obtain ⟨z, hz, rfl⟩ := List.mem_map.mp hd
  exact Sm.int (h.2 z hz)
theorem SmI.app {N M : Nat} {ms ns : List Int} (h : SmI N ms) (k : SmI M ns) : SmI (N + M) (ms ++ ns) := by
  refine ⟨?_, fun z hz => ?_⟩
  · rw [List.length_append]
    exact Nat.add_le_add h.1 k.1
  · rcases List.mem_append.mp hz with hz | hz
    · exact h.2 z hz
    · exact k.2 z hz
theorem SmI.rev {N : Nat} {ms : List Int} (h : SmI N ms) : SmI N ms.reverse := ⟨by rw [List.length_reverse]; exact h.1, fun z hz => h.2 z (List.mem_reverse.mp hz)⟩
theorem SmI.one {z : Int} (h : z.natAbs < 10 ^ 45) : SmI 1 [z] := ⟨Nat.le_refl _, fun y hy => by rw [List.mem_singleton.mp hy]; exact h⟩
/-- a list, a tuple of such ints -/
theorem SmI.lst {N : Nat} {ms : List Int} (h : SmI N ms) (hN : N ≤ 60) : Sm 5 4000000 (.list (ms.map PyData.int)) ∧ lenD (.list (ms.map PyData.int)) ≤ 100 := by
  have h1 := h.1
  refine ⟨(Sm.list (m := 60) h.sm (by rw [List.length_map]; omega)).up (by decide) (by decide), ?_⟩
  show (ms.map PyData.int).length ≤ 100
  rw [List.length_map]
  omega
theorem SmI.tup {N : Nat} {ms : List Int} (h : SmI N ms) (hN : N ≤ 60) : Sm 5 4000000 (.tuple (ms.map PyData.int)) ∧ lenD (.tuple (ms.map PyData.int)) ≤ 100 := by
  have h1 := h.1
  refine ⟨(Sm.tuple (m := 60) h.sm (by rw [List.length_map]; omega)).up (by decide) (by decide), ?_⟩
  show (ms.map PyData.int).length ≤ 100
  rw [List.length_map]
  omega
theorem sz60 {n : Nat} (h : n ≤ 100000) : n ≤ sizeLine := Nat.le_trans h (by rw [sizeLine_eq]; decide)
end G
namespace G
open PySem PySem.Spec PyProof.Rows L2
/-- the law's own promise -/
def sp_law (K : PySem.W.Frag) : Sp := fun vs H Q _ => ∃ (a : Addr) (ns : List Int), vs = [.ref a] ∧ SqL K H a (ns.map V.int) ∧ ns.length ≤ 63 ∧ ∀ H', Q (.bl true) H'
theorem canLay_bools : ∀ ns : List Bool, PyData.canLayAll0 (ns.map PyData.bool) = true
  | [] => rfl
  | n :: ns => by rw [List.map_cons, PyData.canLayAll0, canLay_bools ns]; rfl
theorem sm_bools {ns : List Bool} (h : ns.length ≤ 1000) : Sm 60 1000000 (.list (ns.map PyData.bool)) :=
  (Sm.list (n := 0) (B := 5) (m := 1000) (fun d hd => by obtain ⟨b, _, rfl⟩ := List.mem_map.mp hd; exact Sm.bool b) (by rw [List.length_map]; exact h)).up (by decide) (by decide)
theorem Sm.fits {n : Nat} {B : Nat} {d : PyData} (h : Sm n B d) (hB : B ≤ 16777216) : d.shown.length ≤ sizeLine := by
  rw [sizeLine_eq]
  exact Nat.le_trans h.ln hB
end G

/-! ## G7: {e for x in xs}, e a tuple of ints; the length of such a set -/
namespace G
open PySem PySem.Spec PyProof.Rows L2 PpSet
section
variable {P : Program} {w : World} {A : Around} {E : Value → Shared → Prop} {s : Shared}
/-- set.add of a tuple of ints -/
theorem setT_add {a x : Addr} {L : List (Addr × List Int)} {es : Array (Int × Value)} {ep : Nat} {t : SetTable} {k : List Int} {Q : Value → Shared → Prop} (R : SetTR P w s.heap a L es ep t) (hx : IsT P w s.heap k x) (hu : A.units + 8 < cLine) (few : L.length + 1 < 64)
    (hQ : ∀ h' tk L', Heap.SameBut a s.heap h' → SetT0 P w h' a L' → (k ∈ L.map (·.2) → L' = L) → (k ∉ L.map (·.2) → L'.Perm ((x, k) :: L)) → Q .none { s with heap := h', toks := tk }) :
    wpAny (model P w) A (call (.builtin "set.add") [.ref a, .ref x]) Q E s := by
  obtain ⟨o, ho, hex, hd⟩ := R.ob
  refine wpAny_call_entry F.slot_set_add (⟨o, ho, hex.1⟩ : s.TypeIs (.ref a) "set") F.entry_set_add ?_ (F.args_set_add_2 _ _)
  unfold Builtin.«set.add» Builtin.Frozenset.oneOther
  simp only [List.isEmpty_nil, bind_assoc]
  unfold Builtin.Frozenset.addrOf setAdd
  refine wpAny_bind (wpAny_pure ?_)
  try dsimp only
  refine wpAny_bind (wpAny_pure ?_)
  try dsimp only
  refine wpAny_bind (wpAny_holding ?_)
  refine wpAny_bind (wpAny_pyHash_tuple (by show A.units + 1 < cLine; omega) hx ?_)
  refine add_at (s := { s with toks := s.toks + (k.length + 1) }) R hx (by show A.units + 1 < cLine; omega) few fun b h' L' es' ep' t' sb r c1 c2 => ?_
  show wpAny _ _ (ret Value.none) _ _ _
  exact wpAny_pure ⟨_, rfl, hQ h' _ L' sb r.t0 c1 c2⟩
end
section
variable {X : Cx} {pins : List (Addr × Obj)} {σ : L2.St} {H : Hp} {s : Shared}
theorem setTO_at {D : Addr} {L : List (Addr × List Int)} (I : Inv X pins σ H s) (h : H D = some (SetTO X.prog X.w D L)) : SetT0 X.prog X.w s.heap D L := (I.hok D _ h).1
theorem addT_ok {E : Value → Shared → Prop} {D x : Addr} {L : List (Addr × List Int)} {k : List Int} {Q : Value → Shared → Prop} (I : Inv X pins σ H s) (hD : H D = some (SetTO X.prog X.w D L)) (hL : ∀ p ∈ L, SqT X.K H p.1 (p.2.map V.int)) (hx : SqT X.K H x (k.map V.int))
    (hu : X.A.units + 8 < cLine) (few : L.length + 1 < 64) (h : ∀ s' L', Inv X pins σ (upd H D (SetTO X.prog X.w D L')) s' → (k ∈ L.map (·.2) → L' = L) → (k ∉ L.map (·.2) → L'.Perm ((x, k) :: L)) → Q .none s') :
    wpAny (model X.prog X.w) X.A (call (.builtin "set.add") [.ref D, .ref x]) Q E s := by
  obtain ⟨es, ep, t, R⟩ := (setTO_at I hD).full fun p hp => I.isT (hL p hp)
  refine setT_add R (I.isT hx) hu few fun h' tk L' sb r c1 c2 => ?_
  obtain ⟨es', ep', t', ⟨o, ho, _⟩, _⟩ := r.ex
  exact h _ L' (I.write (e := D) (t' := tk) (by rw [hD]; trivial) (.inl rfl) (fun b u hb hu => (sb.2 b hb).trans hu) ⟨o, ho⟩ (setTO_new r)) c1 c2
/-- len of such a set -/
theorem call_lenT (K : PySem.W.Frag) (h : X.K = K := by rfl) : CallR X (.builtin "len") (fun xs H Q => ∃ (a : Addr) (L : List (Addr × List Int)), xs = [.ref a] ∧ H a = some (SetTO X.prog X.w a L) ∧ (∀ p ∈ L, SqT K H p.1 (p.2.map V.int)) ∧ Q (.int (L.length : Int)) H) := by
  subst h
  intro pins s σ H xs us Q I r h
  obtain ⟨a, L, rfl, hD, hL, q⟩ := h
  obtain ⟨u, rfl, ru⟩ := vals1 r
  cases (show u = Value.ref a from ru)
  obtain ⟨es, ep, t, R⟩ := (setTO_at I hD).full fun p hp => I.isT (hL p hp)
  obtain ⟨o, ho, hex, hd⟩ := R.ob
  have hs := R.size
  have hf := R.few
  refine call_len_set ho hex hd R.fits (by omega) ?_
  rw [hs]
  exact ⟨.int _, H, I.tok _, ⟨_, rfl⟩, q⟩
end
section
variable {X : Cx}
/-- {elt for target in iter if ..}, elt a tuple of ints; D the new set -/
def tScT (P : Program) (K : PySem.W.Frag) (w : World) (wi : TI) (g : TG) (tt : TT) (te : TE) (vs : List Nat) : TE := fun σ H Q => wi σ H fun J H1 => ∀ D, H1 D = none → ∃ W : Nat → Nat → Hp → Prop, (∃ m, W 0 m (upd H1 D (SetTO P w D []))) ∧ ∀ i m H, W i m H →
  (J.stop i H ∧ Q (.ref D) H) ∨ (J.go i H ∧ ∃ Nx : Hp → Prop, (∀ H', Nx H' → ∃ m', m' < m ∧ W (i + 1) m' H') ∧ ∀ x H', J.yld i H x H' → g x (wipe σ vs) H' fun σ2 H2 => wipe σ2 vs = wipe σ vs ∧ tt σ2 H2 fun b H3 =>
    if b = true then te σ2 H3 fun y H4 => ∃ (x : Addr) (k : List Int) (L : List (Addr × List Int)), y = .ref x ∧ SqT K H4 x (k.map V.int) ∧ H4 D = some (SetTO P w D L) ∧ (∀ p ∈ L, SqT K H4 p.1 (p.2.map V.int)) ∧ L.length + 1 < 64 ∧
      ∀ L', (k ∈ L.map (·.2) → L' = L) → (k ∉ L.map (·.2) → L'.Perm ((x, k) :: L)) → Nx (upd H4 D (SetTO P w D L')) else Nx H3)
theorem setT_new0 {P : Program} {w : World} {h : Heap} : SetT0 P w (h.push { cls := .type "set", dict := none, data := .set #[] 0 (.fresh 0 0 (!w.params.followText "set-order")) }) h.objs.size [] := (setTR_fresh (Heap.get?_push_size _ rfl)).t0
theorem scT_core {pins : List (Addr × Obj)} {s : Shared} {σ : L2.St} {H : Hp} {Q : VK} {elt tg iter : Expr} {ifs : List Expr} {scope : Scope} {own : List (PySem.Str × Nat)} {pos pos' : Pos} {wi : TI} {g : TG} {tt : TT} {te : TE} {use : Option (Value → Sem Unit)} {Qf : Value → Shared → Prop}
    (hu : X.A.units + 8 < cLine) (calm : X.calm = true) (nodup : X.N.Nodup) (I : Inv X pins σ H s) (hi : PI X tg iter wi) (ok : BlkOk X.N X.env.scope scope own)
    (hg : ∀ (z : Shared) (H : Hp) (C : Addr) (cl : List (PySem.Str × Addr)) (fp : List Addr), PG (X.blk z H scope (compEnvC scope cl C X.env) fp) tg g) (ht : ∀ (z : Shared) (H : Hp) (C : Addr) (cl : List (PySem.Str × Addr)) (fp : List Addr), PTs (X.blk z H scope (compEnvC scope cl C X.env) fp) ifs tt)
    (he : ∀ (z : Shared) (H : Hp) (C : Addr) (cl : List (PySem.Str × Addr)) (fp : List Addr), PE (X.blk z H scope (compEnvC scope cl C X.env) fp) elt te) (fold : ∀ x, foldedSetIterable iter X.env x = pure x)
    (h : tScT X.prog X.K X.w wi g tt te (own.map (·.2)) σ H Q)
    (after : ∀ D C s' m H', Inv X pins σ H' s' → Q (.ref D) H' → s'.heap.Ns C m → FpOk X pins H' C → compPost (model X.prog X.w) X.A X.xe use Qf (.ref D) C (.ok .next) s') :
    wpAny (model X.prog X.w) X.A (comprehension (.SetComp elt [⟨tg, iter, ifs, 0⟩] scope pos) scope X.env pos' (newSet (.type "set")) false (eval iter X.env) use) Qf X.xe s := by
  have captured : ∀ y ∈ scope.names, y.2 = .free → ∃ c, X.env.cells.lookup y.1 = some c := fun y hy e => by
    rcases ok.free y hy e with q | q
    · exact I.ok.has _ (.inl q)
    · exact I.ok.has _ (.inr q)
  refine wpAny_comprehension_free (use := use) rfl fold (closure_ok captured) ok.kind (fun y hy e => by rw [ok.uniq y hy, e])
    (thn (hi.run pins s σ H _ I h) fun xv r1 hx => thn hx fun itv r2 h2 => ?_)
  obtain ⟨it, fp, tn, J, H2, e, I2, T, st2, f2, q⟩ := h2
  subst e
  refine newSet_ok (newEnv_comp ?_)
  generalize eD : r2.heap.objs.size = D
  have fresh : H2 D = none := I2.hok.fresh (Nat.le_of_eq eD)
  obtain ⟨W, ⟨m0, w0⟩, turn⟩ := q D fresh
  generalize e3 : ({ r2 with heap := r2.heap.push { cls := .type "set", dict := none, data := .set #[] 0 (.fresh 0 0 (!X.w.params.followText "set-order")) } } : Shared) = r3
  have I3 : Inv X pins σ (upd H2 D (SetTO X.prog X.w D [])) r3 := by
    rw [← e3]
    refine I2.laid (t' := r2.toks) (fun b o e => Heap.get?_push_of_some _ e) (Nat.le_of_eq eD) ?_
    rw [← eD]
    exact setTO_new setT_new0
  have hp3 : r3.heap = r2.heap.push { cls := .type "set", dict := none, data := .set #[] 0 (.fresh 0 0 (!X.w.params.followText "set-order")) } := by rw [← e3]
  have below : ∀ b ∈ fp, b < r2.heap.objs.size := fun b hb => by
    obtain ⟨o, e, _⟩ := T.obj _ _ st2 b hb
    exact Heap.lt_size e
  have f3 : ∀ b ∈ fp, FpOk X pins (upd H2 D (SetTO X.prog X.w D [])) b ∧ b < r3.heap.objs.size := fun b hb => by
    have lt := below b hb
    refine ⟨⟨?_, (f2 b hb).2⟩, by rw [hp3, Heap.size_push]; exact Nat.lt_succ_of_lt lt⟩
    rw [upd_ne (by rw [← eD]; exact Nat.ne_of_lt lt)]
    exact (f2 b hb).1
  have st3 : tn 0 r3.heap := T.keep _ _ _ st2 fun b _ o e => by rw [hp3]; exact Heap.get?_push_of_some _ e
  have I4 := block_start I3 ok nodup f3
  have pgo := hg r3 (upd H2 D (SetTO X.prog X.w D [])) r3.heap.objs.size (cellsFrom (r3.heap.objs.size + 1) scope.names (cloFrom X.env.cells scope.names [])) fp
  have pte := ht r3 (upd H2 D (SetTO X.prog X.w D [])) r3.heap.objs.size (cellsFrom (r3.heap.objs.size + 1) scope.names (cloFrom X.env.cells scope.names [])) fp
  have pel := he r3 (upd H2 D (SetTO X.prog X.w D [])) r3.heap.objs.size (cellsFrom (r3.heap.objs.size + 1) scope.names (cloFrom X.env.cells scope.names [])) fp
  show codeAny _ _ (.compStart (.SetComp elt [⟨tg, iter, ifs, 0⟩] scope pos) 0 (.ref it) (.ref D) (compEnvC scope (cellsFrom (r3.heap.objs.size + 1) scope.names (cloFrom X.env.cells scope.names [])) r3.heap.objs.size X.env)) (compPost (model X.prog X.w) X.A X.xe use Qf (.ref D) r3.heap.objs.size) { r3 with heap := pushCells (r3.heap.push { cls := .type "dict", data := .dict #[] }) scope.names }
  have nfp : ∀ b ∈ fp, (upd H2 D (SetTO X.prog X.w D [])) b = none := fun b hb => (f3 b hb).1.1
  generalize ece : compEnvC scope (cellsFrom (r3.heap.objs.size + 1) scope.names (cloFrom X.env.cells scope.names [])) r3.heap.objs.size X.env = ce at I4 pgo pte pel ⊢
  have eL : ce.locals = r3.heap.objs.size := by subst ece; rfl
  generalize eH3 : upd H2 D (SetTO X.prog X.w D []) = H3 at I3 I4 pgo pte pel w0 nfp f3
  generalize e4 : ({ r3 with heap := pushCells (r3.heap.push { cls := .type "dict", data := .dict #[] }) scope.names } : Shared) = r4 at I4 ⊢
  have st4 : tn 0 r4.heap := T.keep _ _ _ st3 fun b _ o e => by rw [← e4]; exact pushCells_keeps _ _ _ _ (Heap.get?_push_of_some _ e)
  have stat : ∀ {σ' : L2.St} {H' : Hp} {s' : Shared}, Inv (X.blk r3 H3 scope ce fp) [] σ' H' s' → (∀ b ∈ fp, H' b = none) → ∀ b ∈ fp, FpOk (X.blk r3 H3 scope ce fp) [] H' b := by
    intro σ' H' s' I' hn b hb
    exact ⟨hn b hb, (I'.ok.exf b hb).1, I'.ok.exfs b hb, .inl hb, fun x c e => (I'.ok.exf b hb).2 x c e, fun p hp => absurd (show p ∈ ([] : List (Addr × Obj)) ++ [] from hp) (by simp)⟩
  have loop : codeAny (model X.prog X.w) X.A (.compLoop (.SetComp elt [⟨tg, iter, ifs, 0⟩] scope pos) 0 (.ref it) (.ref D) ce) (compPost (model X.prog X.w) X.A X.xe use Qf (.ref D) r3.heap.objs.size) r4 := by
    refine compLoopS_any (fun n s' => ∃ i H', Inv (X.blk r3 H3 scope ce fp) [] (wipe σ (own.map (·.2))) H' s' ∧ tn i s'.heap ∧ (∀ b ∈ fp, H' b = none) ∧ W i n H') ?_ m0 ⟨0, H3, I4, st4, nfp, w0⟩
    rintro n r5 ⟨i, H5, I5, st5, n5, w5⟩
    rcases turn i n H5 w5 with ⟨stop, qq⟩ | ⟨go, Nx, hNx, step⟩
    · have td := T.done (X.blk r3 H3 scope ce fp) rfl rfl rfl calm i [] r5 _ H5 (fun _ _ => False) I5 (stat I5 n5) st5 stop
      refine thnF td fun r r6 ⟨hr, I6⟩ => ?_
      subst hr
      have I7 : Inv X pins σ H5 r6 := I3.call' (ch := fp) I6.os I6.base I6.hok I6.bare fun b hb => ⟨(f3 b hb).1.2.2.2.1, (f3 b hb).1.2.1, (f3 b hb).1.2.2.2.2.1, (f3 b hb).1.2.2.2.2.2⟩
      have nC : H5 r3.heap.objs.size = none := by
        have z : H5 ce.locals = none := I6.free
        rwa [eL] at z
      obtain ⟨m, hn, _⟩ := I6.loc
      have hn' : r6.heap.Ns ce.locals m := hn
      rw [eL] at hn'
      exact after D r3.heap.objs.size r6 m H5 I7 qq hn' (I3.fpOk (Nat.le_refl _) nC)
    · have ti := T.item (X.blk r3 H3 scope ce fp) rfl rfl rfl calm i [] r5 _ H5 (fun _ _ => False) I5 (stat I5 n5) st5 go
      refine thnF ti fun r r6 ⟨u, hr, h6⟩ => ?_
      subst hr
      refine thnF h6 fun _ r7 ⟨x, H7, I7, rl7, y7, st7, n7⟩ => ?_
      have I7' := I7.pinned (stat I7 n7) (T.obj _ _ st7)
      refine thnF (pgo.run _ r7 _ H7 x u _ I7' rl7 (step x H7 y7)) fun _ r8 ⟨σ8, H8, I8, hw8, q8⟩ => ?_
      refine thnF (pte.run _ r8 σ8 H8 _ I8 q8) fun b r9 ⟨H9, I9, q9⟩ => ?_
      have fin : ∀ {s' : Shared} {H' : Hp}, Inv (X.blk r3 H3 scope ce fp) ([] ++ pinsAt fp r7.heap) σ8 H' s' → Nx H' → ∃ m, m < n ∧ ∃ i H', Inv (X.blk r3 H3 scope ce fp) [] (wipe σ (own.map (·.2))) H' s' ∧ tn i s'.heap ∧ (∀ b ∈ fp, H' b = none) ∧ W i m H' := by
        intro s' H' I' nx
        obtain ⟨m', hm, w'⟩ := hNx H' nx
        have pin' : ∀ b ∈ fp, ∀ o, r7.heap.get? b = some o → s'.heap.get? b = some o ∧ H' b = none := fun b hb o e =>
          have z := I'.pin (b, o) (List.mem_append_right _ (List.mem_append_right _ (mem_pinsAt hb e)))
          ⟨z.1, z.2.1⟩
        have len : (wipe σ (own.map (·.2))).length = σ8.length := by rw [← hw8, wipe_length]
        refine ⟨m', hm, i + 1, H', (I'.unpinned (pins := [])).weak len (fun j v e => ?_), T.keep _ _ _ st7 fun b hb o e => (pin' b hb o e).1, fun b hb => ?_, w'⟩
        · rw [← hw8] at e
          exact (wipe_some e).1
        · obtain ⟨o, e, _⟩ := T.obj _ _ st7 b hb
          exact (pin' b hb o e).2
      cases b with
      | false =>
        simp only [Bool.false_eq_true, if_false] at q9 ⊢
        exact fin I9 q9
      | true =>
        simp only [if_true] at q9 ⊢
        refine thnF (pel.run _ r9 σ8 H9 _ I9 q9) fun z r10 ⟨yv, H10, I10, rl10, xa, k, L, ey, hx10, hD10, hL10, few, nx⟩ => ?_
        subst ey
        cases (show z = Value.ref xa from rl10)
        exact addT_ok (X := X.blk r3 H3 scope ce fp) I10 hD10 hL10 hx10 hu few fun r11 L' I11 c1 c2 => fin I11 (nx L' c1 c2)
  exact codeAny_compStart_set loop (T.self X.A 0 _ _ _ st4 loop)
theorem pe_scT {elt tg iter : Expr} {ifs : List Expr} {scope : Scope} {own : List (PySem.Str × Nat)} {pos : Pos} {wi : TI} {g : TG} {tt : TT} {te : TE} (hu : X.A.units + 8 < cLine) (calm : X.calm = true) (nodup : X.N.Nodup) (hi : PI X tg iter wi) (ok : BlkOk X.N X.env.scope scope own)
    (hg : ∀ (z : Shared) (H : Hp) (C : Addr) (cl : List (PySem.Str × Addr)) (fp : List Addr), PG (X.blk z H scope (compEnvC scope cl C X.env) fp) tg g) (ht : ∀ (z : Shared) (H : Hp) (C : Addr) (cl : List (PySem.Str × Addr)) (fp : List Addr), PTs (X.blk z H scope (compEnvC scope cl C X.env) fp) ifs tt)
    (he : ∀ (z : Shared) (H : Hp) (C : Addr) (cl : List (PySem.Str × Addr)) (fp : List Addr), PE (X.blk z H scope (compEnvC scope cl C X.env) fp) elt te) (fold : ∀ x, foldedSetIterable iter X.env x = pure x := by intro _; rfl) :
    PE X (.SetComp elt [⟨tg, iter, ifs, 0⟩] scope pos) (tScT X.prog X.K X.w wi g tt te (own.map (·.2))) := by
  refine ⟨fun pins s σ H Q I h => ?_⟩
  rw [eval_SetComp]
  refine scT_core hu calm nodup I hi ok hg ht he fold h fun D C s' m H' I' q hn f => ⟨m, hn, fun h'' sb => ?_⟩
  obtain ⟨f0, f1, f2, f3, f4, f5⟩ := f
  exact ⟨.ref D, H', I'.turned (t' := s'.toks) (fun b o hb e => (sb.2 b hb).trans e) f0 f1 f3 f4 f5, rfl, q⟩
end
end G

/-! ## G8: bounds and bundles: what the predicates say of data -/
namespace G
open PySem PySem.Spec PyProof.Rows L2
def leD : PyData → PyData → Bool
  | .int a, .int b => decide (a ≤ b)
  | _, _ => false
def isBoundD : PyData → Bool
  | .tuple [x, y] => betw x 0 1000000000000000000000000000000 && (betw y 0 1000000000000000000000000000000 && leD x y)
  | _ => false
def areBoundsD : PyData → Bool
  | .list ds => decide (2 ≤ ds.length) && decide (ds.length ≤ 10) && ds.all isBoundD
  | _ => false
def isBundleD (n : Int) : PyData → Bool
  | .tuple [x, y, z] => betw z 1 1000000000000000000 && (betw x 0 (n - 1) && (betw y 0 (n - 1) && ltD x y))
  | _ => false
/-- the first two ints of a tuple -/
def pairOf : PyData → List Int
  | .tuple (.int a :: .int b :: _) => [a, b]
  | _ => []
def areBundlesD (n : Int) : PyData → Bool
  | .list ds => decide (ds.length ≤ 45) && ds.all (isBundleD n) && decide ((ds.map pairOf).Nodup)
  | _ => false
def sp_is_bound (K : PySem.W.Frag) : Sp := fun vs H Q _ => ∃ v d, vs = [v] ∧ Da K H v d ∧ Q (.bl (isBoundD d)) H
def sp_is_bundle (K : PySem.W.Frag) : Sp := fun vs H Q _ => ∃ v d n, vs = [v, .int n] ∧ Da K H v d ∧ Q (.bl (isBundleD n d)) H
def sp_are_bounds (K : PySem.W.Frag) : Sp := fun vs H Q _ => ∃ v d, vs = [v] ∧ Da K H v d ∧ ∀ H', Same H H' → Q (.bl (areBoundsD d)) H'
def sp_are_bundles (K : PySem.W.Frag) : Sp := fun vs H Q _ => ∃ v d n, vs = [v, .int n] ∧ Da K H v d ∧ ∀ H', Same H H' → Q (.bl (areBundlesD n d)) H'
theorem isBoundD_len {ds : List PyData} (h : ds.length ≠ 2) : isBoundD (.tuple ds) = false := by
  match ds, h with
  | [], _ => rfl
  | [_], _ => rfl
  | [_, _], h => exact absurd rfl h
  | _ :: _ :: _ :: _, _ => rfl
theorem isBundleD_len {n : Int} {ds : List PyData} (h : ds.length ≠ 3) : isBundleD n (.tuple ds) = false := by
  match ds, h with
  | [], _ => rfl
  | [_], _ => rfl
  | [_, _], _ => rfl
  | [_, _, _], h => exact absurd rfl h
  | _ :: _ :: _ :: _ :: _, _ => rfl
theorem len_ne {a : Nat} {b : Int} (h : ¬ (a : Int) = b) : (!decide (V.int (a : Int) = V.int b)) = true := by
  rw [decide_eq_false (fun q => h (V.int.inj q))]
  rfl
theorem bundle_shape {n : Int} {d : PyData} (h : isBundleD n d = true) : ∃ a b c : Int, d = .tuple [.int a, .int b, .int c] ∧ 0 ≤ a ∧ a < b ∧ b ≤ n - 1 ∧ 1 ≤ c ∧ c ≤ 1000000000000000000 := by
  match d, h with
  | .tuple [x, y, z], h =>
    simp only [isBundleD, Bool.and_eq_true] at h
    obtain ⟨h1, h2, h3, h4⟩ := h
    obtain ⟨c, rfl⟩ := betw_int h1
    obtain ⟨a, rfl⟩ := betw_int h2
    obtain ⟨b, rfl⟩ := betw_int h3
    simp only [betw, ltD, Bool.and_eq_true, decide_eq_true_eq] at h1 h2 h3 h4
    exact ⟨a, b, c, rfl, h2.1, h4, h3.2, h1.1, h1.2⟩
theorem bound_shape {d : PyData} (h : isBoundD d = true) : ∃ a b : Int, d = .tuple [.int a, .int b] ∧ 0 ≤ a ∧ a ≤ b ∧ b ≤ 1000000000000000000000000000000 := by
  match d, h with
  | .tuple [x, y], h =>
    simp only [isBoundD, Bool.and_eq_true] at h
    obtain ⟨h2, h3, h4⟩ := h
    obtain ⟨a, rfl⟩ := betw_int h2
    obtain ⟨b, rfl⟩ := betw_int h3
    simp only [betw, leD, Bool.and_eq_true, decide_eq_true_eq] at h2 h3 h4
    exact ⟨a, b, rfl, h2.1, h4, h3.2⟩
end G
namespace G
open PySem PySem.Spec PyProof.Rows L2
theorem su {A : Around} {k : Nat} (hr : Room k A) : A.units + 8 < cLine := Nat.lt_of_le_of_lt (Nat.add_le_add_left (by decide : 8 ≤ 64) _) hr.units
/-- a comprehension's set of pairs over a list -/
theorem sc_list {P : Program} {w : World} {K : PySem.W.Frag} {a : Addr} {xs : List V} {g : TG} {tt : TT} {te : TE} {vs : List Nat} {σ : L2.St} {H1 : Hp} {D : Addr} {Qd : Hp → Prop} (Pv : Nat → Hp → Prop) (h0 : Pv 0 (upd H1 D (SetTO P w D []))) (hl : ∀ i H, i ≤ xs.length → Pv i H → SqL K H a xs)
    (hs : ∀ i x H, xs[i]? = some x → Pv i H → g x (wipe σ vs) H fun σ2 H2 => wipe σ2 vs = wipe σ vs ∧ tt σ2 H2 fun b H3 =>
      if b = true then te σ2 H3 fun y H4 => ∃ (x : Addr) (k : List Int) (L : List (Addr × List Int)), y = .ref x ∧ SqT K H4 x (k.map V.int) ∧ H4 D = some (SetTO P w D L) ∧ (∀ p ∈ L, SqT K H4 p.1 (p.2.map V.int)) ∧ L.length + 1 < 64 ∧
        ∀ L', (k ∈ L.map (·.2) → L' = L) → (k ∉ L.map (·.2) → L'.Perm ((x, k) :: L)) → Pv (i + 1) (upd H4 D (SetTO P w D L')) else Pv (i + 1) H3) (hd : ∀ H, Pv xs.length H → Qd H) :
    ∃ W : Nat → Nat → Hp → Prop, (∃ m, W 0 m (upd H1 D (SetTO P w D []))) ∧ ∀ i m H, W i m H →
      ((Itl K a).stop i H ∧ Qd H) ∨ ((Itl K a).go i H ∧ ∃ Nx : Hp → Prop, (∀ H', Nx H' → ∃ m', m' < m ∧ W (i + 1) m' H') ∧ ∀ x H', (Itl K a).yld i H x H' → g x (wipe σ vs) H' fun σ2 H2 => wipe σ2 vs = wipe σ vs ∧ tt σ2 H2 fun b H3 =>
        if b = true then te σ2 H3 fun y H4 => ∃ (x : Addr) (k : List Int) (L : List (Addr × List Int)), y = .ref x ∧ SqT K H4 x (k.map V.int) ∧ H4 D = some (SetTO P w D L) ∧ (∀ p ∈ L, SqT K H4 p.1 (p.2.map V.int)) ∧ L.length + 1 < 64 ∧
          ∀ L', (k ∈ L.map (·.2) → L' = L) → (k ∉ L.map (·.2) → L'.Perm ((x, k) :: L)) → Nx (upd H4 D (SetTO P w D L')) else Nx H3) := by
  refine ⟨fun i m H => m = xs.length - i ∧ i ≤ xs.length ∧ Pv i H, ⟨xs.length, by simp, Nat.zero_le _, h0⟩, ?_⟩
  rintro i m H ⟨rfl, hi, p⟩
  have q := hl i H hi p
  have wk : Walk (Itl K a) xs.length (fun H => SqL K H a xs) (YAt xs) := walk_list
  by_cases hlt : i < xs.length
  · refine Or.inr ⟨wk.goes i H hlt q, Pv (i + 1), fun H' p' => ⟨xs.length - (i + 1), by omega, rfl, hlt, p'⟩, fun x H' y => ?_⟩
    obtain ⟨e, ex⟩ := wk.yields i H x H' hlt q y
    subst e
    exact hs i x H' ex p
  · have e : i = xs.length := by omega
    subst e
    exact Or.inl ⟨wk.stops H q, hd H p⟩
/-- how many of the first i have been met: what the set's size says -/
structure Met (ps : List (List Int)) (i : Nat) (L : List (Addr × List Int)) : Prop where
  le : L.length ≤ i
  iff : L.length = i ↔ (ps.take i).Nodup
  mem : ∀ k, k ∈ L.map (·.2) ↔ k ∈ ps.take i
theorem Met.zero (ps : List (List Int)) : Met ps 0 [] := ⟨Nat.le_refl _, by simp, by simp⟩
theorem Met.step {ps : List (List Int)} {i : Nat} {L L' : List (Addr × List Int)} {x : Addr} {k : List Int} (m : Met ps i L) (hk : ps[i]? = some k) (c1 : k ∈ L.map (·.2) → L' = L) (c2 : k ∉ L.map (·.2) → L'.Perm ((x, k) :: L)) : Met ps (i + 1) L' := by
  have et : ps.take (i + 1) = ps.take i ++ [k] := by rw [List.take_succ, hk]; rfl
  have nd : (ps.take (i + 1)).Nodup ↔ (ps.take i).Nodup ∧ k ∉ ps.take i := by
    rw [et, List.nodup_append]
    constructor
    · rintro ⟨h1, _, h3⟩
      exact ⟨h1, fun hm => h3 k hm k (by simp) rfl⟩
    · rintro ⟨h1, h2⟩
      refine ⟨h1, by simp, fun a ha b hb => ?_⟩
      rw [List.mem_singleton] at hb
      subst hb
      exact fun e => h2 (e ▸ ha)
  have hle := m.le
  rcases Classical.em (k ∈ L.map (·.2)) with h | h
  · rw [c1 h]
    refine ⟨by omega, ?_, fun j => ?_⟩
    · rw [nd]
      constructor
      · intro e
        omega
      · rintro ⟨_, h2⟩
        exact absurd ((m.mem k).mp h) h2
    · rw [m.mem j, et, List.mem_append, List.mem_singleton]
      constructor
      · exact Or.inl
      · rintro (h' | rfl)
        · exact h'
        · exact (m.mem _).mp h
  · have pm := c2 h
    have hl := pm.length_eq
    rw [List.length_cons] at hl
    refine ⟨by omega, ?_, fun j => ?_⟩
    · rw [nd, ← m.iff]
      constructor
      · intro e
        exact ⟨by omega, fun hm => h ((m.mem k).mpr hm)⟩
      · rintro ⟨e, _⟩
        omega
    · rw [(pm.map (·.2)).mem_iff, List.map_cons, List.mem_cons, m.mem j, et, List.mem_append, List.mem_singleton]
      constructor
      · rintro (rfl | h')
        · exact Or.inr rfl
        · exact Or.inl h'
      · rintro (h' | rfl)
        · exact Or.inr h'
        · exact Or.inl rfl
end G
namespace G
open PySem PySem.Spec PyProof.Rows L2
theorem sqt_mut {K : PySem.W.Frag} {H : Hp} {a M : Addr} {xs : List V} {o : HO} {φ : Heap → Prop} (h : SqT K H a xs) (hM : H M = some (.ext φ)) : SqT K (upd H M o) a xs := by
  rcases h with (h | ⟨u, h⟩) | h
  · exact .inl (.inl (by rw [upd_ne (ne_of h hM (by intro z; cases z))]; exact h))
  · exact .inl (.inr ⟨u, by rw [upd_ne (ne_of h hM (by intro z; cases z))]; exact h⟩)
  · exact .inr h
theorem same_mut {H H' : Hp} {M : Addr} {o : HO} (s : Same H H') (h : H M = none) : Same H (upd H' M o) := fun b u e => by
  rw [upd_ne (ne_of_none e h)]
  exact s _ _ e
end G

/-! ## G9: list.count of data; comprehensions whose items are data -/
namespace G
open PySem PySem.Spec PyProof.Rows L2
section
variable {X : Cx}
/-- l.count(x) -/
def rCountD (K : PySem.W.Frag) : V → List V → Hp → VK → Prop := fun x xs H Q => ∃ (a : Addr) (y : V) (d : PyData) (ds : List PyData), x = V.ref a ∧ xs = [y] ∧ Dp K H (V.ref a) (.list ds) ∧ Dp K H y d ∧ SeqAt.shaped (.list ds) = true ∧ SeqAt.shaped d = true ∧
  Q (.int ((ds.countP fun z => PyData.eqv z d : Nat) : Int)) H
theorem kcount (K : PySem.W.Frag) (hu : X.A.units + 65 < cLine) (hK : X.K = K := by rfl) : MtR X "list.count" (rCountD K) := by
  subst hK
  intro pins s σ H x xs v us Q I rx rxs h
  obtain ⟨a, y, d, ds, rfl, rfl, hl, hy, sl, sd, q⟩ := h
  cases rx
  obtain ⟨uy, rfl, ry⟩ := rxs.one
  obtain ⟨bs, r1⟩ := Dp.reads I d y uy hy ry
  have lay : PyData.canLayAll0 ds = true := SeqAt.canLay_of_shaped sl
  cases hl with
  | lst hs ha =>
    obtain ⟨its, rv, ⟨⟨cls, dd, data, sls⟩, n, ho, hc, hdn, hdt⟩, hlen⟩ := I.list hs
    simp only at hc hdt
    subst hc hdt
    obtain ⟨as, h4⟩ := Dp.readsAll I ds _ its ha rv
    have hmap : its.map (SeqAt.readOf s.heap) = ds := SeqAt.readsAll_map ds its as lay h4
    refine call_meets PySem.F.slot_list_count ⟨_, ho, rfl⟩ PySem.F.entry_list_count (PySem.F.args_list_count_2 _ _)
      (SeqAt.list_countAt a its.toArray n dd sls uy (fun u => PyData.eqv (SeqAt.readOf s.heap u) d)) ⟨ho, SeqAt.items_eqAt (vs := its.toArray) (show ReadsAll s.heap its.toArray.toList ds as from h4) r1 lay (SeqAt.canLay_of_shaped sd) (room_in_shaped sd hu), ?_⟩
    have ec : its.toArray.toList.countP (fun u => PyData.eqv (SeqAt.readOf s.heap u) d) = ds.countP fun z => PyData.eqv z d := by
      rw [← hmap, List.countP_map]
      rfl
    rw [ec]
    exact ⟨.int _, H, I.tok _, ⟨_, rfl⟩, q⟩
variable {o e : Expr} {es : List Expr} {to : TE} {t : TA} {name : Str} {apos cpos : Pos} {T id : String} {r : V → List V → Hp → VK → Prop}
/-- a method of a built-in type, the written part a letter -/
theorem kbm (K : PySem.W.Frag) (pa : PlainAttrs T) (slot : Slot T name id) (hty : typeOf (.builtin id) = pure (.type "method_descriptor")) (hm : MtR X id r) (ho : PE X o to) (ha : PA X (e :: es) t)
    (hK : X.K = K := by rfl) (hbase : attributeBase o name X.env (eval o X.env) = eval o X.env := by rfl)
    (hfew : ((backTo cpos (starEach (e :: es) X.env)).all (fun x => !x.1) && (backToKw cpos (keywordEach [] X.env)).all (fun x => x.1.isSome) && decide ((e :: es).length + ([] : List Keyword).length + (if ([] : List Keyword).isEmpty then 0 else 1) < 30)) = true := by rfl)
    (hline : (apos.endLine == cpos.line) = true := by rfl) (hs : starEach (e :: es) X.env = (false, eval e X.env) :: starEach es X.env := by rfl) (hplain : (backTo cpos (starEach es X.env)).any (·.1) = false := by rfl) :
    PE X (.Call (.Attribute o name apos) (e :: es) [] cpos) (tBM K T r to t) := by
  subst hK
  exact pe_bm pa slot hty hm ho ha hbase hfew hline hs hplain
theorem u65 {A : Around} {k : Nat} (hr : Room k A) : A.units + 65 < cLine := by have := hr.un; omega
end
theorem same_hid {H H' : Hp} {D : Addr} (s : Same H H') (h : H D = none) : Same H (hid D H') := fun a o e => by
  rw [hid_ne (ne_of_none e h)]
  exact s _ _ e
/-- a comprehension whose items are data -/
theorem lc_da {K : PySem.W.Frag} {J : It} {n : Nat} {Gd : Hp → Prop} {Y : Nat → Hp → V → Hp → Prop} (w : Walk J n Gd Y) {g : TG} {tt : TT} {te : TE} {vs : List Nat} {σ : L2.St} {H1 : Hp} {D : Addr} {Qd : Hp → Prop} (f : Nat → Option PyData) (hD : H1 D = none) (hz : n ≤ 100000)
    (hG : ∀ H, Same H1 H → Gd H)
    (hs : ∀ i x H H' l, i < n → Same H1 H → H D = some (.lst l) → Y i H x H' → ∀ (R1 : VK) (R0 : Hp → Prop), (∀ y d H4, f i = some d → Same H H4 → Da K (hid D H4) y d → R1 y H4) → (f i = none → ∀ H4, Same H H4 → R0 H4) →
      g x (wipe σ vs) H' fun σ2 H2 => wipe σ2 vs = wipe σ vs ∧ tt σ2 H2 fun b H3 => if b = true then te σ2 H3 R1 else R0 H3)
    (hd : ∀ H us, Same H1 H → H D = some (.lst us) → DaL K (hid D H) us ((List.range n).filterMap f) → Qd H) :
    ∃ W : Nat → Nat → Hp → Prop, (∃ m, W 0 m (upd H1 D (.lst []))) ∧ ∀ i m H, W i m H →
      (J.stop i H ∧ Qd H) ∨ (J.go i H ∧ ∃ Nx : Hp → Prop, (∀ H', Nx H' → ∃ m', m' < m ∧ W (i + 1) m' H') ∧ ∀ x H', J.yld i H x H' → g x (wipe σ vs) H' fun σ2 H2 => wipe σ2 vs = wipe σ vs ∧ tt σ2 H2 fun b H3 =>
        if b = true then te σ2 H3 fun y H4 => ∃ acc, H4 D = some (.lst acc) ∧ acc.length < sizeLine ∧ Nx (upd H4 D (.lst (acc ++ [y]))) else Nx H3) := by
  refine lc_it w (fun i H => Same H1 H ∧ ∃ us, H D = some (.lst us) ∧ DaL K (hid D H) us ((List.range i).filterMap f)) ⟨same_new hD, [], upd_same, .nil⟩ (fun i H _ p => hG H p.1) ?_ (fun H p => ?_)
  · rintro i x H H' hi ⟨s1, us, hus, hda⟩ y
    have hl : us.length ≤ i := by
      rw [hda.len]
      have q : ((List.range i).filterMap f).length ≤ (List.range i).length := List.length_filterMap_le f _
      rw [List.length_range] at q
      exact q
    refine hs i x H H' us hi s1 hus y _ _ (fun y d H4 hf e4 hy => ⟨us, e4 _ _ hus, ?_, ?_, us ++ [y], upd_same, ?_⟩) (fun hf H4 e4 => ⟨s1.trans e4, us, e4 _ _ hus, ?_⟩)
    · rw [sizeLine_eq]
      omega
    · exact same_mut (s1.trans e4) hD
    · rw [hid_upd, List.range_succ, List.filterMap_append]
      have ef : List.filterMap f [i] = [d] := by simp [hf]
      rw [ef]
      exact (hda.mono (hid_same e4)).app (.cons hy .nil)
    · rw [List.range_succ, List.filterMap_append]
      have ef : List.filterMap f [i] = [] := by simp [hf]
      rw [ef, List.append_nil]
      exact hda.mono (hid_same e4)
  · obtain ⟨s1, us, hus, hda⟩ := p
    exact hd H us s1 hus hda
theorem fmD_take (ys : List PyData) : ∀ n, n ≤ ys.length → (List.range n).filterMap (fun i => ys[i]?) = ys.take n
  | 0, _ => by simp
  | n + 1, h => by
    rw [List.range_succ, List.filterMap_append, fmD_take ys n (by omega), List.take_succ]
    have e : ys[n]? = some ys[n] := List.getElem?_eq_getElem (by omega)
    simp [e]
theorem fmD_get (ys : List PyData) : (List.range ys.length).filterMap (fun i => ys[i]?) = ys := by
  rw [fmD_take ys _ (Nat.le_refl _), List.take_length]
/-- xs filtered by place -/
theorem fmD_filter (ys : List PyData) (c : PyData → Bool) : ∀ n, n ≤ ys.length → (List.range n).filterMap (fun i => (ys[i]?).bind fun y => if c y = true then some y else none) = (ys.take n).filter c
  | 0, _ => by simp
  | n + 1, h => by
    rw [List.range_succ, List.filterMap_append, fmD_filter ys c n (by omega), List.take_succ, List.filter_append]
    have e : ys[n]? = some ys[n] := List.getElem?_eq_getElem (by omega)
    congr 1
    cases hc : c ys[n] <;> simp [e, hc]
/-! ### pairs that are met twice -/
def prI (p : List Int) : PyData := .tuple (p.map PyData.int)
theorem eqvAll_ints : ∀ p q : List Int, PyData.eqvAll (p.map PyData.int) (q.map PyData.int) = decide (p = q)
  | [], [] => by simp [PyData.eqvAll]
  | [], _ :: _ => by simp [PyData.eqvAll]
  | _ :: _, [] => by simp [PyData.eqvAll]
  | a :: p, b :: q => by
    rw [List.map_cons, List.map_cons, PyData.eqvAll, eqvAll_ints p q, PyData.eqv]
    by_cases h : a = b
    · subst h; simp
    · simp [h]
theorem eqv_prI (p q : List Int) : PyData.eqv (prI p) (prI q) = decide (p = q) := by
  show PyData.eqv (.tuple _) (.tuple _) = _
  rw [PyData.eqv, eqvAll_ints]
theorem count_prI (ps : List (List Int)) (q : List Int) : (ps.map prI).countP (fun z => PyData.eqv z (prI q)) = ps.count q := by
  rw [List.countP_map, List.count]
  congr 1
  funext p
  show PyData.eqv (prI p) (prI q) = (p == q)
  rw [eqv_prI]
  rw [Bool.eq_iff_iff]
  simp
theorem nodup_count : ∀ ps : List (List Int), ps.Nodup ↔ ∀ p ∈ ps, ps.count p ≤ 1
  | [] => by simp
  | a :: ps => by
    rw [List.nodup_cons, nodup_count ps]
    constructor
    · rintro ⟨h1, h2⟩ p hp
      rw [List.count_cons]
      rcases List.mem_cons.mp hp with rfl | hp
      · rw [List.count_eq_zero_of_not_mem h1]
        simp
      · have := h2 p hp
        have ne : ¬ (a == p) = true := fun e => h1 (by rw [eq_of_beq e]; exact hp)
        rw [if_neg ne]
        omega
    · intro h
      refine ⟨fun hm => ?_, fun p hp => ?_⟩
      · have q := h a List.mem_cons_self
        rw [List.count_cons_self] at q
        have := List.count_pos_iff.mpr hm
        omega
      · have q := h p (List.mem_cons_of_mem _ hp)
        have : ps.count p ≤ (a :: ps).count p := List.count_le_count_cons
        omega
theorem twice_nil (ps : List (List Int)) : (ps.filter fun p => decide (((ps.count p : Nat) : Int) > 1)).isEmpty = decide ps.Nodup := by
  rw [Bool.eq_iff_iff, List.isEmpty_iff, List.filter_eq_nil_iff, decide_eq_true_eq, nodup_count]
  constructor
  · intro h p hp
    have := h p hp
    simp only [decide_eq_true_eq] at this
    omega
  · intro h p hp
    have := h p hp
    simp only [decide_eq_true_eq]
    omega
end G
namespace G
open PySem PySem.Spec PyProof.Rows L2
theorem lay_pr (p : List Int) : (prI p).canLay0 = true := by
  show PyData.canLay0 (.tuple _) = true
  rw [PyData.canLay0]
  exact canLay_ints p
theorem lay_prs : ∀ ps : List (List Int), PyData.canLayAll0 (ps.map prI) = true
  | [] => rfl
  | p :: ps => by rw [List.map_cons, PyData.canLayAll0, lay_pr, lay_prs ps]; rfl
theorem depth_pr (p : List Int) : (prI p).depth = 1 := by
  show PyData.depth (.tuple _) = 1
  rw [PyData.depth, depth_ints]
theorem depth_prs : ∀ ps : List (List Int), PyData.depthAll (ps.map prI) ≤ 1
  | [] => by simp [PyData.depthAll]
  | p :: ps => by
    have h1 := depth_prs ps
    have h2 := depth_pr p
    simp only [List.map_cons, PyData.depthAll]
    omega
theorem shaped_pr (p : List Int) : SeqAt.shaped (prI p) = true := by
  unfold SeqAt.shaped
  rw [lay_pr, depth_pr]
  rfl
theorem shaped_prs (ps : List (List Int)) : SeqAt.shaped (.list (ps.map prI)) = true := by
  have h := depth_prs ps
  unfold SeqAt.shaped
  rw [PyData.canLay0, lay_prs, PyData.depth, Bool.true_and]
  exact decide_eq_true (by omega)
theorem eqv_nilP (ps : List (List Int)) : PyData.eqv (.list (ps.map prI)) (.list []) = ps.isEmpty := by
  cases ps <;> simp [PyData.eqv, PyData.eqvAll]
end G

/-! ## G10: t[::-1] of a tuple; rows of ints -/
namespace G
open PySem PySem.Spec PyProof.Rows L2
section
variable {prog : Program} {w : World} {A : Around} {E : Value → Shared → Prop} {s : Shared}
theorem adjust_rev (n : Nat) : Builtin.Slice.sliceAdjust none none (-1) (n : Int) = ((n : Int) - 1, -1) := by
  first
    | rfl
    | simp [Builtin.Slice.sliceAdjust]
theorem places_rev (n : Nat) : Builtin.Slice.slicePlaces ((n : Int) - 1) (-1) (-1) = n := by
  unfold Builtin.Slice.slicePlaces
  by_cases h : n = 0
  · subst h; decide
  · have e : ((n : Int) - 1 - -1 - 1) / (- -1) + 1 = (n : Int) := by
      rw [show (- -1 : Int) = 1 by decide, Int.ediv_one]
      omega
    simp
    omega
theorem fm_congr {α β : Type} {f g : α → Option β} : ∀ {l : List α}, (∀ m ∈ l, f m = g m) → l.filterMap f = l.filterMap g
  | [], _ => rfl
  | a :: l, h => by
    rw [List.filterMap_cons, List.filterMap_cons, h a List.mem_cons_self, fm_congr fun m hm => h m (List.mem_cons_of_mem _ hm)]
theorem pick_rev (xs : Array Value) : ((List.range xs.size).filterMap fun (m : Nat) => xs[((xs.size : Int) - 1 + (m : Int) * -1).toNat]?).toArray = xs.toList.reverse.toArray := by
  have e : (List.range xs.size).filterMap (fun (m : Nat) => xs[((xs.size : Int) - 1 + (m : Int) * -1).toNat]?) = ((List.range xs.size).map fun k => xs.size - 1 - k).filterMap (xs[·]?) := by
    rw [List.filterMap_map]
    refine fm_congr fun m hm => ?_
    have := List.mem_range.mp hm
    show _ = xs[xs.size - 1 - m]?
    rw [show ((xs.size : Int) - 1 + (m : Int) * -1).toNat = xs.size - 1 - m by omega]
  rw [e, PySem.W.krv_range, List.filterMap_reverse, PySem.W.krv_all]
theorem applied_rev {sl : Addr} {vl vu vs : Value} {n : Nat} {Q : Int × Int × Nat → Shared → Prop} (hs : s.heap.IsSliceOf sl vl vu vs) (pl : IsPart vl none) (pu : IsPart vu none) (ps : IsPart vs (some (-1)))
    (h : Q ((n : Int) - 1, -1, n) s) : wpAny (model prog w) A (Builtin.Slice.sliceApplied (.ref sl) (pure (n : Int))) Q E s := by
  obtain ⟨os, hos, hcs, hds⟩ := id hs
  unfold Builtin.Slice.sliceApplied Builtin.Slice.sliceFields
  refine wpAny_bind (wpAny_bind (wpAny_field hos hds (x := vl) rfl (wpAny_bind (wpAny_field hos hds (x := vu) rfl (wpAny_bind (wpAny_field hos hds (x := vs) rfl (wpAny_pure ?_)))))))
  refine wpAny_bind (HT.slicePart_ ps ?_)
  show wpAny _ _ (if ((-1 : Int) == 0) = true then _ else _) _ _ s
  rw [if_neg (by decide)]
  refine wpAny_bind (HT.slicePart_ pl (wpAny_bind (HT.slicePart_ pu (wpAny_bind (wpAny_pure ?_)))))
  show wpAny _ _ (match Builtin.Slice.sliceAdjust none none (-1) (n : Int) with | (lo, hi) => pure (lo, (-1 : Int), Builtin.Slice.slicePlaces lo hi (-1))) _ _ s
  rw [adjust_rev]
  show wpAny _ _ (pure ((n : Int) - 1, (-1 : Int), Builtin.Slice.slicePlaces ((n : Int) - 1) (-1) (-1))) _ _ s
  rw [places_rev]
  exact wpAny_pure h
theorem getItem_tuple_rev {t sl : Addr} {items : Array Value} {vl vu vs : Value} {Q : Value → Shared → Prop} (ht : IsTup s.heap t items) (hs : s.heap.IsSliceOf sl vl vu vs) (pl : IsPart vl none) (pu : IsPart vu none) (ps : IsPart vs (some (-1)))
    (h : Q (.ref s.heap.objs.size) { s with heap := s.heap.push { cls := .type "tuple", data := .seq items.toList.reverse.toArray } }) (hsz : items.size ≤ sizeLine) : wpAny (model prog w) A (getItem (.ref t) (.ref sl)) Q E s := by
  have fits : sizeOk (.seq items.toList.reverse.toArray) := by
    show items.toList.reverse.toArray.size ≤ sizeLine
    rw [List.size_toArray, List.length_reverse, Array.length_toList]
    exact hsz
  obtain ⟨os, hos, hcs, hds⟩ := id hs
  have hTs : s.TypeIs (.ref sl) "slice" := ⟨os, hos, hcs⟩
  unfold getItem
  try with_reducible refine wpAny_holding ?_
  first | refine wpAny_bind (wpAny_pure ?_) | skip
  refine wpAny_bind (wpAny_sequenceKey ht.typeIs (by decide) ?_)
  refine wpAny_bind (wpAny_callSpecial?_slot (name := Str.ofString "__getitem__") ht.typeIs PyProof.Rows.slot_tuple_getitem
    (wpAny_call_entry PyProof.Rows.slot_tuple_getitem ht.typeIs entry_tuple_getitem ?_ (args_tuple_getitem _ _)))
  show wpAny _ _ (Builtin.Tuple.tupleItemsOf (.ref t) >>= _) _ _ s
  refine wpAny_bind (tupleItemsOf_ ht ?_)
  refine wpAny_bind (wpAny_typeOf hTs ?_)
  rw [if_pos (by decide)]
  refine wpAny_bind (applied_rev hs pl pu ps ?_)
  show wpAny _ _ (if (((items.size : Int) - 1) == 0 && (-1 : Int) == 1 && items.size == items.size) = true then _ else _) _ _ s
  rw [if_neg (by simp), pick_rev]
  first
    | exact wpAny_bind (m := Builtin.Tuple.tupleExact _) (wpAny_newObj_type (wpAny_pure ⟨_, rfl, wpAny_pure h⟩) fits)
    | exact wpAny_bind (m := Builtin.Tuple.tupleExact _) (wpAny_newObj_type (wpAny_bind (wpAny_pure (wpAny_pure ⟨_, rfl, wpAny_pure h⟩))) fits)
    | exact wpAny_bind (wpAny_bind (m := Builtin.Tuple.tupleExact _) (wpAny_newObj_type (wpAny_pure (wpAny_pure ⟨_, rfl, wpAny_pure h⟩)) fits))
    | exact wpAny_bind (wpAny_bind (m := Builtin.Tuple.tupleExact _) (wpAny_newObj_type (wpAny_pure ⟨_, rfl, wpAny_pure h⟩) fits))
end
section
variable {X : Cx}
/-- t[::-1] -/
def tRevT (K : PySem.W.Frag) (te : TE) : TE := fun σ H Q => te σ H fun x H1 => ∃ a xs, x = .ref a ∧ SqT K H1 a xs ∧ ∀ p, H1 p = none → Q (.ref p) (upd H1 p (.tup xs.reverse))
theorem pe_revT {e : Expr} {te : TE} {k : Nat} {p1 p2 p3 pos : Pos} (he : PE X e te) : PE X (.Subscript e (.Slice none none (some (.UnaryOp .USub (.Constant (.int 1) k p1) p2)) p3) pos) (tRevT X.K te) := by
  refine ⟨fun pins s σ H Q I h => ?_⟩
  refine Subscript_ (thn (he.run pins s σ H _ I h) fun v s1 hv => ?_)
  obtain ⟨x, H1, I1, r1, a, xs, ex, hx, q⟩ := hv
  subst ex
  cases r1
  have step : PO X (some (.UnaryOp .USub (.Constant (.int 1) k p1) p2)) (tPart (tUn (rU fun i => .int (-i)) (tC (.int 1)))) := po_some (pe_un un_neg pe_int)
  refine wpAny_Slice (thn (po_none.run pins s1 σ H1 (fun o H2 => o = none ∧ H2 = H1) I1 ⟨rfl, rfl⟩) fun vl s2 hl => ?_)
  obtain ⟨l, H2, I2, pl, el, e2⟩ := hl
  subst el e2
  refine thn (po_none.run pins s2 σ H2 (fun o H3 => o = none ∧ H3 = H2) I2 ⟨rfl, rfl⟩) fun vu s3 hu => ?_
  obtain ⟨u, H3, I3, pu, eu, e3⟩ := hu
  subst eu e3
  refine thn (step.run pins s3 σ H3 (fun o H4 => o = some (-1) ∧ H4 = H3) I3 ⟨1, rfl, -1, rfl, rfl, rfl⟩) fun vs s4 hs => ?_
  obtain ⟨o, H4, I4, ps, eo, e4⟩ := hs
  subst eo e4
  have I5 : Inv X pins σ H4 { s4 with heap := s4.heap.push { cls := .type "slice", data := .fields #[vl, vu, vs] } } := I4.kept (t' := s4.toks) fun b ob q => Heap.get?_push_of_some _ q
  obtain ⟨its, r, ht, hz⟩ := I5.tuple hx
  have hlen := r.length
  show wpAny (model X.prog X.w) X.A (subscriptTail e (.Slice none none (some (.UnaryOp .USub (.Constant (.int 1) k p1) p2)) p3) (.ref a) (.ref s4.heap.objs.size)) (EP X pins σ Q) X.xe { s4 with heap := s4.heap.push { cls := .type "slice", data := .fields #[vl, vu, vs] } }
  refine tail_any (ops := [.ref a, .ref s4.heap.objs.size]) ht.typeIs (PyProof.Rows.slot_tuple_getitem.lookup) ?_ (by with_unfolding_all rfl)
  refine getItem_tuple_rev ht (Heap.IsSliceOf.new _ vl vu vs) pl pu ps ?_ (by rw [List.size_toArray]; omega)
  refine ⟨.ref _, _, I5.laid (t' := s4.toks) (o := .tup xs.reverse) (fun b ob q => Heap.get?_push_of_some _ q) (Nat.le_refl _) ?_, rfl, q _ (I5.hok.fresh (Nat.le_refl _))⟩
  exact ⟨by rw [List.length_reverse]; exact hz, its.reverse, r.reverse, (IsTup.new _ _ : IsTup _ _ its.toArray.toList.reverse.toArray)⟩
theorem krevT (K : PySem.W.Frag) {e : Expr} {te : TE} {k : Nat} {p1 p2 p3 pos : Pos} (he : PE X e te) (hK : X.K = K := by rfl) : PE X (.Subscript e (.Slice none none (some (.UnaryOp .USub (.Constant (.int 1) k p1) p2)) p3) pos) (tRevT K te) := by
  subst hK
  exact pe_revT he
theorem kcatT (K : PySem.W.Frag) (hK : X.K = K := by rfl) : OpR X (binaryOp .Add) (rCatA K) := by subst hK; exact op_catA
end
end G
namespace G
open PySem PySem.Spec PyProof.Rows L2
/-- at most 100 rows of one to three ints -/
def RowsOk (ps : List (List Int)) : Prop := ps.length ≤ 100 ∧ ∀ p ∈ ps, 1 ≤ p.length ∧ p.length ≤ 3 ∧ ∀ z ∈ p, z.natAbs < 10 ^ 45
theorem Go.sm2 {b L : Addr} {H H' : Hp} (g : Go b H H') : Same (hid L (hid b H)) (hid L (hid b H')) := hid_same g.sm
theorem hid2_upd {b L : Addr} {H : Hp} {o : HO} (n : L ≠ b) : hid L (hid b (upd H L o)) = hid L (hid b H) := by
  funext a
  by_cases h : a = L
  · subst h; rw [hid_at, hid_at]
  · rw [hid_ne h, hid_ne h]
    by_cases hb : a = b
    · subst hb; rw [hid_at, hid_at]
    · rw [hid_ne hb, hid_ne hb, upd_ne h]
theorem hid2_le {b L : Addr} {H : Hp} : Same (hid L (hid b H)) (hid b H) := hid_le
theorem da_newT2 {K : PySem.W.Frag} {b L p : Addr} {H : Hp} {o : HO} {vs : List V} {ds : List PyData} (hb : BagOk b H) (hL : H L = some o) (h : DaL K (hid L (hid b H)) vs ds) (hp : H p = none) : Da K (hid L (hid b (upd H p (.tup vs)))) (.ref p) (.tuple ds) := by
  refine .tup (.inl (.inl ?_)) (h.mono (hid_same (hid_same (same_new hp))))
  rw [hid_ne (ne_of_none hL hp).symm, hid_ne (hb.ne hp)]
  exact upd_same
/-- a new list of rows -/
def sp_rows (K : PySem.W.Frag) (b : Addr) (H : Hp) (Q : VK) : Prop := ∀ (a : Addr) (us : List V) (ps : List (List Int)) (H' : Hp), Go b H H' → a ≠ b → H' a = some (.lst us) → DaL K (hid b H') us (ps.map prI) → RowsOk ps → Q (.ref a) H'
def sp_some_bounds (K : PySem.W.Frag) : Sp := fun vs H Q _ => ∃ b, vs = [.ref b] ∧ BagOk b H ∧ sp_rows K b H Q
def sp_some_bundles (K : PySem.W.Frag) : Sp := fun vs H Q _ => ∃ b n, vs = [.ref b, .int n] ∧ BagOk b H ∧ 2 ≤ n ∧ n ≤ 10 ∧ sp_rows K b H Q
theorem c45 : 10 ^ 45 = 1000000000000000000000000000000000000000000000 := by decide
theorem RowsOk.snoc {ps : List (List Int)} {p : List Int} {n : Nat} (h : RowsOk ps) (hl : ps.length ≤ n) (hn : n < 100) (h1 : 1 ≤ p.length) (h2 : p.length ≤ 3) (h3 : ∀ z ∈ p, z.natAbs < 10 ^ 45) : RowsOk (ps ++ [p]) := by
  refine ⟨by rw [List.length_append, List.length_singleton]; omega, fun q hq => ?_⟩
  rcases List.mem_append.mp hq with hq | hq
  · exact h.2 q hq
  · rw [List.mem_singleton.mp hq]
    exact ⟨h1, h2, h3⟩
theorem RowsOk.nil : RowsOk [] := ⟨by decide, fun p hp => nomatch hp⟩
theorem RowsOk.rev {ps : List (List Int)} (h : RowsOk ps) : RowsOk ps.reverse := ⟨by rw [List.length_reverse]; exact h.1, fun p hp => h.2 p (List.mem_reverse.mp hp)⟩
end G

/-! ## G11: operations on data, where a bag stands at b -/
namespace G
open PySem PySem.Spec PyProof.Rows L2
section
variable {X : Cx}
/-- xs + ys -/
def rCatL (K : PySem.W.Frag) : R2 := fun x y H Q => ∃ l c xs zs, x = .ref l ∧ y = .ref c ∧ SqL K H l xs ∧ SqL K H c zs ∧ xs.length + zs.length ≤ sizeLine ∧ ∀ p, H p = none → Q (.ref p) (upd H p (.lst (xs ++ zs)))
theorem kcatL (K : PySem.W.Frag) (hK : X.K = K := by rfl) : OpR X (binaryOp .Add) (rCatL K) := by
  subst hK
  intro pins s σ H x y v u Q I rx ry h
  obtain ⟨l, c, xs, zs, rfl, rfl, hl, hc, hz, q⟩ := h
  cases rx
  cases ry
  obtain ⟨its, r1, ⟨⟨cls, dd, data, sl⟩, n, ho, k1, k2, k3⟩, _⟩ := I.list hl
  obtain ⟨its2, r2, ⟨⟨cls2, dd2, data2, sl2⟩, n2, ho2, k12, k22, k32⟩, _⟩ := I.list hc
  simp only at k1 k3 k12 k32
  subst k1 k3 k12 k32
  have e1 := r1.length
  have e2 := r2.length
  refine concat_meets ⟨_, ho, rfl⟩ ⟨_, ho2, rfl⟩ noFill_list_add seq_list_add PySem.F.slot_list_add PySem.F.entry_list_add (PySem.F.args_list_add_2 _ _) (list_addW l c its.toArray its2.toArray n n2 dd dd2 sl sl2 (by rw [List.size_toArray, List.size_toArray]; omega)) ⟨ho, ho2, ?_⟩
  have ea : its.toArray ++ its2.toArray = (its ++ its2).toArray := by simp
  rw [ea]
  exact ⟨.ref _, _, I.lnew (t' := s.toks) (r1.append r2) (by rw [List.length_append]; omega), rfl, q _ I.fresh⟩
end
section
variable {K : PySem.W.Frag} {b : Addr} {H : Hp} {x y : V} {dx dy : List PyData} {Q : VK}
theorem da_list {G : Hp} (h : Da K G x (.list dx)) : ∃ a us, x = .ref a ∧ SqL K G a us ∧ DaL K G us dx := by
  cases h with
  | lst a b => exact ⟨_, _, rfl, a, b⟩
theorem da_tup {G : Hp} (h : Da K G x (.tuple dx)) : ∃ a us, x = .ref a ∧ SqT K G a us ∧ DaL K G us dx := by
  cases h with
  | tup a b => exact ⟨_, _, rfl, a, b⟩
/-- a new list from such values -/
theorem newL_da (hb : BagOk b H) {us : List V} (h : DaL K (hid b H) us dx) (k : ∀ v H', Go b H H' → Da K (hid b H') v (.list dx) → Q v H') : ∀ p, H p = none → Q (.ref p) (upd H p (.lst us)) := fun p hp => k _ _ (Go.of hb (same_new hp)) (da_newL hb h hp)
theorem newT_da (hb : BagOk b H) {us : List V} (h : DaL K (hid b H) us dx) (k : ∀ v H', Go b H H' → Da K (hid b H') v (.tuple dx) → Q v H') : ∀ p, H p = none → Q (.ref p) (upd H p (.tup us)) := fun p hp => k _ _ (Go.of hb (same_new hp)) (da_newT hb h hp)
theorem catL_da (hb : BagOk b H) (h1 : Da K (hid b H) x (.list dx)) (h2 : Da K (hid b H) y (.list dy)) (hz : dx.length + dy.length ≤ 100000) (k : ∀ v H', Go b H H' → Da K (hid b H') v (.list (dx ++ dy)) → Q v H') : rCatL K x y H Q := by
  obtain ⟨a, us, rfl, s1, d1⟩ := da_list h1
  obtain ⟨c, ws, rfl, s2, d2⟩ := da_list h2
  exact ⟨a, c, us, ws, rfl, rfl, sql_up hid_le s1, sql_up hid_le s2, sz60 (by rw [d1.len, d2.len]; exact hz), newL_da hb (d1.app d2) k⟩
theorem catT_da (hb : BagOk b H) (h1 : Da K (hid b H) x (.tuple dx)) (h2 : Da K (hid b H) y (.tuple dy)) (hz : dx.length + dy.length ≤ 100000) (k : ∀ v H', Go b H H' → Da K (hid b H') v (.tuple (dx ++ dy)) → Q v H') : rCatA K x y H Q := by
  obtain ⟨a, us, rfl, s1, d1⟩ := da_tup h1
  obtain ⟨c, ws, rfl, s2, d2⟩ := da_tup h2
  refine ⟨a, c, us, ws, rfl, rfl, sqt_up hid_le s1, sqt_up hid_le s2, sz60 (by rw [d1.len, d2.len]; exact hz), fun e => ?_, fun _ e => ?_, fun _ _ => newT_da hb (d1.app d2) k⟩
  · subst e
    cases d1
    exact k _ H (Go.refl hb) h2
  · subst e
    cases d2
    rw [List.append_nil] at k
    exact k _ H (Go.refl hb) h1
theorem cut_da {G : Hp} {us : List V} (h : DaL K G us dx) (lo hi : Option Int) : ∃ n m, DaL K G (cutV us lo hi) ((dx.drop n).take m) := ⟨_, _, (h.drop _).take _⟩
theorem slL_da {lo hi : Option Int} (hb : BagOk b H) (h1 : Da K (hid b H) x (.list dx)) (k : ∀ v H' n m, Go b H H' → Da K (hid b H') v (.list ((dx.drop n).take m)) → Q v H') : rSlL K x lo hi H Q := by
  obtain ⟨a, us, rfl, s1, d1⟩ := da_list h1
  obtain ⟨n, m, dc⟩ := cut_da d1 lo hi
  exact ⟨a, us, rfl, sql_up hid_le s1, newL_da hb dc fun v H' g d => k v H' n m g d⟩
theorem slT_da {lo hi : Option Int} (hb : BagOk b H) (h1 : Da K (hid b H) x (.tuple dx)) (k : ∀ v H' n m, Go b H H' → Da K (hid b H') v (.tuple ((dx.drop n).take m)) → Q v H') : rSlA K x lo hi H Q := by
  obtain ⟨a, us, rfl, s1, d1⟩ := da_tup h1
  obtain ⟨n, m, dc⟩ := cut_da d1 lo hi
  refine ⟨a, us, rfl, sqt_up hid_le s1, fun _ => k _ H 0 dx.length (Go.refl hb) ?_, fun _ => newT_da hb dc fun v H' g d => k v H' n m g d⟩
  rw [List.drop_zero, List.take_length]
  exact h1
/-- l[v] -/
theorem ixL_da {v : Int} (h1 : Da K (hid b H) x (.list dx)) (h0 : 0 ≤ v) (hv : v < (dx.length : Int)) (k : ∀ u d, d ∈ dx → dx[v.toNat]? = some d → Da K (hid b H) u d → Q u H) : rIxL K x (.int v) H Q := by
  obtain ⟨a, us, rfl, s1, d1⟩ := da_list h1
  obtain ⟨u, d, e, hm, hd, hu⟩ := d1.pick h0 hv
  exact ⟨a, us, v, u, rfl, rfl, sql_up hid_le s1, e, k u d hm hd hu⟩
theorem ixT_da {v : Int} (h1 : Da K (hid b H) x (.tuple dx)) (h0 : 0 ≤ v) (hv : v < (dx.length : Int)) (k : ∀ u d, d ∈ dx → dx[v.toNat]? = some d → Da K (hid b H) u d → Q u H) : rIxT K x (.int v) H Q := by
  obtain ⟨a, us, rfl, s1, d1⟩ := da_tup h1
  obtain ⟨u, d, e, hm, hd, hu⟩ := d1.pick h0 hv
  exact ⟨a, us, v, u, rfl, rfl, sqt_up hid_le s1, e, k u d hm hd hu⟩
theorem lastT_da (h1 : Da K (hid b H) x (.tuple dx)) (hne : dx ≠ []) (k : ∀ u d, d ∈ dx → Da K (hid b H) u d → Q u H) : rIxT K x (.int (-1)) H Q := by
  obtain ⟨a, us, rfl, s1, d1⟩ := da_tup h1
  have hl := d1.len
  have hpos : 0 < dx.length := List.length_pos_iff.mpr hne
  obtain ⟨u, e, hu⟩ := d1.get (i := dx.length - 1) (List.getElem?_eq_getElem (by omega))
  refine ⟨a, us, -1, u, rfl, rfl, sqt_up hid_le s1, ?_, k u _ (List.getElem_mem _) hu⟩
  unfold atI ixN
  rw [if_neg (by decide), if_pos (by omega)]
  show us[((-1 : Int) + (us.length : Int)).toNat]? = some u
  rw [show ((-1 : Int) + (us.length : Int)).toNat = dx.length - 1 by omega]
  exact e
end
/-- sizes of texts of a list with one greater item -/
theorem sm_app {n A B C : Nat} {as bs : List PyData} {x : PyData} (ha : ∀ d ∈ as, Sm n A d) (hb : ∀ d ∈ bs, Sm n A d) (hx : Sm n C x) (hl : as.length + bs.length ≤ B) : Sm (n + 1) ((A + 2) * B + C + 5) (.list (as ++ [x] ++ bs)) := by
  obtain ⟨a1, a2, a3, a4⟩ := sm_all ha
  obtain ⟨b1, b2, b3, b4⟩ := sm_all hb
  obtain ⟨c1, c2, c3⟩ := hx
  have sapp : ∀ xs ys : List PyData, PyData.shownAll (xs ++ ys) = PyData.shownAll xs ++ PyData.shownAll ys := by
    intro xs ys
    induction xs with
    | nil => rfl
    | cons z xs ih => rw [List.cons_append, PyData.shownAll, PyData.shownAll, ih]; rfl
  have happ : ∀ xs ys : List PyData, PyData.showableAll (xs ++ ys) = (PyData.showableAll xs && PyData.showableAll ys) := by
    intro xs ys
    induction xs with
    | nil => simp [PyData.showableAll]
    | cons z xs ih => rw [List.cons_append, PyData.showableAll, PyData.showableAll, ih, Bool.and_assoc]
  have dapp : ∀ xs ys : List PyData, PyData.depthAll (xs ++ ys) = max (PyData.depthAll xs) (PyData.depthAll ys) := by
    intro xs ys
    induction xs with
    | nil => simp [PyData.depthAll]
    | cons z xs ih => rw [List.cons_append, PyData.depthAll, PyData.depthAll, ih, Nat.max_assoc]
  refine ⟨?_, ?_, ?_⟩
  · simp only [PyData.showable, happ, a1, b1, c1, PyData.showableAll, Bool.and_self]
  · simp only [PyData.depth, dapp, PyData.depthAll]
    omega
  · simp only [PyData.shown]
    have q := listText_len_le (PyData.shownAll (as ++ [x] ++ bs))
    rw [sapp, sapp] at q
    simp only [List.map_append, List.sum_append, List.length_append, PyData.shownAll, List.map_cons, List.map_nil, List.sum_cons, List.sum_nil, List.length_cons, List.length_nil, a4, b4] at q
    have m1 : A * as.length + A * bs.length ≤ A * B := by rw [← Nat.mul_add]; exact Nat.mul_le_mul_left _ hl
    have m2 : (A + 2) * B = A * B + 2 * B := Nat.add_mul _ _ _
    rw [sapp, sapp]
    simp only [PyData.shownAll]
    omega
theorem sm_prI {p : List Int} (h : p.length ≤ 3) (hz : ∀ z ∈ p, z.natAbs < 10 ^ 45) : Sm 1 147 (prI p) := Sm.tuple (n := 0) (B := 46) (m := 3) (fun d hd => by obtain ⟨z, h1, rfl⟩ := List.mem_map.mp hd; exact Sm.int (hz z h1)) (by rw [List.length_map]; exact h)
theorem RowsOk.sm {ps : List (List Int)} (h : RowsOk ps) : ∀ d ∈ ps.map prI, Sm 1 147 d := fun d hd => by
  obtain ⟨p, hp, rfl⟩ := List.mem_map.mp hd
  exact sm_prI (h.2 p hp).2.1 (h.2 p hp).2.2
theorem RowsOk.cut {ps : List (List Int)} (h : RowsOk ps) (n m : Nat) : RowsOk ((ps.drop n).take m) := ⟨by have := h.1; rw [List.length_take, List.length_drop]; omega, fun p hp => h.2 p (List.mem_of_mem_drop (List.mem_of_mem_take hp))⟩
theorem map_cut {α β : Type} (f : α → β) (ps : List α) (n m : Nat) : ((ps.map f).drop n).take m = ((ps.drop n).take m).map f := by rw [← List.map_drop, ← List.map_take]
end G
namespace G
open PySem PySem.Spec PyProof.Rows L2
def sp_bent (K : PySem.W.Frag) : Sp := fun vs H Q _ => ∃ b x ps, vs = [.ref b, x] ∧ BagOk b H ∧ Da K (hid b H) x (.list (ps.map prI)) ∧ RowsOk ps ∧ ∀ v d H', Go b H H' → Da K (hid b H') v d → Sm 7 4000000 d → Q v H'
end G
namespace G
open PySem PySem.Spec PyProof.Rows L2
theorem noPart {σ : L2.St} {H : Hp} {Q : Option Int → Hp → Prop} (h : Q none H) : tNoPart σ H Q := h
theorem cut_sm {n B : Nat} {ds : List PyData} (h : ∀ d ∈ ds, Sm n B d) (i j : Nat) : ∀ d ∈ (ds.drop i).take j, Sm n B d := fun d hd => h d (List.mem_of_mem_drop (List.mem_of_mem_take hd))
theorem app_sm {n B : Nat} {ds es : List PyData} (h : ∀ d ∈ ds, Sm n B d) (k : ∀ d ∈ es, Sm n B d) : ∀ d ∈ ds ++ es, Sm n B d := fun d hd => (List.mem_append.mp hd).elim (h d) (k d)
theorem cut_len {ds : List PyData} {N : Nat} (h : ds.length ≤ N) (i j : Nat) : ((ds.drop i).take j).length ≤ N := by
  rw [List.length_take, List.length_drop]
  omega
end G
namespace G
open PySem PySem.Spec PyProof.Rows L2
theorem tc_of {v : V} {σ : L2.St} {H : Hp} {Q : VK} (h : Q v H) : tC v σ H Q := h
end G

/-! ## G12: drawn nets: bundles, leads, bounds -/
namespace G
open PySem PySem.Spec PyProof.Rows L2
/-- a bundle: first, second, partitions -/
abbrev Bun := Int × Int × Int
def bI (t : Bun) : List Int := [t.1, t.2.1, t.2.2]
def bD (t : Bun) : PyData := prI (bI t)
def bkey (t : Bun) : Int × Int := (t.1, t.2.1)
structure BunOk (n : Int) (t : Bun) : Prop where
  f0 : 0 ≤ t.1
  fs : t.1 < t.2.1
  sn : t.2.1 < n
  p1 : 1 ≤ t.2.2
  pm : t.2.2 ≤ 1000000000000000000
structure BunsOk (n : Int) (bs : List Bun) : Prop where
  n2 : 2 ≤ n
  n10 : n ≤ 10
  len : bs.length ≤ 45
  each : ∀ t ∈ bs, BunOk n t
  nd : (bs.map bkey).Nodup
theorem BunsOk.rev {n : Int} {bs : List Bun} (h : BunsOk n bs) : BunsOk n bs.reverse := ⟨h.n2, h.n10, by rw [List.length_reverse]; exact h.len, fun t ht => h.each t (List.mem_reverse.mp ht), by rw [List.map_reverse]; exact (List.pairwise_reverse).mpr (h.nd.imp fun h => Ne.symm h)⟩
/-- bundles drawn pair by pair, up to the pair (i, j) -/
structure BunsTo (n i j : Int) (bs : List Bun) : Prop where
  each : ∀ t ∈ bs, BunOk n t
  lt : ∀ t ∈ bs, t.1 < i ∨ (t.1 = i ∧ t.2.1 < j)
  nd : (bs.map bkey).Nodup
theorem BunsTo.nil {n i j : Int} : BunsTo n i j [] := ⟨(fun t ht => (nomatch ht)), (fun t ht => (nomatch ht)), List.nodup_nil⟩
theorem BunsTo.on {n i j i' j' : Int} {bs : List Bun} (h : BunsTo n i j bs) (hl : i < i' ∨ (i = i' ∧ j ≤ j')) : BunsTo n i' j' bs := ⟨h.each, fun t ht => by have := h.lt t ht; omega, h.nd⟩
theorem BunsTo.snoc {n i j j' p : Int} {bs : List Bun} (h : BunsTo n i j bs) (o : BunOk n (i, j, p)) (hj : j < j') : BunsTo n i j' (bs ++ [(i, j, p)]) := by
  refine ⟨fun t ht => ?_, fun t ht => ?_, ?_⟩
  · rcases List.mem_append.mp ht with ht | ht
    · exact h.each t ht
    · rw [List.mem_singleton.mp ht]; exact o
  · rcases List.mem_append.mp ht with ht | ht
    · have := h.lt t ht
      omega
    · rw [List.mem_singleton.mp ht]
      exact Or.inr ⟨rfl, hj⟩
  · rw [List.map_append, List.nodup_append]
    refine ⟨h.nd, by simp, fun a ha c hc => ?_⟩
    obtain ⟨t, ht, rfl⟩ := List.mem_map.mp ha
    rw [List.map_singleton, List.mem_singleton] at hc
    subst hc
    intro e
    have e1 : t.1 = i := congrArg Prod.fst e
    have e2 : t.2.1 = j := congrArg Prod.snd e
    have := h.lt t ht
    omega
def tri : Nat → Nat
  | 0 => 0
  | i + 1 => tri i + (9 - i)
theorem tri45 : ∀ m, m ≤ 10 → tri m ≤ 45 := by decide
/-- _law_amount(bag, great) -/
def sp_amount : Sp := fun vs H Q _ => ∃ b g, vs = [.ref b, .bl g] ∧ BagOk b H ∧ ∀ (v : Int) H', 1 ≤ v → v ≤ 1000000000000000000 → Go b H H' → Q (.int v) H'
/-- _law_bundles(bag, size, great) -/
def sp_bundles (K : PySem.W.Frag) : Sp := fun vs H Q _ => ∃ b n g, vs = [.ref b, .int n, .bl g] ∧ BagOk b H ∧ 2 ≤ n ∧ n ≤ 10 ∧ ∀ (a : Addr) (us : List V) (bs : List Bun) (H' : Hp), Go b H H' → a ≠ b → H' a = some (.lst us) → DaL K (hid b H') us (bs.map bD) → BunsOk n bs → bs ≠ [] → Q (.ref a) H'
end G

/-! ## G13: zip of a list or a tuple with a list -/
namespace G
open PySem PySem.Spec PyProof.Rows L2
/-- at a stands a list (false) or a tuple (true) -/
def LT (K : PySem.W.Frag) (t : Bool) (a : Addr) (H : Hp) (xs : List V) : Prop := if t = true then SqT K H a xs else SqL K H a xs
def ItAt (t : Bool) (h : Heap) (j a : Addr) (n : Nat) : Prop := if t = true then h.IsTupleIter j a n else h.IsListIter j a n
def SeqAt (t : Bool) (h : Heap) (a : Addr) (its : Array Value) : Prop := if t = true then h.IsTuple a its else h.IsList a its
theorem drawsLT {P : Program} {w : World} {A : Around} (t : Bool) (hh : A.handled = none) (j a : Addr) (ne : a ≠ j) (its : Array Value) : Draws P w A j [j, a] its.size (fun i v => its[i]? = some v) (fun i h => ItAt t h j a i ∧ SeqAt t h a its) := by
  cases t
  · exact Draws.list hh j a ne its
  · exact Draws.tuple hh j a ne its
theorem lt_items {X : Cx} {pins : List (Addr × Obj)} {σ : L2.St} {H : Hp} {s : Shared} {t : Bool} {a : Addr} {xs : List V} (I : Inv X pins σ H s) (h : LT X.K t a H xs) : ∃ its, Vals xs its ∧ SeqAt t s.heap a its.toArray ∧ xs.length ≤ sizeLine := by
  cases t
  · obtain ⟨its, r, p, z⟩ := I.list (show SqL X.K H a xs from h)
    exact ⟨its, r, p.isList, z⟩
  · obtain ⟨its, r, p, z⟩ := I.tuple (show SqT X.K H a xs from h)
    exact ⟨its, r, p, z⟩
theorem lt_inj {X : Cx} {pins : List (Addr × Obj)} {σ : L2.St} {H : Hp} {s : Shared} {t : Bool} {a : Addr} {xs ys : List V} (I : Inv X pins σ H s) (h : LT X.K t a H xs) (k : LT X.K t a H ys) : xs = ys := by
  cases t
  · exact I.list_inj h k
  · exact I.tuple_inj h k
theorem lt_up {K : PySem.W.Frag} {t : Bool} {a : Addr} {H H' : Hp} {xs : List V} (e : Same H H') (h : LT K t a H xs) : LT K t a H' xs := by
  cases t
  · exact sql_up e h
  · exact sqt_up e h
theorem seq_lt {t : Bool} {h : Heap} {a : Addr} {its : Array Value} (x : SeqAt t h a its) : a < h.objs.size := by
  cases t
  · obtain ⟨o, e, _⟩ := (show h.IsList a its from x)
    exact Heap.lt_size e
  · obtain ⟨o, e, _⟩ := (show h.IsTuple a its from x)
    exact Heap.lt_size e
/-- what zip goes over: a at its place, the list at b -/
def ItzP (K : PySem.W.Frag) (t : Bool) (a b : Addr) : It :=
  ⟨fun i H => ∃ (xs ys : List V) (x y : V), LT K t a H xs ∧ SqL K H b ys ∧ xs[i]? = some x ∧ ys[i]? = some y,
    fun i H v H' => ∃ T x y, v = .ref T ∧ H T = none ∧ H' = upd H T (.tup [x, y]) ∧ (∀ xs, LT K t a H xs → xs[i]? = some x) ∧ ∀ ys, SqL K H b ys → ys[i]? = some y,
    fun i H => ∃ xs ys : List V, LT K t a H xs ∧ SqL K H b ys ∧ (xs.length = i ∧ i ≤ ys.length ∨ ys.length = i ∧ i ≤ xs.length)⟩
theorem turn_zipP {P : Program} {w : World} {K : PySem.W.Frag} {elts : List Expr} {kk : Nat} {tpos : Pos} {t : Bool} {a b z TI TO j1 j2 : Addr} (D : ZipSep2 z TI TO j1 j2 [j1, a] [j2, b]) (na : a ≠ j1) (nb : b ≠ j2) :
    Turn P w K (.Tuple elts kk tpos) (ItzP K t a b) [z, TI, TO, j1, j2] z (fun i h => IsZip h z TI TO .none ∧ IsPair h TI (.ref j1) (.ref j2) ∧ (∃ x y, IsPair h TO x y) ∧ ItAt t h j1 a i ∧ h.IsListIter j2 b i) where
  mem := by simp
  obj := fun i h st c hc => by
    obtain ⟨q1, q2, ⟨x, y, q3⟩, q4, ⟨o2, e2, _, d2⟩⟩ := st
    have q5 : ∃ o, h.get? j1 = some o ∧ ∀ v, o.data ≠ .cell v := by
      cases t
      · obtain ⟨o, e, _, d⟩ := (show h.IsListIter j1 a i from q4)
        exact ⟨o, e, fun v q => by rw [d] at q; cases q⟩
      · obtain ⟨o, e, _, d⟩ := (show h.IsTupleIter j1 a i from q4)
        exact ⟨o, e, fun v q => by rw [d] at q; cases q⟩
    obtain ⟨o1, e1, d1⟩ := q5
    rcases (by simpa using hc : c = z ∨ c = TI ∨ c = TO ∨ c = j1 ∨ c = j2) with rfl | rfl | rfl | rfl | rfl
    · exact ⟨_, q1, fun v q => nomatch q⟩
    · exact ⟨_, q2, fun v q => nomatch q⟩
    · exact ⟨_, q3, fun v q => nomatch q⟩
    · exact ⟨o1, e1, fun v q => d1 v q⟩
    · exact ⟨o2, e2, fun v q => by rw [d2] at q; cases q⟩
  keep := fun i h h' st k => by
    obtain ⟨q1, q2, ⟨x, y, q3⟩, q4, q5⟩ := st
    refine ⟨k z (by simp) _ q1, k TI (by simp) _ q2, ⟨x, y, k TO (by simp) _ q3⟩, ?_, q5.at fun o q => k j2 (by simp) o q⟩
    cases t
    · exact Heap.IsListIter.at (show h.IsListIter j1 a i from q4) fun o q => k j1 (by simp) o q
    · exact Heap.IsTupleIter.at (show h.IsTupleIter j1 a i from q4) fun o q => k j1 (by simp) o q
  item := by
    intro X hP hw hK hc i pins s σ H E I hf st hg
    subst hP hw hK
    obtain ⟨q1, q2, ⟨x0, y0, q3⟩, q4, q5⟩ := st
    obtain ⟨xs, ys, x, y, sx, sy, hx, hy⟩ := hg
    obtain ⟨its, rv, p, _⟩ := lt_items I sx
    obtain ⟨its2, rv2, p2, _⟩ := I.list sy
    obtain ⟨u, hu, ru⟩ := rv.get hx
    obtain ⟨u2, hu2, ru2⟩ := rv2.get hy
    have zlt : z < s.heap.objs.size := Heap.lt_size q1
    have D1 := drawsLT (P := X.prog) (w := X.w) (A := X.A.in1) t (I.ok.hd hc) j1 a na its.toArray
    have D2 := Draws.list (prog := X.prog) (w := X.w) (A := X.A.in1) (I.ok.hd hc) j2 b nb its2.toArray
    refine wpAny_pyNext_zipD2_item (A := X.A) D D1 D2 q1 q2 q3 ⟨q4, p⟩ ⟨q5, p2.isList⟩ (by rw [List.size_toArray]; exact (List.getElem?_eq_some_iff.mp hu).1) (by rw [List.size_toArray]; exact (List.getElem?_eq_some_iff.mp hu2).1) fun x1 x2 g tk y1 y2 z' TO' s1 s2 hT hsz hk => ?_
    have ex1 : x1 = u := by
      have := y1
      simp only [List.getElem?_toArray, hu] at this
      exact (Option.some.inj this).symm
    have ex2 : x2 = u2 := by
      have := y2
      simp only [List.getElem?_toArray, hu2] at this
      exact (Option.some.inj this).symm
    subst ex1 ex2
    refine ⟨_, rfl, wpAny_letOwnedTupleGo_zip (s := { s with heap := g, toks := tk }) z' fun g2 z2 sb => ?_⟩
    have hT2 : g2.get? s.heap.objs.size = some { cls := .type "tuple", data := .seq #[x1, x2] } := (sb.2 _ (Nat.ne_of_gt zlt)).trans hT
    have new : ObjOk X.prog X.w (upd H s.heap.objs.size (.tup [x, y])) g2 s.heap.objs.size (.tup [x, y]) :=
      ⟨by show 2 ≤ sizeLine; decide, [x1, x2], .cons ru (.cons ru2 .nil), ⟨_, hT2, rfl, _, rfl⟩⟩
    have kp : ∀ c o, c ∉ [z, TI, TO, j1, j2] → s.heap.get? c = some o → g2.get? c = some o := fun c o hb q => by
      simp only [List.mem_cons, List.not_mem_nil, or_false, not_or] at hb
      exact (sb.2 c hb.1).trans (hk c o hb.1 hb.2.2.1 hb.2.2.2.1 hb.2.2.2.2 q)
    have I1 : Inv X pins σ (upd H s.heap.objs.size (.tup [x, y])) { s with heap := g2, toks := tk } := I.turnedNew (t' := tk) (ch := [z, TI, TO, j1, j2]) kp hf (Nat.le_refl _) new
    refine ⟨.ref s.heap.objs.size, _, I1, rfl, ⟨_, x, y, rfl, I.hok.fresh (Nat.le_refl _), rfl, fun l hl => by rw [lt_inj I hl sx]; exact hx, fun l hl => by rw [I.list_inj hl sy]; exact hy⟩, ⟨z2, ?_, ⟨x1, x2, ?_⟩, ?_, ?_⟩, fun c hcm => ?_⟩
    · exact (sb.2 _ D.TIz).trans (hk _ _ D.TIz D.TITO D.TIi1 D.TIi2 q2)
    · exact (sb.2 _ D.TOz).trans TO'
    · have w1 := s1.1
      cases t
      · exact Heap.IsListIter.at (show g.IsListIter j1 a (i + 1) from w1) fun o q => (sb.2 _ D.zi1.symm).trans q
      · exact Heap.IsTupleIter.at (show g.IsTupleIter j1 a (i + 1) from w1) fun o q => (sb.2 _ D.zi1.symm).trans q
    · exact s2.1.at fun o q => (sb.2 _ D.zi2.symm).trans q
    · have clt : c < s.heap.objs.size := by
        rcases (by simpa using hcm : c = z ∨ c = TI ∨ c = TO ∨ c = j1 ∨ c = j2) with rfl | rfl | rfl | rfl | rfl
        · exact zlt
        · exact Heap.lt_size q2
        · exact Heap.lt_size q3
        · cases t
          · obtain ⟨_, e, _⟩ := (show s.heap.IsListIter _ a i from q4); exact Heap.lt_size e
          · obtain ⟨_, e, _⟩ := (show s.heap.IsTupleIter _ a i from q4); exact Heap.lt_size e
        · obtain ⟨_, e, _⟩ := q5; exact Heap.lt_size e
      rw [upd_ne (Nat.ne_of_lt clt)]
      exact (hf c hcm).1
  done := by
    intro X hP hw hK hc i pins s σ H E I hf st hg
    subst hP hw hK
    obtain ⟨q1, q2, ⟨x0, y0, q3⟩, q4, q5⟩ := st
    obtain ⟨xs, ys, sx, sy, hend⟩ := hg
    obtain ⟨its, rv, p, _⟩ := lt_items I sx
    obtain ⟨its2, rv2, p2, _⟩ := I.list sy
    have l1 := rv.length
    have l2 := rv2.length
    have D1 := drawsLT (P := X.prog) (w := X.w) (A := X.A.in1) t (I.ok.hd hc) j1 a na its.toArray
    have D2 := Draws.list (prog := X.prog) (w := X.w) (A := X.A.in1) (I.ok.hd hc) j2 b nb its2.toArray
    refine wpAny_pyNext_zipD2_end (A := X.A) D D1 D2 q1 q2 q3 ⟨q4, p⟩ ⟨q5, p2.isList⟩ (by rw [List.size_toArray]; omega) (by rw [List.size_toArray]; omega) (by rw [List.size_toArray, List.size_toArray]; omega) fun g tk hk => ⟨rfl, I.turnedL (t' := tk) (ch := [z, TI, TO, j1, j2]) (fun c o hb q => ?_) hf⟩
    simp only [List.mem_cons, List.not_mem_nil, or_false, not_or] at hb
    exact hk c o hb.1 hb.2.2.1 hb.2.2.2.1 hb.2.2.2.2 q
  self := fun A i s Q E st h => wpAny_pyIter_zip st.1 h
def iZipP (K : PySem.W.Frag) (ta : TA) : TI := fun σ H R => ta σ H fun vs H1 => ∃ t a b xs ys, vs = [.ref a, .ref b] ∧ LT K t a H1 xs ∧ SqL K H1 b ys ∧ R (ItzP K t a b) H1
theorem beginsLT (t : Bool) (a : Addr) (its : Array Value) : ∃ o, Begins (.ref a) o (fun h => SeqAt t h a its) ∧ ∀ (h : Heap) (j : Addr), h.get? j = some o → ItAt t h j a 0 := by
  cases t
  · exact ⟨_, begins_list a its, fun h j e => ⟨_, e, rfl, rfl⟩⟩
  · exact ⟨_, begins_tuple a its, fun h j e => ⟨_, e, rfl, rfl⟩⟩
theorem pi_zipP {X : Cx} {e e2 : Expr} {ta : TA} {p pos tpos : Pos} {elts : List Expr} {kk : Nat} (hg : Gl X "zip") (hm : X.mg "zip" = none) (ha : PA X [e, e2] ta)
    (hs : starEach [e, e2] X.env = (false, eval e X.env) :: starEach [e2] X.env := by rfl) (hpl : (backTo pos (starEach [e2] X.env)).any (·.1) = false := by rfl) :
    PI X (.Tuple elts kk tpos) (.Call (.Name "zip" p) [e, e2] [] pos) (iZipP X.K ta) := by
  refine ⟨fun pins s σ H R I h => Call_ (ld_blt I hg hm PyProof.Rows.boot_zip (PyProof.Rows.callWith_type1 (thn (ha.run pos pins s σ H _ I h) fun us s1 hv => ?_) hs hpl))⟩
  obtain ⟨vs, H1, I1, r1, t, a, b, xs, ys, rfl, sx, sy, q⟩ := hv
  cases r1 with
  | cons r rr =>
  cases rr with
  | cons r' rr =>
  cases rr
  cases r
  cases r'
  obtain ⟨its, rv, p1, _⟩ := lt_items I1 sx
  obtain ⟨its2, rv2, p2, _⟩ := I1.list sy
  obtain ⟨o1, B1, k1⟩ := beginsLT t a its.toArray
  have la := seq_lt p1
  have lb : b < s1.heap.objs.size := seq_lt (t := false) p2.isList
  refine zip_begins2 B1 (begins_list b its2.toArray) p1 p2.isList fun g q1 q2 q3 q4 q5 hsz hk => wpAny_pyIter_zip q1 ?_
  have I2 : Inv X pins σ H1 { s1 with heap := g } := I1.kept (t' := s1.toks) hk
  refine ⟨s1.heap.objs.size + 4, [s1.heap.objs.size + 4, s1.heap.objs.size + 2, s1.heap.objs.size + 3, s1.heap.objs.size, s1.heap.objs.size + 1], _, _, H1, rfl, I2, turn_zipP (t := t) (zip_sep2 (fp1 := [a]) (fp2 := [b]) (fun c hc => by rw [List.mem_singleton.mp hc]; exact la) (fun c hc => by rw [List.mem_singleton.mp hc]; exact lb)) (Nat.ne_of_lt la) (Nat.ne_of_lt (Nat.lt_succ_of_lt lb)), ⟨q1, q2, ⟨_, _, q3⟩, k1 g _ q4, ⟨_, q5, rfl, rfl⟩⟩, fun c hc => ?_, q⟩
  have hle : s1.heap.objs.size ≤ c := by
    rcases (by simpa using hc : c = s1.heap.objs.size + 4 ∨ c = s1.heap.objs.size + 2 ∨ c = s1.heap.objs.size + 3 ∨ c = s1.heap.objs.size ∨ c = s1.heap.objs.size + 1) with rfl | rfl | rfl | rfl | rfl
    all_goals first | exact Nat.le_add_right _ _ | exact Nat.le_refl _
  exact I1.fpOk hle (I1.hok.fresh hle)
theorem for_zipP {K : PySem.W.Frag} {t : Bool} {a b : Addr} {xs ys : List V} {g : TG} {tb : TS} {D : Ends} {σ : L2.St} {H : Hp} (hl : xs.length = ys.length) (Pv : Nat → L2.St → Hp → Prop) (h0 : Pv 0 σ H) (hq : ∀ i σ H, Pv i σ H → LT K t a H xs ∧ SqL K H b ys)
    (hs : ∀ (i : Nat) (x y : V) (T : Addr) (σ : L2.St) (H : Hp), xs[i]? = some x → ys[i]? = some y → Pv i σ H → H T = none → g (.ref T) σ (upd H T (.tup [x, y])) fun σ2 H2 => tb { D with nx := Pv (i + 1), ct := Pv (i + 1), bk := D.nx } σ2 H2) (hd : ∀ σ H, Pv xs.length σ H → D.nx σ H) :
    ∃ W : Nat → Nat → L2.St → Hp → Prop, (∃ m, W 0 m σ H) ∧ ∀ i m σ H, W i m σ H →
      ((ItzP K t a b).stop i H ∧ D.nx σ H) ∨ ((ItzP K t a b).go i H ∧ ∃ N : L2.St → Hp → Prop, (∀ σ' H', N σ' H' → ∃ m', m' < m ∧ W (i + 1) m' σ' H') ∧ ∀ v H', (ItzP K t a b).yld i H v H' → g v σ H' fun σ2 H2 => tb { D with nx := N, ct := N, bk := D.nx } σ2 H2) := by
  refine ⟨fun i m σ H => m + i = xs.length ∧ Pv i σ H, ⟨xs.length, Nat.add_zero _, h0⟩, ?_⟩
  rintro i m σ H ⟨em, p⟩
  obtain ⟨qx, qy⟩ := hq i σ H p
  by_cases lt : i < xs.length
  · have lt2 : i < ys.length := by omega
    refine .inr ⟨⟨xs, ys, _, _, qx, qy, List.getElem?_eq_getElem lt, List.getElem?_eq_getElem lt2⟩, Pv (i + 1), fun σ' H' p' => ⟨m - 1, by omega, by omega, p'⟩, fun v H' y => ?_⟩
    obtain ⟨T, x', y', rfl, hT, rfl, f1, f2⟩ := y
    exact hs i x' y' T σ H (f1 xs qx) (f2 ys qy) p hT
  · have e : i = xs.length := by omega
    subst e
    exact .inl ⟨⟨xs, ys, qx, qy, Or.inl ⟨rfl, by omega⟩⟩, hd σ H p⟩
end G

/-! ## G14: loads -/
namespace G
open PySem PySem.Spec PyProof.Rows L2
/-- one bundle of which the first broker leads m -/
def ld1 (acc : List Int) (m : Int) (t : Bun) : List Int := acc.set t.1.toNat (acc.getD t.1.toNat 0 + m)
def ld (acc : List Int) (m : Int) (t : Bun) : List Int := (ld1 acc m t).set t.2.1.toNat ((ld1 acc m t).getD t.2.1.toNat 0 + t.2.2 - m)
def ldAll : List Int → List Int → List Bun → List Int
  | acc, m :: ms, t :: ts => ldAll (ld acc m t) ms ts
  | acc, _, _ => acc
def loadsP (n : Nat) (ms : List Int) (bs : List Bun) : List Int := ldAll (List.replicate n 0) ms bs
theorem ld_len (acc : List Int) (m : Int) (t : Bun) : (ld acc m t).length = acc.length := by
  unfold ld ld1
  rw [List.length_set, List.length_set]
theorem ldAll_len : ∀ (ms : List Int) (bs : List Bun) (acc : List Int), (ldAll acc ms bs).length = acc.length
  | [], _, acc => by rw [ldAll]; intro _ _ _ _ h; cases h
  | _ :: _, [], acc => by rw [ldAll]; intro _ _ _ _ _ h; cases h
  | m :: ms, t :: bs, acc => by rw [ldAll, ldAll_len ms bs, ld_len]
theorem loadsP_len (n : Nat) (ms : List Int) (bs : List Bun) : (loadsP n ms bs).length = n := by rw [loadsP, ldAll_len, List.length_replicate]
theorem ldAll_nil (ms : List Int) (acc : List Int) : ldAll acc ms [] = acc := by
  cases ms <;> rfl
theorem ldAll_step : ∀ (i : Nat) (ms : List Int) (bs : List Bun) (acc : List Int) (m : Int) (t : Bun), ms[i]? = some m → bs[i]? = some t → ldAll acc (ms.take (i + 1)) (bs.take (i + 1)) = ld (ldAll acc (ms.take i) (bs.take i)) m t
  | 0, a :: ms, b :: bs, acc, m, t, h1, h2 => by
    obtain rfl : a = m := Option.some.inj h1
    obtain rfl : b = t := Option.some.inj h2
    rfl
  | i + 1, a :: ms, b :: bs, acc, m, t, h1, h2 => by
    rw [List.take_succ_cons, List.take_succ_cons, List.take_succ_cons, List.take_succ_cons, ldAll, ldAll]
    exact ldAll_step i ms bs (ld acc a b) m t h1 h2
  | 0, [], _, _, _, _, h1, _ => by cases h1
  | _ + 1, [], _, _, _, _, h1, _ => by cases h1
  | 0, _ :: _, [], _, _, _, _, h2 => by cases h2
  | _ + 1, _ :: _, [], _, _, _, _, h2 => by cases h2
/-- a bundle as a value -/
theorem da_bun {K : PySem.W.Frag} {H : Hp} {v : V} {t : Bun} (h : Da K H v (bD t)) : ∃ a, v = .ref a ∧ SqT K H a [.int t.1, .int t.2.1, .int t.2.2] := by
  obtain ⟨a, us, rfl, s, d⟩ := da_tup h
  rw [DaL.unints d] at s
  exact ⟨a, rfl, s⟩
theorem ixN_nat {n : Nat} {k : Int} (h0 : 0 ≤ k) (h1 : k < (n : Int)) : ixN n k = some k.toNat := by
  unfold ixN
  rw [if_pos h0, if_pos (by omega)]
theorem atI_ints {ns : List Int} {k : Int} (h0 : 0 ≤ k) (h1 : k < (ns.length : Int)) : atI (ns.map V.int) k = some (.int (ns.getD k.toNat 0)) := by
  unfold atI
  rw [List.length_map, ixN_nat h0 h1]
  show (ns.map V.int)[k.toNat]? = _
  have hl : k.toNat < ns.length := by omega
  rw [List.getElem?_map, List.getElem?_eq_getElem hl, List.getD_eq_getElem?_getD, List.getElem?_eq_getElem hl]
  rfl
/-- _law_loads(size, bundles, leads) -/
def sp_loads (K : PySem.W.Frag) : Sp := fun vs H Q _ => ∃ (n : Int) (x l : Addr) (t : Bool) (us : List V) (bs : List Bun) (ms : List Int), vs = [.int n, .ref x, .ref l] ∧ 0 ≤ n ∧ n ≤ 1000 ∧ SqL K H x us ∧ DaL K H us (bs.map bD) ∧ LT K t l H (ms.map V.int) ∧ ms.length = bs.length ∧ (∀ t ∈ bs, BunOk n t) ∧
  ∀ (q : Addr) (H' : Hp), H q = none → Same H H' → H' q = some (.lst ((loadsP n.toNat ms bs).map V.int)) → Q (.ref q) H'
end G
namespace G
open PySem PySem.Spec PyProof.Rows L2
/-- a bound -/
abbrev Bnd := Int × Int
def cD (c : Bnd) : PyData := prI [c.1, c.2]
/-- bounds about loads -/
structure BndAt (c : Bnd) (x : Int) : Prop where
  lo : 0 ≤ c.1
  le : c.1 ≤ x
  ge : x ≤ c.2
  hi : c.2 ≤ 1000000000000000000000
def BndsAt (cs : List Bnd) (hs : List Int) : Prop := cs.length = hs.length ∧ ∀ (i : Nat) c x, cs[i]? = some c → hs[i]? = some x → BndAt c x
theorem BndsAt.snoc {cs : List Bnd} {hs : List Int} {i : Nat} {c : Bnd} {x : Int} (h : BndsAt cs (hs.take i)) (hx : hs[i]? = some x) (hc : BndAt c x) : BndsAt (cs ++ [c]) (hs.take (i + 1)) := by
  have hi : i < hs.length := (List.getElem?_eq_some_iff.mp hx).1
  have e : hs.take (i + 1) = hs.take i ++ [x] := by rw [List.take_succ, hx]; rfl
  have hl := h.1
  rw [e]
  refine ⟨by simp [hl], fun j d y hd hy => ?_⟩
  by_cases hj : j < cs.length
  · rw [List.getElem?_append_left hj] at hd
    rw [List.getElem?_append_left (by omega)] at hy
    exact h.2 j d y hd hy
  · rw [List.getElem?_append_right (by omega)] at hd hy
    rw [hl] at hd
    cases ej : j - (hs.take i).length with
    | zero =>
      rw [ej] at hd hy
      obtain rfl : c = d := Option.some.inj hd
      obtain rfl : x = y := Option.some.inj hy
      exact hc
    | succ m =>
      rw [ej] at hd
      cases hd
/-- _law_bounds(bag, held) -/
def sp_bounds (K : PySem.W.Frag) : Sp := fun vs H Q _ => ∃ (b h : Addr) (hs : List Int), vs = [.ref b, .ref h] ∧ BagOk b H ∧ SqL K (hid b H) h (hs.map V.int) ∧ hs.length ≤ 1000 ∧ (∀ x ∈ hs, 0 ≤ x ∧ x ≤ 100000000000000000000) ∧
  ∀ (a : Addr) (us : List V) (cs : List Bnd) (H' : Hp), Go b H H' → a ≠ b → H' a = some (.lst us) → DaL K (hid b H') us (cs.map cD) → BndsAt cs hs → Q (.ref a) H'
end G
namespace G
open PySem PySem.Spec PyProof.Rows L2
theorem getD_in {l : List Int} {i : Nat} {B : Int} (hB : 0 ≤ B) (h : ∀ x ∈ l, 0 ≤ x ∧ x ≤ B) : 0 ≤ l.getD i 0 ∧ l.getD i 0 ≤ B := by
  rw [List.getD_eq_getElem?_getD]
  cases e : l[i]? with
  | none => exact ⟨Int.le_refl _, hB⟩
  | some y => exact h y (List.mem_of_getElem? e)
theorem getD_set_ne {l : List Int} {i j : Nat} {v : Int} (h : i ≠ j) : (l.set i v).getD j 0 = l.getD j 0 := by
  rw [List.getD_eq_getElem?_getD, List.getD_eq_getElem?_getD, List.getElem?_set_ne h]
theorem ld_in {acc : List Int} {m : Int} {t : Bun} {B P : Int} (h : ∀ x ∈ acc, 0 ≤ x ∧ x ≤ B) (hB : 0 ≤ B) (m0 : 0 ≤ m) (mp : m ≤ t.2.2) (hp : t.2.2 ≤ P) (hf : 0 ≤ t.1) (hs : t.1 < t.2.1) : ∀ x ∈ ld acc m t, 0 ≤ x ∧ x ≤ B + P := by
  intro x hx
  unfold ld at hx
  have hn : t.1.toNat ≠ t.2.1.toNat := by omega
  have e : (ld1 acc m t).getD t.2.1.toNat 0 = acc.getD t.2.1.toNat 0 := getD_set_ne hn
  have d1 := getD_in (i := t.2.1.toNat) hB h
  have d2 := getD_in (i := t.1.toNat) hB h
  rcases List.mem_or_eq_of_mem_set hx with hx | hx
  · unfold ld1 at hx
    rcases List.mem_or_eq_of_mem_set hx with hx | hx
    · have := h x hx
      omega
    · omega
  · rw [e] at hx
    omega
/-- how many of each bundle its first broker leads -/
def LeadsOk (ms : List Int) (bs : List Bun) : Prop := ms.length = bs.length ∧ ∀ (i : Nat) m t, ms[i]? = some m → bs[i]? = some t → 0 ≤ m ∧ m ≤ t.2.2
theorem ldAll_in {n P : Int} (hP : 0 ≤ P) : ∀ (ms : List Int) (bs : List Bun) (acc : List Int) (B : Int), (∀ x ∈ acc, 0 ≤ x ∧ x ≤ B) → 0 ≤ B → (∀ t ∈ bs, BunOk n t) → (∀ t ∈ bs, t.2.2 ≤ P) → (∀ (i : Nat) m t, ms[i]? = some m → bs[i]? = some t → 0 ≤ m ∧ m ≤ t.2.2) → ∀ x ∈ ldAll acc ms bs, 0 ≤ x ∧ x ≤ B + P * bs.length
  | [], bs, acc, B, h, hB, _, _, _ => by
    intro x hx
    have := h x (by cases bs <;> exact hx)
    have : 0 ≤ P * bs.length := Int.mul_nonneg hP (Int.natCast_nonneg _)
    omega
  | m :: ms, [], acc, B, h, hB, _, _, _ => by
    intro x hx
    have := h x hx
    simp
    omega
  | m :: ms, t :: bs, acc, B, h, hB, ho, hp, hm => by
    intro x hx
    have o := ho t List.mem_cons_self
    have h0 := hm 0 m t rfl rfl
    have ih := ldAll_in hP ms bs (ld acc m t) (B + P) (ld_in h hB h0.1 h0.2 (hp t List.mem_cons_self) o.f0 o.fs) (by omega) (fun u hu => ho u (List.mem_cons_of_mem _ hu)) (fun u hu => hp u (List.mem_cons_of_mem _ hu)) (fun i m' t' e1 e2 => hm (i + 1) m' t' e1 e2) x hx
    have e : P * ((t :: bs).length : Int) = P * bs.length + P := by
      rw [List.length_cons]
      push_cast
      rw [Int.mul_add, Int.mul_one]
    omega
theorem loads_in {n : Int} {ms : List Int} {bs : List Bun} {k : Nat} (ho : BunsOk n bs) (hm : LeadsOk ms bs) : ∀ x ∈ loadsP k ms bs, 0 ≤ x ∧ x ≤ 100000000000000000000 := by
  intro x hx
  have := ldAll_in (n := n) (P := 1000000000000000000) (by decide) ms bs (List.replicate k 0) 0 (fun x hx => by rw [(List.mem_replicate.mp hx).2]; decide) (by decide) ho.each (fun t ht => (ho.each t ht).pm) hm.2 x hx
  have := ho.len
  omega
theorem LeadsOk.snoc {ms : List Int} {bs : List Bun} {i : Nat} {m : Int} {t : Bun} (h : LeadsOk ms (bs.take i)) (ht : bs[i]? = some t) (h0 : 0 ≤ m) (h1 : m ≤ t.2.2) : LeadsOk (ms ++ [m]) (bs.take (i + 1)) := by
  have e : bs.take (i + 1) = bs.take i ++ [t] := by rw [List.take_succ, ht]; rfl
  have hl := h.1
  rw [e]
  refine ⟨by simp [hl], fun j d y hd hy => ?_⟩
  by_cases hj : j < ms.length
  · rw [List.getElem?_append_left hj] at hd
    rw [List.getElem?_append_left (by omega)] at hy
    exact h.2 j d y hd hy
  · rw [List.getElem?_append_right (by omega)] at hd hy
    rw [hl] at hd
    cases ej : j - (bs.take i).length with
    | zero =>
      rw [ej] at hd hy
      obtain rfl : m = d := Option.some.inj hd
      obtain rfl : t = y := Option.some.inj hy
      exact ⟨h0, h1⟩
    | succ k =>
      rw [ej] at hd
      cases hd
/-- a drawn net: size, bundles, leads, bounds about the loads -/
structure NetOk (n : Int) (bs : List Bun) (ms : List Int) (cs : List Bnd) : Prop where
  buns : BunsOk n bs
  ne : bs ≠ []
  leads : LeadsOk ms bs
  bnds : BndsAt cs (loadsP n.toNat ms bs)
/-- the three parts as values -/
structure NetAt (K : PySem.W.Frag) (H : Hp) (c x l : V) (bs : List Bun) (ms : List Int) (cs : List Bnd) : Prop where
  c : Da K H c (.list (cs.map cD))
  x : Da K H x (.list (bs.map bD))
  l : Da K H l (.tuple (ms.map PyData.int))
theorem NetAt.mono {K : PySem.W.Frag} {H H' : Hp} {c x l : V} {bs : List Bun} {ms : List Int} {cs : List Bnd} (h : NetAt K H c x l bs ms cs) (e : Same H H') : NetAt K H' c x l bs ms cs := ⟨h.c.mono e, h.x.mono e, h.l.mono e⟩
/-- _law_net(bag, most, great) -/
def sp_net (K : PySem.W.Frag) : Sp := fun vs H Q _ => ∃ (b : Addr) (m : Int) (g : Bool), vs = [.ref b, .int m, .bl g] ∧ BagOk b H ∧ 2 ≤ m ∧ m ≤ 10 ∧
  ∀ (r : Addr) (c x l : V) (n : Int) (bs : List Bun) (ms : List Int) (cs : List Bnd) (H' : Hp), Go b H H' → r ≠ b → H' r = some (.tup [c, x, l]) → NetAt K (hid b H') c x l bs ms cs → n ≤ m → NetOk n bs ms cs → Q (.ref r) H'
end G

/-! ## G15: {t: v for x in xs}, t a tuple -/
namespace G
open PySem PySem.Spec PyProof.Rows L2
/-- one entry of such a dict -/
theorem dT_dictSet {X : Cx} {pins : List (Addr × Obj)} {σ : L2.St} {H : Hp} {s : Shared} {E : Value → Shared → Prop} {D x : Addr} {kvs : List (List Key × V)} {k : List Key} {v : V} {u r : Value} {Q : Unit → Shared → Prop} (hu : X.A.units + 8 < cLine) (I : Inv X pins σ H s) (hD : H D = some (.dT kvs)) (hx : H x = some (.tup (k.map kV))) (few : kvs.length < sizeLine)
    (ry : L2.RelV (.ref x) u) (rv : L2.RelV v r) (h : ∀ s', Inv X pins σ (upd H D (.dT (putK kvs k v))) s' → Q () s') : wpAny (model X.prog X.w) X.A (dictSet D u r) Q E s := by
  cases (show u = Value.ref x from ry)
  obtain ⟨z, hd, xs, rel, dd⟩ := dt_of I.hok hD
  have hz : xs.length ≤ sizeLine := by rw [← Paired.length rel]; exact z
  have more : (putK kvs k v).length ≤ sizeLine := Nat.le_trans (length_putK kvs k v) few
  refine wpAny_dictSet_heap (hsz := hz) (show X.A.units < cLine by omega) (key_of I.hok hx) dd fun g dg sb => h _ ?_
  obtain ⟨q, es, ep, hq, h2, h3, h4, _, h5⟩ := dg
  refine d_write I (by rw [hD]; trivial) sb ⟨q, hq⟩ ⟨more, hd, _, (rel.put k hx rv).keeps fun c ys ec => ?_, q, es, ep, hq, h2, h3, h4, h5⟩
  rw [upd_ne (ne_of ec hD (fun z => nomatch z))]
  exact ec
section
variable {X : Cx}
/-- {key: val for target in iter if ..}, key a tuple; D the new dict -/
def tDcT (wi : TI) (g : TG) (tt : TT) (tk tv : TE) (vs : List Nat) : TE := fun σ H Q => wi σ H fun J H1 => ∀ D, H1 D = none → ∃ W : Nat → Nat → Hp → Prop, (∃ m, W 0 m (upd H1 D (.dT []))) ∧ ∀ i m H, W i m H →
  (J.stop i H ∧ Q (.ref D) H) ∨ (J.go i H ∧ ∃ Nx : Hp → Prop, (∀ H', Nx H' → ∃ m', m' < m ∧ W (i + 1) m' H') ∧ ∀ x H', J.yld i H x H' → g x (wipe σ vs) H' fun σ2 H2 => wipe σ2 vs = wipe σ vs ∧ tt σ2 H2 fun b H3 =>
    if b = true then tk σ2 H3 fun y H4 => tv σ2 H4 fun z H5 => ∃ (kvs : List (List Key × V)) (k : List Key) (x : Addr), y = .ref x ∧ H5 x = some (.tup (k.map kV)) ∧ H5 D = some (.dT kvs) ∧ kvs.length < sizeLine ∧ Nx (upd H5 D (.dT (putK kvs k z))) else Nx H3)
theorem dcT_core {pins : List (Addr × Obj)} {s : Shared} {σ : L2.St} {H : Hp} {Q : VK} {kx vx tg iter : Expr} {ifs : List Expr} {scope : Scope} {own : List (PySem.Str × Nat)} {pos pos' : Pos} {wi : TI} {g : TG} {tt : TT} {tk tv : TE} {use : Option (Value → Sem Unit)} {Qf : Value → Shared → Prop}
    (hu : X.A.units + 8 < cLine) (calm : X.calm = true) (nodup : X.N.Nodup) (I : Inv X pins σ H s) (hi : PI X tg iter wi) (ok : BlkOk X.N X.env.scope scope own)
    (hg : ∀ (z : Shared) (H : Hp) (C : Addr) (cl : List (PySem.Str × Addr)) (fp : List Addr), PG (X.blk z H scope (compEnvC scope cl C X.env) fp) tg g) (ht : ∀ (z : Shared) (H : Hp) (C : Addr) (cl : List (PySem.Str × Addr)) (fp : List Addr), PTs (X.blk z H scope (compEnvC scope cl C X.env) fp) ifs tt)
    (hk : ∀ (z : Shared) (H : Hp) (C : Addr) (cl : List (PySem.Str × Addr)) (fp : List Addr), PE (X.blk z H scope (compEnvC scope cl C X.env) fp) kx tk) (he : ∀ (z : Shared) (H : Hp) (C : Addr) (cl : List (PySem.Str × Addr)) (fp : List Addr), PE (X.blk z H scope (compEnvC scope cl C X.env) fp) vx tv) (fold : ∀ x, foldedSetIterable iter X.env x = pure x)
    (h : tDcT wi g tt tk tv (own.map (·.2)) σ H Q)
    (after : ∀ D C s' m H', Inv X pins σ H' s' → Q (.ref D) H' → s'.heap.Ns C m → FpOk X pins H' C → compPost (model X.prog X.w) X.A X.xe use Qf (.ref D) C (.ok .next) s') :
    wpAny (model X.prog X.w) X.A (comprehension (.DictComp kx vx [⟨tg, iter, ifs, 0⟩] scope pos) scope X.env pos' (newDict) false (eval iter X.env) use) Qf X.xe s := by
  have captured : ∀ y ∈ scope.names, y.2 = .free → ∃ c, X.env.cells.lookup y.1 = some c := fun y hy e => by
    rcases ok.free y hy e with q | q
    · exact I.ok.has _ (.inl q)
    · exact I.ok.has _ (.inr q)
  refine wpAny_comprehension_free (use := use) rfl fold (closure_ok captured) ok.kind (fun y hy e => by rw [ok.uniq y hy, e])
    (thn (hi.run pins s σ H _ I h) fun xv r1 hx => thn hx fun itv r2 h2 => ?_)
  obtain ⟨it, fp, tn, J, H2, e, I2, T, st2, f2, q⟩ := h2
  subst e
  refine wpAny_newObj_type (newEnv_comp ?_)
  generalize eD : r2.heap.objs.size = D
  have fresh : H2 D = none := I2.hok.fresh (Nat.le_of_eq eD)
  obtain ⟨W, ⟨m0, w0⟩, turn⟩ := q D fresh
  generalize e3 : ({ r2 with heap := r2.heap.push { cls := .type "dict", data := .dict #[] } } : Shared) = r3
  have I3 : Inv X pins σ (upd H2 D (.dT [])) r3 := by
    rw [← e3]
    refine I2.laid (t' := r2.toks) (fun b o e => Heap.get?_push_of_some _ e) (Nat.le_of_eq eD) ?_
    rw [← eD]
    exact dt_empty r2.heap I2.big
  have hp3 : r3.heap = r2.heap.push { cls := .type "dict", data := .dict #[] } := by rw [← e3]
  have below : ∀ b ∈ fp, b < r2.heap.objs.size := fun b hb => by
    obtain ⟨o, e, _⟩ := T.obj _ _ st2 b hb
    exact Heap.lt_size e
  have f3 : ∀ b ∈ fp, FpOk X pins (upd H2 D (.dT [])) b ∧ b < r3.heap.objs.size := fun b hb => by
    have lt := below b hb
    refine ⟨⟨?_, (f2 b hb).2⟩, by rw [hp3, Heap.size_push]; exact Nat.lt_succ_of_lt lt⟩
    rw [upd_ne (by rw [← eD]; exact Nat.ne_of_lt lt)]
    exact (f2 b hb).1
  have st3 : tn 0 r3.heap := T.keep _ _ _ st2 fun b _ o e => by rw [hp3]; exact Heap.get?_push_of_some _ e
  have I4 := block_start I3 ok nodup f3
  have pgo := hg r3 (upd H2 D (.dT [])) r3.heap.objs.size (cellsFrom (r3.heap.objs.size + 1) scope.names (cloFrom X.env.cells scope.names [])) fp
  have pte := ht r3 (upd H2 D (.dT [])) r3.heap.objs.size (cellsFrom (r3.heap.objs.size + 1) scope.names (cloFrom X.env.cells scope.names [])) fp
  have pky := hk r3 (upd H2 D (.dT [])) r3.heap.objs.size (cellsFrom (r3.heap.objs.size + 1) scope.names (cloFrom X.env.cells scope.names [])) fp
  have pel := he r3 (upd H2 D (.dT [])) r3.heap.objs.size (cellsFrom (r3.heap.objs.size + 1) scope.names (cloFrom X.env.cells scope.names [])) fp
  show codeAny _ _ (.compStart (.DictComp kx vx [⟨tg, iter, ifs, 0⟩] scope pos) 0 (.ref it) (.ref D) (compEnvC scope (cellsFrom (r3.heap.objs.size + 1) scope.names (cloFrom X.env.cells scope.names [])) r3.heap.objs.size X.env)) (compPost (model X.prog X.w) X.A X.xe use Qf (.ref D) r3.heap.objs.size) { r3 with heap := pushCells (r3.heap.push { cls := .type "dict", data := .dict #[] }) scope.names }
  have nfp : ∀ b ∈ fp, (upd H2 D (.dT [])) b = none := fun b hb => (f3 b hb).1.1
  generalize ece : compEnvC scope (cellsFrom (r3.heap.objs.size + 1) scope.names (cloFrom X.env.cells scope.names [])) r3.heap.objs.size X.env = ce at I4 pgo pte pky pel ⊢
  have eL : ce.locals = r3.heap.objs.size := by subst ece; rfl
  generalize eH3 : upd H2 D (.dT []) = H3 at I3 I4 pgo pte pky pel w0 nfp f3
  generalize e4 : ({ r3 with heap := pushCells (r3.heap.push { cls := .type "dict", data := .dict #[] }) scope.names } : Shared) = r4 at I4 ⊢
  have st4 : tn 0 r4.heap := T.keep _ _ _ st3 fun b _ o e => by rw [← e4]; exact pushCells_keeps _ _ _ _ (Heap.get?_push_of_some _ e)
  have stat : ∀ {σ' : L2.St} {H' : Hp} {s' : Shared}, Inv (X.blk r3 H3 scope ce fp) [] σ' H' s' → (∀ b ∈ fp, H' b = none) → ∀ b ∈ fp, FpOk (X.blk r3 H3 scope ce fp) [] H' b := by
    intro σ' H' s' I' hn b hb
    exact ⟨hn b hb, (I'.ok.exf b hb).1, I'.ok.exfs b hb, .inl hb, fun x c e => (I'.ok.exf b hb).2 x c e, fun p hp => absurd (show p ∈ ([] : List (Addr × Obj)) ++ [] from hp) (by simp)⟩
  have loop : codeAny (model X.prog X.w) X.A (.compLoop (.DictComp kx vx [⟨tg, iter, ifs, 0⟩] scope pos) 0 (.ref it) (.ref D) ce) (compPost (model X.prog X.w) X.A X.xe use Qf (.ref D) r3.heap.objs.size) r4 := by
    refine compLoop_anyD (fun n s' => ∃ i H', Inv (X.blk r3 H3 scope ce fp) [] (wipe σ (own.map (·.2))) H' s' ∧ tn i s'.heap ∧ (∀ b ∈ fp, H' b = none) ∧ W i n H') ?_ m0 ⟨0, H3, I4, st4, nfp, w0⟩
    rintro n r5 ⟨i, H5, I5, st5, n5, w5⟩
    rcases turn i n H5 w5 with ⟨stop, qq⟩ | ⟨go, Nx, hNx, step⟩
    · have td := T.done (X.blk r3 H3 scope ce fp) rfl rfl rfl calm i [] r5 _ H5 (fun _ _ => False) I5 (stat I5 n5) st5 stop
      refine thnF td fun r r6 ⟨hr, I6⟩ => ?_
      subst hr
      have I7 : Inv X pins σ H5 r6 := I3.call' (ch := fp) I6.os I6.base I6.hok I6.bare fun b hb => ⟨(f3 b hb).1.2.2.2.1, (f3 b hb).1.2.1, (f3 b hb).1.2.2.2.2.1, (f3 b hb).1.2.2.2.2.2⟩
      have nC : H5 r3.heap.objs.size = none := by
        have z : H5 ce.locals = none := I6.free
        rwa [eL] at z
      obtain ⟨m, hn, _⟩ := I6.loc
      have hn' : r6.heap.Ns ce.locals m := hn
      rw [eL] at hn'
      exact after D r3.heap.objs.size r6 m H5 I7 qq hn' (I3.fpOk (Nat.le_refl _) nC)
    · have ti := T.item (X.blk r3 H3 scope ce fp) rfl rfl rfl calm i [] r5 _ H5 (fun _ _ => False) I5 (stat I5 n5) st5 go
      refine thnF ti fun r r6 ⟨u, hr, h6⟩ => ?_
      subst hr
      refine thnF h6 fun _ r7 ⟨x, H7, I7, rl7, y7, st7, n7⟩ => ?_
      have I7' := I7.pinned (stat I7 n7) (T.obj _ _ st7)
      refine thnF (pgo.run _ r7 _ H7 x u _ I7' rl7 (step x H7 y7)) fun _ r8 ⟨σ8, H8, I8, hw8, q8⟩ => ?_
      refine thnF (pte.run _ r8 σ8 H8 _ I8 q8) fun b r9 ⟨H9, I9, q9⟩ => ?_
      have fin : ∀ {s' : Shared} {H' : Hp}, Inv (X.blk r3 H3 scope ce fp) ([] ++ pinsAt fp r7.heap) σ8 H' s' → Nx H' → ∃ m, m < n ∧ ∃ i H', Inv (X.blk r3 H3 scope ce fp) [] (wipe σ (own.map (·.2))) H' s' ∧ tn i s'.heap ∧ (∀ b ∈ fp, H' b = none) ∧ W i m H' := by
        intro s' H' I' nx
        obtain ⟨m', hm, w'⟩ := hNx H' nx
        have pin' : ∀ b ∈ fp, ∀ o, r7.heap.get? b = some o → s'.heap.get? b = some o ∧ H' b = none := fun b hb o e =>
          have z := I'.pin (b, o) (List.mem_append_right _ (List.mem_append_right _ (mem_pinsAt hb e)))
          ⟨z.1, z.2.1⟩
        have len : (wipe σ (own.map (·.2))).length = σ8.length := by rw [← hw8, wipe_length]
        refine ⟨m', hm, i + 1, H', (I'.unpinned (pins := [])).weak len (fun j v e => ?_), T.keep _ _ _ st7 fun b hb o e => (pin' b hb o e).1, fun b hb => ?_, w'⟩
        · rw [← hw8] at e
          exact (wipe_some e).1
        · obtain ⟨o, e, _⟩ := T.obj _ _ st7 b hb
          exact (pin' b hb o e).2
      cases b with
      | false =>
        simp only [Bool.false_eq_true, if_false] at q9 ⊢
        exact fin I9 q9
      | true =>
        simp only [if_true] at q9 ⊢
        refine thnF (pky.run _ r9 σ8 H9 _ I9 q9) fun z r10 ⟨yk, H10, I10, rl10, q10⟩ => ?_
        refine thnF (pel.run _ r10 σ8 H10 _ I10 q10) fun z2 r11 ⟨yv, H11, I11, rl11, kvs, k, xa, ey, hx11, hD11, few, nx⟩ => ?_
        subst ey
        exact dT_dictSet (X := X.blk r3 H3 scope ce fp) hu I11 hD11 hx11 few rl10 rl11 fun r12 I12 => fin I12 nx
  exact codeAny_compStart_dict loop (T.self X.A 0 _ _ _ st4 loop)
theorem pe_dcT {kx vx tg iter : Expr} {ifs : List Expr} {scope : Scope} {own : List (PySem.Str × Nat)} {pos : Pos} {wi : TI} {g : TG} {tt : TT} {tk tv : TE} (hu : X.A.units + 8 < cLine) (calm : X.calm = true) (nodup : X.N.Nodup) (hi : PI X tg iter wi) (ok : BlkOk X.N X.env.scope scope own)
    (hg : ∀ (z : Shared) (H : Hp) (C : Addr) (cl : List (PySem.Str × Addr)) (fp : List Addr), PG (X.blk z H scope (compEnvC scope cl C X.env) fp) tg g) (ht : ∀ (z : Shared) (H : Hp) (C : Addr) (cl : List (PySem.Str × Addr)) (fp : List Addr), PTs (X.blk z H scope (compEnvC scope cl C X.env) fp) ifs tt)
    (hk : ∀ (z : Shared) (H : Hp) (C : Addr) (cl : List (PySem.Str × Addr)) (fp : List Addr), PE (X.blk z H scope (compEnvC scope cl C X.env) fp) kx tk) (he : ∀ (z : Shared) (H : Hp) (C : Addr) (cl : List (PySem.Str × Addr)) (fp : List Addr), PE (X.blk z H scope (compEnvC scope cl C X.env) fp) vx tv) (fold : ∀ x, foldedSetIterable iter X.env x = pure x := by intro _; rfl) :
    PE X (.DictComp kx vx [⟨tg, iter, ifs, 0⟩] scope pos) (tDcT wi g tt tk tv (own.map (·.2))) := by
  refine ⟨fun pins s σ H Q I h => ?_⟩
  rw [arm_eval_DictComp]
  refine dcT_core hu calm nodup I hi ok hg ht hk he fold h fun D C s' m H' I' q hn f => ⟨m, hn, fun h'' sb => ?_⟩
  obtain ⟨f0, f1, f2, f3, f4, f5⟩ := f
  exact ⟨.ref D, H', I'.turned (t' := s'.toks) (fun b o hb e => (sb.2 b hb).trans e) f0 f1 f3 f4 f5, rfl, q⟩
end
end G

/-! ## G16: classes of the text: methods by name; len of an object -/
namespace G
open PySem PySem.Spec PyProof.Rows L2
/-- the class Cluster as the text has made it -/
structure ClsT (K : PySem.W.Frag) (mg : Str → Option Value) (C : Addr) : Prop where
  cl : Cls K C
  nL : NoAttr K C "limits"
  nR : NoAttr K C "rows"
  nN : NoAttr K C "numbers"
  mgC : mg "Cluster" = some (.ref C)
  mks : PySem.W.makesIn K C = true
  kc : PySem.W.keepIn K (.ref C) = true
/-- the method m of C is the def st -/
def MDef (K : PySem.W.Frag) (C : Addr) (m q : Str) (st : Stmt) (ps : List Str) : Prop := ∃ f fd, Fun K m q st f fd ∧ Meth K C m f ∧ Binds K fd ps []
/-- the method m of C keeps the promise -/
def MCal (P : Program) (w : World) (K : PySem.W.Frag) (mg : Str → Option Value) (base : Heap) (cx : CXT) (k : Nat) (C : Addr) (m : Str) (ps : List Str) (sp : Sp) : Prop :=
  ∃ f fd, FnOk P w K mg base cx k f fd ps sp ∧ Meth K C m f ∧ Binds K fd ps []
theorem mdef_mk {K : PySem.W.Frag} {C : Addr} {m q : Str} {st : Stmt} {ps : List Str} {f : Addr} {oc : Value} {od an : Option Addr} {osl : Array (Option Value)} {kV doc pm cdv ct : Value}
    (a : PySem.W.findIn K (.ref C) m = some (some (.ref f))) (i : PySem.W.isFn K (.ref f) = true) (l : K.lookup f = some ⟨oc, od, .func (PySem.W.fnOf m q (defArgs st) (defBody st) (defScope st) .none kV doc pm an cdv ct), osl⟩) (c : PySem.W.codeIn K cdv q = true) (k : PySem.W.keepIn K (.ref f) = true)
    (hb : ∀ (kV doc pm : Value) (an : Option Addr) (cdv ct : Value) (us : List Value), us.length = ps.length → bindArgs (PySem.W.fnOf m q (defArgs st) (defBody st) (defScope st) .none kV doc pm an cdv ct) ⟨us, []⟩ = pure (ps.zip us)) : MDef K C m q st ps :=
  have F := fun_mk (st := st) l c k
  ⟨f, _, F, ⟨a, i, k⟩, F.binds hb⟩
section
variable {P : Program} {w : World} {K : PySem.W.Frag} {mg : Str → Option Value} {base : Heap} {cx : CXT} {k : Nat} {C : Addr} {m q : Str} {ps N : List Str} {sp : Sp} {st : Stmt}
theorem MDef.ok (D : MDef K C m q st ps) (S : FnScope N ps (defScope st)) (ln : ∀ vs H Q E, sp vs H Q E → vs.length = ps.length)
    (bd : ∀ (f : Addr) (cdv : Value) (A : Around) (out : List Env) (s : Shared) (H : Hp) (vs : List V) (Q : VK) (E : XK), Room k (A.deeper (envOfC q (defScope st) s.heap.objs.size f cdv)) → sp vs H Q E →
      ∃ t, PSs (cxOf CX0 P w K mg base N q (defScope st) f cdv A out s H E).nox (defBody st) t ∧ t { nx := fun _ H' => Q .non H', rt := Q } (start N vs) H) : MCal P w K mg base CX0 (k + 1) C m ps sp := by
  obtain ⟨f, fd, F, mt, b⟩ := D
  exact ⟨f, fd, F.ok S ln fun cdv A out s H vs Q E hr h => bd f cdv A out s H vs Q E hr h, mt, b⟩
end
section
variable {X : Cx} {cx : CXT} {k : Nat} {C : Addr} {ps : List Str} {sp : Sp} {E : XK} {m x : Str} {o e : Expr} {es : List Expr} {ta : TE} {t : TA} {p apos pos : Pos}
theorem pe_m {pl : Sem Bool} (c : MCal X.prog X.w X.K X.mg X.base cx k C m ps sp) (cl : Cls X.K C) (hr : Room k X.A) (hx : Passes cx X E) (he : PE X o ta) (ha : PA X (e :: es) t)
    (hst : starEach (e :: es) X.env = (false, eval e X.env) :: starEach es X.env := by rfl) (hpl : (backTo pos (starEach es X.env)).any (·.1) = false := by rfl)
    (ht : eval (.Call (.Attribute o m apos) (e :: es) [] pos) X.env = (do
      let ov ← eval o X.env
      standAt apos.atName
      let (f, first) ← holding [ov] (getMethod ov m pl)
      callWith pos f first (backTo pos (starEach (e :: es) X.env)) (backToKw pos (keywordEach [] X.env))) := by rfl) :
    PE X (.Call (.Attribute o m apos) (e :: es) [] pos) (tMeth C m sp [] E ta t) := by
  obtain ⟨f, fd, F, mt, b⟩ := c
  exact pe_meth he cl mt F hr b .nil hx ha hst hpl ht
theorem pe_m0 {pl : Sem Bool} (c : MCal X.prog X.w X.K X.mg X.base cx k C m ps sp) (cl : Cls X.K C) (hr : Room k X.A) (hx : Passes cx X E) (he : PE X o ta)
    (ht : eval (.Call (.Attribute o m apos) [] [] pos) X.env = (do
      let ov ← eval o X.env
      standAt apos.atName
      let (f, first) ← holding [ov] (getMethod ov m pl)
      callWith pos f first (backTo pos (starEach [] X.env)) (backToKw pos (keywordEach [] X.env))) := by rfl) :
    PE X (.Call (.Attribute o m apos) [] [] pos) (tMeth C m sp [] E ta tNil) := by
  obtain ⟨f, fd, F, mt, b⟩ := c
  exact pe_meth0 he cl mt F hr b .nil hx ht
theorem pe_mk (c : MCal X.prog X.w X.K X.mg X.base cx k C "__init__" ps sp) (mk : PySem.W.makesIn X.K C = true) (kc : PySem.W.keepIn X.K (.ref C) = true) (hm : X.mg x = some (.ref C)) (hr : Room (k + 1) X.A) (hx : Passes cx X E) (ha : PA X (e :: es) t) (hg : Gl X x := by rfl)
    (hdb : (x == ("__debug__" : Str)) = false := by decide) (he : starEach (e :: es) X.env = (false, eval e X.env) :: starEach es X.env := by rfl) (hpl : (backTo pos (starEach es X.env)).any (·.1) = false := by rfl) :
    PE X (.Call (.Name x p) (e :: es) [] pos) (tMake C sp [] E t) := by
  obtain ⟨f, fd, F, mt, b⟩ := c
  exact pe_make ⟨mk, mt.at_, mt.fn, kc⟩ F hr hg hm b .nil hx ha hdb he hpl
/-- len(o) by the class's own __len__ -/
theorem call_lenO (c : MCal X.prog X.w X.K X.mg X.base cx k C "__len__" ps sp) (hr : Room (k + 1) X.A) (hx : Passes cx X E) : CallR X (.builtin "len") (fun xs H Q => ∃ a dx fs, xs = [.ref a] ∧ H a = some (.ins C dx fs) ∧ sp [.ref a] H (fun v H' => ∃ n : Int, v = .int n ∧ 0 ≤ n ∧ n < 2 ^ 63 ∧ Q v H') E) := by
  obtain ⟨f, fd, F, mt, b⟩ := c
  intro pins s σ H xs us Q I r h
  obtain ⟨a, dx, fs, rfl, ha, q⟩ := h
  obtain ⟨u, rfl, ru⟩ := vals1 r
  cases (show u = Value.ref a from ru)
  obtain ⟨mA, O, _⟩ := ins_get I.hok ha
  obtain ⟨od, J, _⟩ := O.look
  have r2 : Vals [V.ref a] [Value.ref a] := .cons rfl .nil
  have hl : [Value.ref a].length = ps.length := by rw [← r2.length]; exact F.len _ _ _ _ q
  have core : wpAny (model X.prog X.w) X.A.in1 (call (.ref f) [.ref a]) (PySem.W.LenBack (EP X pins σ Q)) X.xe s := by
    refine wpAny_call (codeAny_mono (F.run X.A.in1 X.stack s H ⟨[.ref a], []⟩ [.ref a] [.ref a] _ E hr.in1 I.env0.in1 (b s [.ref a] I.kIn hl) r2 q) fun rr s' hq => ?_)
    cases rr with
    | error e => exact hx pins σ H s e s' I hq
    | ok fl =>
      cases fl with
      | ret u =>
        obtain ⟨v, H', I3, rv, n, rfl, n0, n1, q3⟩ := I.after hq
        obtain ⟨tk, rfl⟩ := rv
        exact ⟨⟨n0, n1⟩, .int n, H', I3.tok _, ⟨_, rfl⟩, q3⟩
      | next => exact False.elim hq
      | brk => exact False.elim hq
      | cont => exact False.elim hq
  refine Calls.call_function_entry kind_len plain_len entry_len (args_len1 _) ?_
  unfold Builtin.«len»
  refine wpAny_bind (m := oneArg "len" _) (wpAny_pure ?_)
  refine wpAny_bind (m := callSpecial? (.ref a) (Str.ofString "__len__")) (PySem.W.special_fn I.kIn J mt.at_ (beq_iff_eq.mp mt.fn) (wpAny_mono core (fun rr s' hv => ?_) fun _ _ y => y))
  cases rr <;> first | exact hv.elim | skip
  rename_i n u
  obtain ⟨⟨n0, n1⟩, qq⟩ := hv
  refine wpAny_bind (wpAny_holding (wpAny_pure (wpAny_bind (wpAny_letGo ?_))))
  show wpAny _ _ (if n < 0 then _ else if n ≥ 2 ^ 63 then _ else _) _ _ _
  rw [if_neg (by omega), if_neg (by omega)]
  exact wpAny_bind (wpAny_mkInt (wpAny_pure ⟨_, rfl, qq⟩))
end
end G

/-! ## G17: a Cluster on the heap -/
namespace G
open PySem PySem.Spec PyProof.Rows L2
/-- {key: val for number, x in enumerate(xs)} over a list that stays -/
theorem dcT_enum {K : PySem.W.Frag} {a : Addr} {xs : List V} {g : TG} {tt : TT} {tk tv : TE} {vs : List Nat} {σ : L2.St} {H1 : Hp} {D : Addr} {Qd : Hp → Prop} (Pv : Nat → Hp → Prop) (h0 : Pv 0 (upd H1 D (.dT []))) (hl : ∀ i H, Pv i H → SqL K H a xs)
    (hs : ∀ (i : Nat) x T H, xs[i]? = some x → Pv i H → H T = none → g (.ref T) (wipe σ vs) (upd H T (.tup [.int (i : Nat), x])) fun σ2 H2 => wipe σ2 vs = wipe σ vs ∧ tt σ2 H2 fun b H3 =>
      if b = true then tk σ2 H3 fun y H4 => tv σ2 H4 fun z H5 => ∃ (kvs : List (List Key × V)) (k : List Key) (x : Addr), y = .ref x ∧ H5 x = some (.tup (k.map kV)) ∧ H5 D = some (.dT kvs) ∧ kvs.length < sizeLine ∧ Pv (i + 1) (upd H5 D (.dT (putK kvs k z))) else Pv (i + 1) H3) (hd : ∀ H, Pv xs.length H → Qd H) :
    ∃ W : Nat → Nat → Hp → Prop, (∃ m, W 0 m (upd H1 D (.dT []))) ∧ ∀ i m H, W i m H →
      ((Ite K a).stop i H ∧ Qd H) ∨ ((Ite K a).go i H ∧ ∃ Nx : Hp → Prop, (∀ H', Nx H' → ∃ m', m' < m ∧ W (i + 1) m' H') ∧ ∀ x H', (Ite K a).yld i H x H' → g x (wipe σ vs) H' fun σ2 H2 => wipe σ2 vs = wipe σ vs ∧ tt σ2 H2 fun b H3 =>
        if b = true then tk σ2 H3 fun y H4 => tv σ2 H4 fun z H5 => ∃ (kvs : List (List Key × V)) (k : List Key) (x : Addr), y = .ref x ∧ H5 x = some (.tup (k.map kV)) ∧ H5 D = some (.dT kvs) ∧ kvs.length < sizeLine ∧ Nx (upd H5 D (.dT (putK kvs k z))) else Nx H3) := by
  refine ⟨fun i m H => m + i = xs.length ∧ Pv i H, ⟨xs.length, Nat.add_zero _, h0⟩, ?_⟩
  rintro i m H ⟨em, p⟩
  have q := hl i H p
  by_cases lt : i < xs.length
  · refine .inr ⟨⟨xs, _, q, List.getElem?_eq_getElem lt⟩, Pv (i + 1), fun H' p' => ⟨m - 1, by omega, by omega, p'⟩, fun v H' y => ?_⟩
    obtain ⟨T, x, rfl, hT, rfl, f⟩ := y
    exact hs i x T H (f xs q) p hT
  · have e : i = xs.length := by omega
    subst e
    exact .inl ⟨⟨xs, q, Nat.le_refl _⟩, hd H p⟩
/-- the place of the bundle of f and s -/
def idx (bs : List Bun) (f s : Int) : Option Nat := bs.findIdx? fun t => t.1 == f && t.2.1 == s
def NumOk (kvs : List (List Key × V)) (bs : List Bun) : Prop := ∀ f s : Int, valV kvs [Sum.inl f, Sum.inl s] = (idx bs f s).map fun i => V.int (i : Int)
theorem idx_step {bs : List Bun} {i : Nat} {t : Bun} (nd : (bs.map bkey).Nodup) (ht : bs[i]? = some t) (f s : Int) : idx (bs.take (i + 1)) f s = if f = t.1 ∧ s = t.2.1 then some i else idx (bs.take i) f s := by
  have hi : i < bs.length := (List.getElem?_eq_some_iff.mp ht).1
  have e : bs.take (i + 1) = bs.take i ++ [t] := by rw [List.take_succ, ht]; rfl
  unfold idx
  rw [e, List.findIdx?_append, List.length_take, Nat.min_eq_left (Nat.le_of_lt hi)]
  by_cases h : f = t.1 ∧ s = t.2.1
  · rw [if_pos h]
    obtain ⟨rfl, rfl⟩ := h
    have n : (bs.take i).findIdx? (fun u => u.1 == t.1 && u.2.1 == t.2.1) = none := by
      rw [List.findIdx?_eq_none_iff]
      intro u hu
      rw [Bool.eq_false_iff]
      intro hc
      rw [Bool.and_eq_true, beq_iff_eq, beq_iff_eq] at hc
      obtain ⟨j, hj⟩ := List.getElem?_of_mem hu
      have hji : j < i := by
        have := (List.getElem?_eq_some_iff.mp hj).1
        rw [List.length_take] at this
        omega
      rw [List.getElem?_take_of_lt hji] at hj
      have k1 : (bs.map bkey)[j]? = some (bkey t) := by rw [List.getElem?_map, hj]; exact congrArg some (Prod.ext hc.1 hc.2)
      have k2 : (bs.map bkey)[i]? = some (bkey t) := by rw [List.getElem?_map, ht]; rfl
      have := (List.getElem?_inj (by rw [List.length_map]; omega) nd).mp (k1.trans k2.symm)
      omega
    rw [n]
    simp
  · rw [if_neg h]
    have n : [t].findIdx? (fun u => u.1 == f && u.2.1 == s) = none := by
      rw [List.findIdx?_eq_none_iff]
      intro u hu
      rw [List.mem_singleton.mp hu, Bool.eq_false_iff]
      intro hc
      rw [Bool.and_eq_true, beq_iff_eq, beq_iff_eq] at hc
      exact h ⟨hc.1.symm, hc.2.symm⟩
    rw [n]
    simp
theorem NumOk.step {kvs : List (List Key × V)} {bs : List Bun} {i : Nat} {t : Bun} (h : NumOk kvs (bs.take i)) (nd : (bs.map bkey).Nodup) (ht : bs[i]? = some t) : NumOk (putK kvs [Sum.inl t.1, Sum.inl t.2.1] (.int (i : Int))) (bs.take (i + 1)) := by
  intro f s
  rw [valV_put, h f s, idx_step nd ht]
  by_cases e : f = t.1 ∧ s = t.2.1
  · obtain ⟨rfl, rfl⟩ := e
    rw [if_pos rfl, if_pos ⟨rfl, rfl⟩]
    rfl
  · rw [if_neg e, if_neg]
    intro q
    injection q with q1 q2
    injection q2 with q2 _
    injection q1 with q1
    injection q2 with q2
    exact e ⟨q1, q2⟩
/-- the attributes of a Cluster -/
def fldsC (l r d : Addr) : List (Str × V) := putF "numbers" (.ref d) (putF "rows" (.ref r) (putF "limits" (.ref l) []))
theorem fC_l {l r d : Addr} : (fldsC l r d).lookup ("limits" : Str) = some (.ref l) := by
  unfold fldsC
  rw [lookup_putF, if_neg (by decide +kernel), lookup_putF, if_neg (by decide +kernel), lookup_putF, if_pos rfl]
theorem fC_r {l r d : Addr} : (fldsC l r d).lookup ("rows" : Str) = some (.ref r) := by
  unfold fldsC
  rw [lookup_putF, if_neg (by decide +kernel), lookup_putF, if_pos rfl]
theorem fC_d {l r d : Addr} : (fldsC l r d).lookup ("numbers" : Str) = some (.ref d) := by
  unfold fldsC
  rw [lookup_putF, if_pos rfl]
theorem fC_no {l r d : Addr} {m : Str} (h1 : ¬ m = "numbers") (h2 : ¬ m = "rows") (h3 : ¬ m = "limits") : (fldsC l r d).lookup m = none := by
  unfold fldsC
  rw [lookup_putF, if_neg h1, lookup_putF, if_neg h2, lookup_putF, if_neg h3]
  rfl
/-- a Cluster stands at p -/
structure ClAt (K : PySem.W.Frag) (C : Addr) (H : Hp) (p : Addr) (bs : List Bun) (cs : List Bnd) : Prop where
  ex : ∃ (dx l r d : Addr) (us ws : List V) (kvs : List (List Key × V)), H p = some (.ins C dx (fldsC l r d)) ∧ H l = some (.lst us) ∧ DaL K H us (cs.map cD) ∧ H r = some (.lst ws) ∧ DaL K H ws (bs.map bD) ∧ H d = some (.dT kvs) ∧ NumOk kvs bs
theorem ClAt.mono {K : PySem.W.Frag} {C : Addr} {H H' : Hp} {p : Addr} {bs : List Bun} {cs : List Bnd} (h : ClAt K C H p bs cs) (e : Same H H') : ClAt K C H' p bs cs := by
  obtain ⟨dx, l, r, d, us, ws, kvs, h1, h2, h3, h4, h5, h6, h7⟩ := h.ex
  exact ⟨dx, l, r, d, us, ws, kvs, e _ _ h1, e _ _ h2, h3.mono e, e _ _ h4, h5.mono e, e _ _ h6, h7⟩
/-- Cluster.__init__, of bounds and bundles that are as they should be; b stands aside -/
def sp_init (K : PySem.W.Frag) (C : Addr) : Sp := fun vs H Q _ => ∃ (b p dx : Addr) (x y : V) (cs : List Bnd) (bs : List Bun), vs = [.ref p, x, y] ∧ H p = some (.ins C dx []) ∧ H b ≠ none ∧ b ≠ p ∧ Da K (hid b (hid p H)) x (.list (cs.map cD)) ∧ Da K (hid b (hid p H)) y (.list (bs.map bD)) ∧
  areBoundsD (.list (cs.map cD)) = true ∧ areBundlesD (cs.length : Int) (.list (bs.map bD)) = true ∧ ∀ H', Same (hid p H) H' → ClAt K C (hid b H') p bs cs → Q .non H'
end G
namespace G
open PySem PySem.Spec PyProof.Rows L2
theorem hid_put {p : Addr} {H G : Hp} {o : HO} (e : Same (hid p H) G) : Same (hid p H) (upd G p o) := fun a u h => by
  by_cases q : a = p
  · subst q; rw [hid_at] at h; cases h
  · rw [upd_ne q]; exact e _ _ h
theorem areB_nd {n : Int} {bs : List Bun} (h : areBundlesD n (.list (bs.map bD)) = true) : bs.length ≤ 45 ∧ (bs.map bkey).Nodup := by
  have k : areBundlesD n (.list (bs.map bD)) = (decide ((bs.map bD).length ≤ 45) && (bs.map bD).all (isBundleD n) && decide (((bs.map bD).map pairOf).Nodup)) := rfl
  rw [k, Bool.and_eq_true, Bool.and_eq_true, decide_eq_true_iff, decide_eq_true_iff, List.length_map] at h
  refine ⟨h.1.1, ?_⟩
  have q := h.2
  rw [List.map_map] at q
  have e : bs.map (pairOf ∘ bD) = (bs.map bkey).map fun c => [c.1, c.2] := by
    rw [List.map_map]
    rfl
  rw [e] at q
  exact List.Pairwise.imp (fun h e => h (by rw [e])) (List.pairwise_map.mp q)
end G

/-! ## G18: leads -/
namespace G
open PySem PySem.Spec PyProof.Rows L2
theorem walk_zipP {K : PySem.W.Frag} {t : Bool} {a b : Addr} {xs ys : List V} (hl : xs.length = ys.length) : Walk (ItzP K t a b) xs.length (fun H => LT K t a H xs ∧ SqL K H b ys) (YPair (fun i => xs[i]?) (fun i => ys[i]?)) := by
  refine ⟨fun i H hi q => ⟨xs, ys, _, _, q.1, q.2, List.getElem?_eq_getElem hi, List.getElem?_eq_getElem (hl ▸ hi)⟩, fun H q => ⟨xs, ys, q.1, q.2, Or.inl ⟨rfl, Nat.le_of_eq hl⟩⟩, fun i H v H' hi q y => ?_⟩
  obtain ⟨T, x, y, h1, h2, h3, h4, h5⟩ := y
  exact ⟨T, x, y, h1, h2, h3, h4 xs q.1, h5 ys q.2⟩
def leadB (d : PyData) (t : Bun) : Bool := betw d 0 t.2.2
def areLeadsD (bs : List Bun) : PyData → Bool
  | .tuple ds => decide (ds.length = bs.length) && (List.zipWith leadB ds bs).all id
  | _ => false
/-- len(cluster) -/
def sp_clen (K : PySem.W.Frag) (C : Addr) : Sp := fun vs H Q _ => ∃ (p : Addr) (bs : List Bun) (cs : List Bnd), vs = [.ref p] ∧ ClAt K C H p bs cs ∧ Q (.int (bs.length : Int)) H
/-- cluster.bundles(), a new list -/
def sp_blist (K : PySem.W.Frag) (C : Addr) : Sp := fun vs H Q _ => ∃ (p : Addr) (G : Hp) (bs : List Bun) (cs : List Bnd), vs = [.ref p] ∧ Same G H ∧ ClAt K C G p bs cs ∧ ∀ (l : Addr) (ws : List V), H l = none → DaL K G ws (bs.map bD) → Q (.ref l) (upd H l (.lst ws))
def sp_are_leads (K : PySem.W.Frag) (C : Addr) : Sp := fun vs H Q _ => ∃ (p : Addr) (v : V) (d : PyData) (bs : List Bun) (cs : List Bnd), vs = [.ref p, v] ∧ ClAt K C H p bs cs ∧ bs.length ≤ 1000 ∧ Da K H v d ∧ ∀ H', Same H H' → Q (.bl (areLeadsD bs d)) H'
def sp_law_are_leads (K : PySem.W.Frag) : Sp := fun vs H Q _ => ∃ (x v : V) (d : PyData) (bs : List Bun), vs = [x, v] ∧ Da K H x (.list (bs.map bD)) ∧ Da K H v d ∧ ∀ H', Same H H' → Q (.bl (areLeadsD bs d)) H'
theorem zw_get {ds : List PyData} {bs : List Bun} {i : Nat} {d : PyData} {t : Bun} (h1 : ds[i]? = some d) (h2 : bs[i]? = some t) : (List.zipWith leadB ds bs)[i]? = some (leadB d t) := by
  rw [List.getElem?_zipWith, h1, h2]
end G
namespace G
open PySem PySem.Spec PyProof.Rows L2
/-- str(i) as data -/
theorem Sm.itxt {i : Int} (h : i.natAbs < 10 ^ 45) : Sm 0 500 (PyData.str (toString i)) := by
  refine ⟨rfl, Nat.le_refl _, ?_⟩
  show (reprText (Str.ofString (toString i))).length ≤ 500
  have e := int_text_length_le10 (a := i) (k := 45) (by decide) h
  have q := StrLaws.reprText_len (Str.ofString (toString i)) fun c hc => by
    by_cases hb : c < 16 ^ 8
    · exact hb
    · exact absurd hc (int_text_free' c ⟨by omega, Or.inr (by omega)⟩ i)
  rw [PySem.ofString_length] at q
  omega
theorem leads_int {n : Int} {bs : List Bun} {ms : List Int} (ho : BunsOk n bs) (hm : LeadsOk ms bs) : ∀ z ∈ ms, 0 ≤ z ∧ z ≤ 1000000000000000000 := fun z hz => by
  obtain ⟨i, hi⟩ := List.getElem?_of_mem hz
  have hl : i < bs.length := by rw [← hm.1]; exact (List.getElem?_eq_some_iff.mp hi).1
  have h1 := hm.2 i z bs[i] hi (List.getElem?_eq_getElem hl)
  have h2 := (ho.each bs[i] (List.getElem_mem hl)).pm
  omega
theorem sm_leads {n : Int} {bs : List Bun} {ms : List Int} (ho : BunsOk n bs) (hm : LeadsOk ms bs) : ∀ d ∈ ms.map PyData.int, Sm 4 100000 d := fun d hd => by
  obtain ⟨z, hz, rfl⟩ := List.mem_map.mp hd
  have := leads_int ho hm z hz
  exact (Sm.int (by rw [c45]; omega)).up (by decide) (by decide)
/-- leads bent somehow -/
def sp_bentL (K : PySem.W.Frag) : Sp := fun vs H Q _ => ∃ (b : Addr) (x l : V) (n : Int) (bs : List Bun) (ms : List Int), vs = [.ref b, x, l] ∧ BagOk b H ∧ Da K (hid b H) x (.list (bs.map bD)) ∧ Da K (hid b H) l (.tuple (ms.map PyData.int)) ∧ BunsOk n bs ∧ LeadsOk ms bs ∧ bs ≠ [] ∧
  ∀ v d H', Go b H H' → Da K (hid b H') v d → Sm 7 16000000 d → Q v H'
end G
namespace G
open PySem PySem.Spec PyProof.Rows L2
theorem are_bnds {cs : List Bnd} (h2 : 2 ≤ cs.length) (h10 : cs.length ≤ 10) (h : ∀ c ∈ cs, 0 ≤ c.1 ∧ c.1 ≤ c.2 ∧ c.2 ≤ 1000000000000000000000000000000) : areBoundsD (.list (cs.map cD)) = true := by
  have k : areBoundsD (.list (cs.map cD)) = (decide (2 ≤ (cs.map cD).length) && decide ((cs.map cD).length ≤ 10) && (cs.map cD).all isBoundD) := rfl
  rw [k, List.length_map, decide_eq_true h2, decide_eq_true h10, Bool.true_and, Bool.true_and, List.all_eq_true]
  intro d hd
  obtain ⟨c, hc, rfl⟩ := List.mem_map.mp hd
  obtain ⟨a, b, e⟩ := h c hc
  show (betw (.int c.1) 0 1000000000000000000000000000000 && (betw (.int c.2) 0 1000000000000000000000000000000 && leD (.int c.1) (.int c.2))) = true
  simp only [betw, leD, Bool.and_eq_true, decide_eq_true_eq]
  omega
theorem are_buns {n : Int} {bs : List Bun} (h45 : bs.length ≤ 45) (h : ∀ t ∈ bs, BunOk n t) (nd : (bs.map bkey).Nodup) : areBundlesD n (.list (bs.map bD)) = true := by
  have k : areBundlesD n (.list (bs.map bD)) = (decide ((bs.map bD).length ≤ 45) && (bs.map bD).all (isBundleD n) && decide (((bs.map bD).map pairOf).Nodup)) := rfl
  rw [k, List.length_map, decide_eq_true h45, Bool.true_and, Bool.and_eq_true, decide_eq_true_iff, List.all_eq_true]
  refine ⟨fun d hd => ?_, ?_⟩
  · obtain ⟨t, ht, rfl⟩ := List.mem_map.mp hd
    obtain ⟨a, b, c, e, g⟩ := h t ht
    show (betw (.int t.2.2) 1 1000000000000000000 && (betw (.int t.1) 0 (n - 1) && (betw (.int t.2.1) 0 (n - 1) && ltD (.int t.1) (.int t.2.1)))) = true
    simp only [betw, ltD, Bool.and_eq_true, decide_eq_true_eq]
    omega
  · have e : (bs.map bD).map pairOf = (bs.map bkey).map fun c => [c.1, c.2] := by
      rw [List.map_map, List.map_map]
      rfl
    rw [e]
    refine List.pairwise_map.mpr (nd.imp fun h q => h ?_)
    injection q with q1 q2
    injection q2 with q2 _
    exact Prod.ext q1 q2
theorem NetOk.size {n : Int} {bs : List Bun} {ms : List Int} {cs : List Bnd} (h : NetOk n bs ms cs) : (cs.length : Int) = n := by
  have e := h.bnds.1
  rw [loadsP_len] at e
  have := h.buns.n2
  omega
theorem NetOk.okc {n : Int} {bs : List Bun} {ms : List Int} {cs : List Bnd} (h : NetOk n bs ms cs) : areBoundsD (.list (cs.map cD)) = true := by
  have e := h.size
  have := h.buns.n2
  have := h.buns.n10
  refine are_bnds (by omega) (by omega) fun c hc => ?_
  obtain ⟨i, hi⟩ := List.getElem?_of_mem hc
  have hil := (List.getElem?_eq_some_iff.mp hi).1
  have hl := h.bnds.1
  obtain ⟨a, b, d, g⟩ := h.bnds.2 i c _ hi (List.getElem?_eq_getElem (by omega))
  omega
theorem NetOk.okb {n : Int} {bs : List Bun} {ms : List Int} {cs : List Bnd} (h : NetOk n bs ms cs) : areBundlesD (cs.length : Int) (.list (bs.map bD)) = true := by
  rw [h.size]
  exact are_buns h.buns.len h.buns.each h.buns.nd
/-- from the place where a Cluster is made -/
theorem made_same {H : Hp} {x dx C : Addr} (hx : H x = none) (hdx : H dx = none) : Same H (hid x (upd (upd H dx (.own x)) x (.ins C dx []))) := fun a o e => by
  have n1 : a ≠ x := ne_of_none e hx
  have n2 : a ≠ dx := ne_of_none e hdx
  rw [hid_ne n1, upd_ne n1, upd_ne n2]
  exact e
end G

/-! ## G19: a list of the caller's is out of sight while an expression runs -/
namespace G
open PySem PySem.Spec PyProof.Rows L2
section
variable {K : PySem.W.Frag} {G : Hp} {D : Addr} {φ : Heap → Prop}
theorem off_ne {a : Addr} {u : HO} (hD : G D = some (.ext φ)) (n1 : ∀ o, HO.ext φ ≠ .frz o u) (n2 : HO.ext φ ≠ u) (h : Rd G a u) : Rd (hid D G) a u := by
  have ne : a ≠ D := fun e => by
    subst e
    rcases h with h | ⟨o, h⟩
    · rw [hD] at h; exact n2 (Option.some.inj h)
    · rw [hD] at h; exact n1 o (Option.some.inj h)
  rcases h with h | ⟨o, h⟩
  · exact .inl (by rw [hid_ne ne]; exact h)
  · exact .inr ⟨o, by rw [hid_ne ne]; exact h⟩
theorem off_l {a : Addr} {xs : List V} (hD : G D = some (.ext φ)) (h : SqL K G a xs) : SqL K (hid D G) a xs := h.imp (off_ne hD (fun _ e => nomatch e) (fun e => nomatch e)) id
theorem off_t {a : Addr} {xs : List V} (hD : G D = some (.ext φ)) (h : SqT K G a xs) : SqT K (hid D G) a xs := h.imp (off_ne hD (fun _ e => nomatch e) (fun e => nomatch e)) id
mutual
theorem Da.off (hD : G D = some (.ext φ)) : ∀ (d : PyData) (v : V), Da K G v d → Da K (hid D G) v d
  | .none, _, h => by cases h; exact .non
  | .bool b, _, h => by cases h; exact .bl b
  | .int i, _, h => by cases h; exact .int i
  | .str x, _, h => by cases h; exact .str x
  | .list ds, _, h => by
    cases h with
    | lst a b => exact .lst (off_l hD a) (DaL.off hD ds _ b)
  | .tuple ds, _, h => by
    cases h with
    | tup a b => exact .tup (off_t hD a) (DaL.off hD ds _ b)
  | .dict es, _, h => by
    cases h with
    | @dct p kvs _ a b =>
      refine .dct ?_ (DaE.off hD es _ b)
      rw [hid_ne (fun e => by subst e; rw [hD] at a; cases a)]
      exact a
theorem DaL.off (hD : G D = some (.ext φ)) : ∀ (ds : List PyData) (vs : List V), DaL K G vs ds → DaL K (hid D G) vs ds
  | [], _, h => by cases h; exact .nil
  | d :: ds, _, h => by
    cases h with
    | cons a b => exact .cons (Da.off hD d _ a) (DaL.off hD ds _ b)
theorem DaE.off (hD : G D = some (.ext φ)) : ∀ (es : List (PyData × PyData)) (kvs : List (Key × V)), DaE K G kvs es → DaE K (hid D G) kvs es
  | [], _, h => by cases h; exact .nil
  | (k, d) :: es, _, h => by
    cases h with
    | cons a b => exact .cons (Da.off hD d _ a) (DaE.off hD es _ b)
end
end
/-- e runs while the list at D is out of sight -/
def tHide (te : TE) : TE := fun σ H Q => ∃ D us, H D = some (.lst us) ∧ ∀ φ, te σ (upd H D (.ext φ)) fun v H' => H' D = some (.ext φ) ∧ Q v (upd H' D (.lst us))
theorem pe_hide {X : Cx} {e : Expr} {te : TE} (he : PE X e te) : PE X e (tHide te) := by
  refine ⟨fun pins s σ H Q I h => ?_⟩
  obtain ⟨D, us, hD, q⟩ := h
  obtain ⟨z, its, n, r, ho⟩ := (show ObjOk X.prog X.w H s.heap D (.lst us) from I.hok D _ hD)
  have I2 : Inv X pins σ (upd H D (.ext fun h => h.get? D = some { cls := .type "list", data := .seq its.toArray n })) s :=
    I.write (x := D) (e := D) (h' := s.heap) (t' := s.toks) (by rw [hD]; trivial) (.inl rfl) (fun _ _ _ k => k) ⟨_, ho⟩ ⟨ho, ⟨_, ho⟩, fun h1 h2 e1 e2 => e2 _ e1⟩
  refine thn (he.run pins s σ _ _ I2 (q _)) fun u s1 hv => ?_
  obtain ⟨v, H1, I1, rv, hD1, q1⟩ := hv
  have ho1 : s1.heap.get? D = some { cls := .type "list", data := .seq its.toArray n } := (I1.hok D _ hD1).1
  exact ⟨v, _, I1.write (o := .lst us) (x := D) (e := D) (h' := s1.heap) (t' := s1.toks) (by rw [hD1]; trivial) (.inl rfl) (fun _ _ _ k => k) ⟨_, ho1⟩ ⟨z, its, n, r, ho1⟩, rv, q1⟩
end G
namespace G
open PySem PySem.Spec PyProof.Rows L2
/-- Cluster(x, y) where a bag stands at b -/
theorem make_ok {K : PySem.W.Frag} {C b : Addr} {H : Hp} {x y : V} {cs : List Bnd} {bs : List Bun} {Q : VK} {E : XK} (hb : BagOk b H) (hx : Da K (hid b H) x (.list (cs.map cD))) (hy : Da K (hid b H) y (.list (bs.map bD))) (okc : areBoundsD (.list (cs.map cD)) = true) (okb : areBundlesD (cs.length : Int) (.list (bs.map bD)) = true)
    {p dx : Addr} (hp : H p = none) (hdx : H dx = none) (k : ∀ H', Go b H H' → ClAt K C (hid b H') p bs cs → Q .non H') : sp_init K C [.ref p, x, y] (upd (upd H dx (.own p)) p (.ins C dx [])) Q E := by
  have ms := made_same (C := C) hp hdx
  have npb := hb.ne hp
  refine ⟨b, p, dx, x, y, cs, bs, rfl, upd_same, fun z => ?_, npb.symm, hx.mono (hid_same ms), hy.mono (hid_same ms), okc, okb, fun H4 e4 hc4 => k H4 (Go.of hb (ms.trans e4)) hc4⟩
  obtain ⟨cc, aa, zz, kk, css, h1, _⟩ := hb
  rw [hid_le _ _ (ms _ _ h1)] at z
  cases z
end G

/-! ## G20: what a Cluster tells -/
namespace G
open PySem PySem.Spec PyProof.Rows L2
def sp_size (K : PySem.W.Frag) (C : Addr) : Sp := fun vs H Q _ => ∃ (p : Addr) (bs : List Bun) (cs : List Bnd), vs = [.ref p] ∧ ClAt K C H p bs cs ∧ Q (.int (cs.length : Int)) H
def sp_floor (K : PySem.W.Frag) (C : Addr) : Sp := fun vs H Q _ => ∃ (p : Addr) (bs : List Bun) (cs : List Bnd) (i : Int) (c : Bnd), vs = [.ref p, .int i] ∧ ClAt K C H p bs cs ∧ 0 ≤ i ∧ cs[i.toNat]? = some c ∧ Q (.int c.1) H
def sp_ceiling (K : PySem.W.Frag) (C : Addr) : Sp := fun vs H Q _ => ∃ (p : Addr) (bs : List Bun) (cs : List Bnd) (i : Int) (c : Bnd), vs = [.ref p, .int i] ∧ ClAt K C H p bs cs ∧ 0 ≤ i ∧ cs[i.toNat]? = some c ∧ Q (.int c.2) H
theorem da_bnd {K : PySem.W.Frag} {H : Hp} {v : V} {c : Bnd} (h : Da K H v (cD c)) : ∃ a, v = .ref a ∧ SqT K H a [.int c.1, .int c.2] := by
  obtain ⟨a, us, rfl, s, d⟩ := da_tup h
  rw [DaL.unints d] at s
  exact ⟨a, rfl, s⟩
/-- the i-th of the limits -/
theorem lim_at {K : PySem.W.Frag} {H : Hp} {us : List V} {cs : List Bnd} {i : Int} {c : Bnd} (h : DaL K H us (cs.map cD)) (h0 : 0 ≤ i) (hc : cs[i.toNat]? = some c) : ∃ a, atI us i = some (.ref a) ∧ SqT K H a [.int c.1, .int c.2] := by
  have hl : i.toNat < cs.length := (List.getElem?_eq_some_iff.mp hc).1
  obtain ⟨u, d, e, _, hd, hu⟩ := h.pick h0 (by rw [List.length_map]; omega)
  rw [List.getElem?_map, hc] at hd
  obtain rfl : cD c = d := Option.some.inj hd
  obtain ⟨a, rfl, s⟩ := da_bnd hu
  exact ⟨a, e, s⟩
/-- cluster.bundle_of(one, other) -/
def mnI (i j : Int) : Int := if j < i then j else i
def mxI (i j : Int) : Int := if j > i then j else i
def numV : Option Nat → V
  | none => .non
  | some n => .int (n : Int)
def sp_bundle_of (K : PySem.W.Frag) (C : Addr) : Sp := fun vs H Q _ => ∃ (p : Addr) (bs : List Bun) (cs : List Bnd) (i j : Int), vs = [.ref p, .int i, .int j] ∧ ClAt K C H p bs cs ∧ ∀ H', Same H H' → Q (numV (idx bs (mnI i j) (mxI i j))) H'
theorem u1 {A : Around} {k : Nat} (hr : Room k A) : A.units + 1 < cLine := Nat.lt_of_le_of_lt (Nat.add_le_add_left (by decide : 1 ≤ 64) _) hr.units
end G
namespace G
open PySem PySem.Spec PyProof.Rows L2
/-- loads(cluster, leads) -/
def sp_cloads (K : PySem.W.Frag) (C : Addr) : Sp := fun vs H Q _ => ∃ (p l : Addr) (t : Bool) (bs : List Bun) (cs : List Bnd) (ms : List Int), vs = [.ref p, .ref l] ∧ ClAt K C H p bs cs ∧ cs.length ≤ 1000 ∧ LT K t l H (ms.map V.int) ∧ ms.length = bs.length ∧ (∀ t ∈ bs, BunOk (cs.length : Int) t) ∧
  ∀ (q : Addr) (H' : Hp), H q = none → Same H H' → H' q = some (.lst ((loadsP cs.length ms bs).map V.int)) → Q (.ref q) H'
end G
namespace G
open PySem PySem.Spec PyProof.Rows L2
/-- how many one leads of the partitions that it has with other -/
def ledP (bs : List Bun) (ms : List Int) (i j : Int) : Int := match idx bs (mnI i j) (mxI i j) with
  | none => 0
  | some n => if i < j then ms.getD n 0 else (bs.getD n (0, 0, 0)).2.2 - ms.getD n 0
def sp_led (K : PySem.W.Frag) (C : Addr) : Sp := fun vs H Q _ => ∃ (p l : Addr) (bs : List Bun) (cs : List Bnd) (ms : List Int) (i j : Int), vs = [.ref p, .ref l, .int i, .int j] ∧ ClAt K C H p bs cs ∧ SqT K H l (ms.map V.int) ∧ ms.length = bs.length ∧ ∀ H', Same H H' → Q (.int (ledP bs ms i j)) H'
theorem idx_lt {bs : List Bun} {f s : Int} {n : Nat} (h : idx bs f s = some n) : n < bs.length := by
  unfold idx at h
  exact (List.findIdx?_eq_some_iff_findIdx_eq.mp h).1
end G
namespace G
open PySem PySem.Spec PyProof.Rows L2
/-- is the load within the bound -/
def within (c : Bnd) (x : Int) : Bool := decide (c.1 ≤ x) && decide (x ≤ c.2)
/-- the first broker whose load is not within its bound -/
def firstP (cs : List Bnd) (hs : List Int) : Option Nat := (List.zipWith within cs hs).findIdx? fun b => !b
def sp_first (K : PySem.W.Frag) (C : Addr) : Sp := fun vs H Q _ => ∃ (p l : Addr) (t : Bool) (bs : List Bun) (cs : List Bnd) (ms : List Int), vs = [.ref p, .ref l] ∧ ClAt K C H p bs cs ∧ cs.length ≤ 1000 ∧ LT K t l H (ms.map V.int) ∧ ms.length = bs.length ∧ (∀ t ∈ bs, BunOk (cs.length : Int) t) ∧
  ∀ H', Same H H' → Q (numV (firstP cs (loadsP cs.length ms bs))) H'
end G

/-! ## R1: values without a heap; what a def knows of its names and of what it has at hand -/
namespace R
open PySem PySem.Spec PyProof.Rows L2 G
/-- a value without a heap, never changed any more -/
inductive W where
  | v (x : V)
  | lst (ws : List W)
  | tup (ws : List W)
  | dic (ks : List Key) (ws : List W)
  | dit (ks : List (List Key)) (ws : List W)
  | obj (C : Addr) (fs : List Str) (ws : List W)
  | set (S : Int → Bool) (n : Nat)
  | bag
abbrev W.int (i : Int) : W := .v (.int i)
abbrev W.bl (b : Bool) : W := .v (.bl b)
abbrev W.non : W := .v .non
abbrev W.str (s : Str) : W := .v (.str s)
mutual
/-- v stands for w in the part F of the heap; the bag is at b -/
inductive Rep (K : PySem.W.Frag) (b : Addr) (F : Hp) : V → W → Prop
  | v (x : V) : Rep K b F x (.v x)
  | lst {a us ws} : F a = some (.lst us) → RepL K b F us ws → Rep K b F (.ref a) (.lst ws)
  | tup {a us ws} : F a = some (.tup us) → RepL K b F us ws → Rep K b F (.ref a) (.tup ws)
  | dic {a ks us ws} : F a = some (.dK (ks.zip us)) → us.length = ks.length → RepL K b F us ws → Rep K b F (.ref a) (.dic ks ws)
  | dit {a ks us ws} : F a = some (.dT (ks.zip us)) → us.length = ks.length → RepL K b F us ws → Rep K b F (.ref a) (.dit ks ws)
  | obj {a C dx fs us ws} : F a = some (.ins C dx (fs.zip us)) → us.length = fs.length → RepL K b F us ws → Rep K b F (.ref a) (.obj C fs ws)
  | set {a S n} : F a = some (.set S n) → Rep K b F (.ref a) (.set S n)
  | bag : Rep K b F (.ref b) .bag
inductive RepL (K : PySem.W.Frag) (b : Addr) (F : Hp) : List V → List W → Prop
  | nil : RepL K b F [] []
  | cons {v w vs ws} : Rep K b F v w → RepL K b F vs ws → RepL K b F (v :: vs) (w :: ws)
end
section
variable {K : PySem.W.Frag} {b : Addr} {F F' : Hp}
mutual
theorem Rep.up (e : Same F F') : ∀ (w : W) (v : V), Rep K b F v w → Rep K b F' v w
  | .v x, _, h => by cases h; exact .v x
  | .lst ws, _, h => by cases h with | lst a r => exact .lst (e _ _ a) (RepL.up e ws _ r)
  | .tup ws, _, h => by cases h with | tup a r => exact .tup (e _ _ a) (RepL.up e ws _ r)
  | .dic ks ws, _, h => by cases h with | dic a l r => exact .dic (e _ _ a) l (RepL.up e ws _ r)
  | .dit ks ws, _, h => by cases h with | dit a l r => exact .dit (e _ _ a) l (RepL.up e ws _ r)
  | .obj C fs ws, _, h => by cases h with | obj a l r => exact .obj (e _ _ a) l (RepL.up e ws _ r)
  | .set S n, _, h => by cases h with | set a => exact .set (e _ _ a)
  | .bag, _, h => by cases h; exact .bag
theorem RepL.up (e : Same F F') : ∀ (ws : List W) (vs : List V), RepL K b F vs ws → RepL K b F' vs ws
  | [], _, h => by cases h; exact .nil
  | w :: ws, _, h => by cases h with | cons a r => exact .cons (Rep.up e w _ a) (RepL.up e ws _ r)
end
theorem Rep.mono {v : V} {w : W} (h : Rep K b F v w) (e : Same F F') : Rep K b F' v w := Rep.up e w v h
theorem RepL.mono {vs : List V} {ws : List W} (h : RepL K b F vs ws) (e : Same F F') : RepL K b F' vs ws := RepL.up e ws vs h
theorem RepL.len : ∀ {ws : List W} {vs : List V}, RepL K b F vs ws → vs.length = ws.length
  | [], _, h => by cases h; rfl
  | w :: ws, _, h => by cases h with | cons a r => rw [List.length_cons, List.length_cons, r.len]
theorem RepL.get : ∀ {ws : List W} {vs : List V} {i : Nat} {w : W}, RepL K b F vs ws → ws[i]? = some w → ∃ v, vs[i]? = some v ∧ Rep K b F v w
  | [], _, _, _, _, e => by cases e
  | w :: ws, _, 0, _, h, e => by cases h with | cons a r => obtain rfl : w = _ := Option.some.inj e; exact ⟨_, rfl, a⟩
  | w :: ws, _, i + 1, _, h, e => by cases h with | cons a r => obtain ⟨v, q, z⟩ := r.get (i := i) e; exact ⟨v, q, z⟩
theorem RepL.getV : ∀ {ws : List W} {vs : List V} {i : Nat} {v : V}, RepL K b F vs ws → vs[i]? = some v → ∃ w, ws[i]? = some w ∧ Rep K b F v w
  | [], _, _, _, h, e => by cases h; cases e
  | w :: ws, _, 0, _, h, e => by cases h with | cons a r => cases Option.some.inj e; exact ⟨_, rfl, a⟩
  | w :: ws, _, i + 1, _, h, e => by cases h with | cons a r => obtain ⟨v, q, z⟩ := r.getV (i := i) e; exact ⟨v, q, z⟩
theorem RepL.app : ∀ {ws xs : List W} {vs us : List V}, RepL K b F vs ws → RepL K b F us xs → RepL K b F (vs ++ us) (ws ++ xs)
  | [], _, _, _, h, q => by cases h; exact q
  | w :: ws, _, _, _, h, q => by cases h with | cons a r => exact .cons a (r.app q)
theorem RepL.take : ∀ {ws : List W} {vs : List V} (n : Nat), RepL K b F vs ws → RepL K b F (vs.take n) (ws.take n)
  | _, _, 0, _ => .nil
  | [], _, n + 1, h => by cases h; exact .nil
  | w :: ws, _, n + 1, h => by cases h with | cons a r => exact .cons a (r.take n)
theorem RepL.drop : ∀ {ws : List W} {vs : List V} (n : Nat), RepL K b F vs ws → RepL K b F (vs.drop n) (ws.drop n)
  | _, _, 0, h => h
  | [], _, n + 1, h => by cases h; exact .nil
  | w :: ws, _, n + 1, h => by cases h with | cons a r => exact r.drop n
theorem RepL.rev : ∀ {ws : List W} {vs : List V}, RepL K b F vs ws → RepL K b F vs.reverse ws.reverse
  | [], _, h => by cases h; exact .nil
  | w :: ws, _, h => by cases h with | cons a r => rw [List.reverse_cons, List.reverse_cons]; exact r.rev.app (.cons a .nil)
theorem RepL.set : ∀ {ws : List W} {vs : List V} (i : Nat) {w : W} {v : V}, RepL K b F vs ws → Rep K b F v w → RepL K b F (vs.set i v) (ws.set i w)
  | [], _, _, _, _, h, _ => by cases h; exact .nil
  | w :: ws, _, 0, _, _, h, q => by cases h with | cons a r => exact .cons q r
  | w :: ws, _, i + 1, _, _, h, q => by cases h with | cons a r => exact .cons a (r.set i q)
theorem RepL.erase : ∀ {ws : List W} {vs : List V} (i : Nat), RepL K b F vs ws → RepL K b F (vs.eraseIdx i) (ws.eraseIdx i)
  | [], _, _, h => by cases h; exact .nil
  | w :: ws, _, 0, h => by cases h with | cons a r => exact r
  | w :: ws, _, i + 1, h => by cases h with | cons a r => exact .cons a (r.erase i)
theorem RepL.flatrep {ws : List W} {vs : List V} (h : RepL K b F vs ws) : ∀ n, RepL K b F (List.replicate n vs).flatten (List.replicate n ws).flatten
  | 0 => .nil
  | n + 1 => h.app (RepL.flatrep h n)
theorem RepL.vs : ∀ (xs : List V), RepL K b F xs (xs.map W.v)
  | [] => .nil
  | x :: xs => .cons (.v x) (RepL.vs xs)
theorem RepL.unv : ∀ {xs : List V} {us : List V}, RepL K b F us (xs.map W.v) → us = xs
  | [], _, h => by cases h; rfl
  | x :: xs, _, h => by cases h with | cons a r => cases a; rw [RepL.unv r]
theorem RepL.unf {α : Type} {f : α → V} {xs : List α} {us : List V} (h : RepL K b F us (xs.map fun x => W.v (f x))) : us = xs.map f := by
  have e : (xs.map fun x => W.v (f x)) = (xs.map f).map W.v := by rw [List.map_map]; rfl
  rw [e] at h
  exact h.unv
theorem RepL.ofF {α : Type} (f : α → V) (xs : List α) : RepL K b F (xs.map f) (xs.map fun x => W.v (f x)) := by
  have e : (xs.map fun x => W.v (f x)) = (xs.map f).map W.v := by rw [List.map_map]; rfl
  rw [e]
  exact .vs _
theorem Rep.flat {v x : V} (h : Rep K b F v (.v x)) : v = x := by cases h; rfl
end
/-- what a def knows of a thing: shared; its own (nobody else has it), with shared things in it; a new tuple of such; nothing -/
inductive D where
  | sh (w : W)
  | lst (ws : List W)
  | dic (ks : List Key) (ws : List W)
  | dit (ks : List (List Key)) (ws : List W)
  | obj (C : Addr) (fs : List Str) (ws : List W)
  | set (S : Int → Bool) (n : Nat)
  | ntup (ds : List D)
  | mobj (C : Addr) (fs : List Str) (ws : List W)
  | raw (o : HO)
  | un
abbrev D.int (i : Int) : D := .sh (.v (.int i))
abbrev D.bl (b : Bool) : D := .sh (.v (.bl b))
abbrev D.non : D := .sh (.v .non)
abbrev D.str (s : Str) : D := .sh (.v (.str s))
/-- what it is when it is shared -/
def D.fz : D → Option W
  | .sh w => some w
  | .lst ws => some (.lst ws)
  | .dic ks ws => some (.dic ks ws)
  | .dit ks ws => some (.dit ks ws)
  | .obj C fs ws => some (.obj C fs ws)
  | .set S n => some (.set S n)
  | _ => none
/-- the frame of a def's run: its written part, the bag, what was lent to it, the heap and its shared part as it began -/
structure Cx (K : PySem.W.Frag) where
  b : Addr
  M : Addr → Prop
  F0 : Hp
  H0 : Hp
/-- v is what d says; what is its own lies in S -/
inductive Ow {K : PySem.W.Frag} (c : Cx K) (F H : Hp) : (Addr → Prop) → V → D → Prop
  | sh {S v w} : Rep K c.b F v w → Ow c F H S v (.sh w)
  | lst {S a us ws} : S a → ¬ c.M a → H a = some (.lst us) → RepL K c.b F us ws → Ow c F H S (.ref a) (.lst ws)
  | dic {S a ks us ws} : S a → ¬ c.M a → H a = some (.dK (ks.zip us)) → us.length = ks.length → RepL K c.b F us ws → Ow c F H S (.ref a) (.dic ks ws)
  | dit {S a ks us ws} : S a → ¬ c.M a → H a = some (.dT (ks.zip us)) → us.length = ks.length → RepL K c.b F us ws → Ow c F H S (.ref a) (.dit ks ws)
  | obj {S a C dx fs us ws} : S a → ¬ c.M a → H a = some (.ins C dx (fs.zip us)) → us.length = fs.length → RepL K c.b F us ws → Ow c F H S (.ref a) (.obj C fs ws)
  | set {S a T n} : S a → ¬ c.M a → H a = some (.set T n) → Ow c F H S (.ref a) (.set T n)
  | ntup {S a us ds} (cm : Addr → Nat) : S a → ¬ c.M a → H a = some (.tup us) → us.length = ds.length → (∀ (j : Nat) v d, us[j]? = some v → ds[j]? = some d → Ow c F H (fun x => S x ∧ x ≠ a ∧ cm x = j) v d) → Ow c F H S (.ref a) (.ntup ds)
  | mobj {S a C dx fs us ws} : S a → c.M a → H a = some (.ins C dx (fs.zip us)) → us.length = fs.length → RepL K c.b F us ws → Ow c F H S (.ref a) (.mobj C fs ws)
  | raw {S a o} : S a → ¬ c.M a → H a = some o → Ow c F H S (.ref a) (.raw o)
  | un {S v} : Ow c F H S v .un
theorem Ow.mono {K : PySem.W.Frag} {c : Cx K} {F H F' H' : Hp} (e : Same F F') {S : Addr → Prop} {v : V} {d : D} (h : Ow c F H S v d) : ∀ {S' : Addr → Prop}, (∀ a o, S a → H a = some o → H' a = some o) → (∀ a, S a → S' a) → Ow c F' H' S' v d := by
  induction h with
  | sh r => intro S' k s; exact .sh (r.mono e)
  | lst s0 m h r => intro S' k s; exact .lst (s _ s0) m (k _ _ s0 h) (r.mono e)
  | dic s0 m h l r => intro S' k s; exact .dic (s _ s0) m (k _ _ s0 h) l (r.mono e)
  | dit s0 m h l r => intro S' k s; exact .dit (s _ s0) m (k _ _ s0 h) l (r.mono e)
  | obj s0 m h l r => intro S' k s; exact .obj (s _ s0) m (k _ _ s0 h) l (r.mono e)
  | set s0 m h => intro S' k s; exact .set (s _ s0) m (k _ _ s0 h)
  | ntup cm s0 m h l _ ih =>
    intro S' k s
    exact .ntup cm (s _ s0) m (k _ _ s0 h) l fun j v d hv hd => ih j v d hv hd (fun a o q => k a o q.1) fun a q => ⟨s a q.1, q.2⟩
  | mobj s0 m h l r => intro S' k s; exact .mobj (s _ s0) m (k _ _ s0 h) l (r.mono e)
  | raw s0 m h => intro S' k s; exact .raw (s _ s0) m (k _ _ s0 h)
  | un => intro S' k s; exact .un
/-- an own thing is shared from now on -/
theorem Ow.frz {K : PySem.W.Frag} {c : Cx K} {F H : Hp} {S : Addr → Prop} {v : V} {d : D} {w : W} (h : Ow c F H S v d) (hw : d.fz = some w) (hF : ∀ a, S a → F a = none) : ∃ F', Same F F' ∧ (∀ a o, F' a = some o → F a = some o ∨ (S a ∧ ¬ c.M a ∧ H a = some o)) ∧ Rep K c.b F' v w := by
  have one : ∀ {a : Addr} {o : HO}, S a → ¬ c.M a → H a = some o → Same F (upd F a o) ∧ (∀ x u, upd F a o x = some u → F x = some u ∨ (S x ∧ ¬ c.M x ∧ H x = some u)) := fun {a o} s0 m h => by
    refine ⟨same_new (hF a s0), fun x u q => ?_⟩
    by_cases e : x = a
    · subst e; rw [upd_same] at q; cases q; exact .inr ⟨s0, m, h⟩
    · rw [upd_ne e] at q; exact .inl q
  cases h with
  | sh r => cases hw; exact ⟨F, Same.refl _, fun a o q => .inl q, r⟩
  | lst s0 m h r => cases hw; obtain ⟨e, k⟩ := one s0 m h; exact ⟨_, e, k, .lst upd_same (r.mono e)⟩
  | dic s0 m h l r => cases hw; obtain ⟨e, k⟩ := one s0 m h; exact ⟨_, e, k, .dic upd_same l (r.mono e)⟩
  | dit s0 m h l r => cases hw; obtain ⟨e, k⟩ := one s0 m h; exact ⟨_, e, k, .dit upd_same l (r.mono e)⟩
  | obj s0 m h l r => cases hw; obtain ⟨e, k⟩ := one s0 m h; exact ⟨_, e, k, .obj upd_same l (r.mono e)⟩
  | set s0 m h => cases hw; obtain ⟨e, k⟩ := one s0 m h; exact ⟨_, e, k, .set upd_same⟩
  | ntup cm s0 m h l r => cases hw
  | mobj s0 m h l r => cases hw
  | raw s0 m h => cases hw
  | un => cases hw
abbrev Om := Addr → Option (Sum Nat Nat)
def SlOk {K : PySem.W.Frag} (c : Cx K) (F H : Hp) (om : Om) (i : Nat) (o : Option (Option V)) (d : D) : Prop := d = .un ∨ ∃ v, o = some (some v) ∧ Ow c F H (fun a => om a = some (.inl i)) v d
def TsOk {K : PySem.W.Frag} (c : Cx K) (F H : Hp) (om : Om) : List (V × D) → Prop
  | [] => True
  | t :: ts => Ow c F H (fun a => om a = some (.inr ts.length)) t.1 t.2 ∧ TsOk c F H om ts
/-- how the heap has come on -/
structure Fr {K : PySem.W.Frag} (c : Cx K) (F H : Hp) : Prop where
  bg : ∃ x, BagC c.b x c.H0 ∧ BagC c.b x H ∧ ¬ c.M x
  fb : F c.b = none
  ff : Same c.F0 F
  fh : Same F H
  nw : ∀ a, c.F0 a = none → c.H0 a ≠ none → F a = none
  kp : ∀ a o, c.H0 a = some o → a ≠ c.b → ¬ c.M a → H a = some o
  al : ∀ a, c.H0 a ≠ none → H a ≠ none
  nm : ∀ {a}, c.H0 a = none → ¬ c.M a
structure OmOk {K : PySem.W.Frag} (c : Cx K) (F H : Hp) (om : Om) : Prop where
  nb : ∀ a i, om a = some i → a ≠ c.b
  nf : ∀ a i, om a = some i → F a = none
  th : ∀ a i, om a = some i → H a ≠ none
  mn : ∀ a i, om a = some i → c.H0 a = none ∨ c.M a
/-- the state of a def -/
structure Rel {K : PySem.W.Frag} (c : Cx K) (F H : Hp) (σ : L2.St) (ρ : List D) (ts : List (V × D)) : Prop where
  fr : Fr c F H
  len : σ.length = ρ.length
  ex : ∃ om : Om, OmOk c F H om ∧ (∀ i d, ρ[i]? = some d → SlOk c F H om i σ[i]? d) ∧ TsOk c F H om ts
section
variable {K : PySem.W.Frag} {c : Cx K} {F H F' H' : Hp} {σ : L2.St} {ρ : List D} {ts : List (V × D)} {om : Om}
theorem SlOk.mono {i : Nat} {o : Option (Option V)} {d : D} {om' : Om} (h : SlOk c F H om i o d) (e : Same F F') (k : ∀ a o, om a = some (.inl i) → H a = some o → H' a = some o) (q : ∀ a, om a = some (.inl i) → om' a = some (.inl i)) : SlOk c F' H' om' i o d := by
  rcases h with h | ⟨v, h1, h2⟩
  · exact .inl h
  · exact .inr ⟨v, h1, h2.mono e k q⟩
theorem TsOk.mono {om' : Om} (e : Same F F') : ∀ {ts : List (V × D)}, TsOk c F H om ts → (∀ a (j : Nat) o, j < ts.length → om a = some (.inr j) → H a = some o → H' a = some o) → (∀ a (j : Nat), j < ts.length → om a = some (.inr j) → om' a = some (.inr j)) → TsOk c F' H' om' ts
  | [], _, _, _ => trivial
  | t :: ts, h, k, q => ⟨h.1.mono e (fun a o z => k a _ o (Nat.lt_succ_self _) z) fun a z => q a _ (Nat.lt_succ_self _) z, h.2.mono e (fun a j o l => k a j o (Nat.lt_succ_of_lt l)) fun a j l => q a j (Nat.lt_succ_of_lt l)⟩
theorem BagC.ne {b x a : Addr} {H : Hp} (h : BagC b x H) (e : H a = none) : a ≠ b ∧ a ≠ x := by
  obtain ⟨_, _, _, _, h1, h2, _⟩ := h
  exact ⟨(fun q => by rw [q, h1] at e; cases e), (fun q => by rw [q, h2] at e; cases e)⟩
theorem Fr.h0 (f : Fr c F H) {a : Addr} (h : H a = none) : c.H0 a = none := Classical.byContradiction fun q => f.al a q h
/-- a new shared thing -/
theorem Fr.newS (f : Fr c F H) {p : Addr} {o : HO} (hp : H p = none) : Fr c (upd F p o) (upd H p o) := by
  obtain ⟨x, b0, b1, nm⟩ := f.bg
  have fp : F p = none := f.fh.free hp
  have np := (BagC.ne b1 hp)
  refine ⟨⟨x, b0, b1.up (same_new hp), nm⟩, by rw [upd_ne np.1.symm]; exact f.fb, f.ff.trans (same_new fp), fun a u e => ?_, fun a h1 h2 => ?_, fun a u h1 h2 h3 => same_new hp _ _ (f.kp a u h1 h2 h3), fun a h1 => ?_, f.nm⟩
  · by_cases q : a = p
    · subst q; rw [upd_same] at e ⊢; exact e
    · rw [upd_ne q] at e ⊢; exact f.fh _ _ e
  · have q : a ≠ p := fun z => h2 (by rw [z]; exact f.h0 hp)
    rw [upd_ne q]; exact f.nw a h1 h2
  · have q : a ≠ p := fun z => h1 (by rw [z]; exact f.h0 hp)
    rw [upd_ne q]; exact f.al a h1
/-- a new own thing -/
theorem Fr.newO (f : Fr c F H) {p : Addr} {o : HO} (hp : H p = none) : Fr c F (upd H p o) := by
  obtain ⟨x, b0, b1, nm⟩ := f.bg
  refine ⟨⟨x, b0, b1.up (same_new hp), nm⟩, f.fb, f.ff, f.fh.trans (same_new hp), f.nw, fun a u h1 h2 h3 => same_new hp _ _ (f.kp a u h1 h2 h3), fun a h1 => ?_, f.nm⟩
  have q : a ≠ p := fun z => h1 (by rw [z]; exact f.h0 hp)
  rw [upd_ne q]; exact f.al a h1
/-- an own thing is changed -/
theorem Fr.mut (f : Fr c F H) {p : Addr} {o : HO} (ho : OmOk c F H om) {i : Sum Nat Nat} (hp : om p = some i) : Fr c F (upd H p o) := by
  obtain ⟨x, b0, b1, nm⟩ := f.bg
  have nb := ho.nb p i hp
  have nf := ho.nf p i hp
  have nx : x ≠ p := fun z => by
    rcases ho.mn p i hp with h | h
    · exact (BagC.ne b0 h).2 z.symm
    · exact nm (by rw [z]; exact h)
  refine ⟨⟨x, b0, ?_, nm⟩, f.fb, f.ff, fun a u e => by rw [upd_ne (ne_of_none e nf)]; exact f.fh _ _ e, f.nw, fun a u h1 h2 h3 => ?_, fun a h1 => ?_, f.nm⟩
  · obtain ⟨q1, q2, q3, cs, h1, h2, r⟩ := b1
    exact ⟨q1, q2, q3, cs, by rw [upd_ne nb.symm]; exact h1, by rw [upd_ne nx]; exact h2, r⟩
  · have q : a ≠ p := fun z => by
      rcases ho.mn p i hp with h | h
      · rw [z, h] at h1; cases h1
      · exact h3 (by rw [z]; exact h)
    rw [upd_ne q]; exact f.kp a u h1 h2 h3
  · by_cases q : a = p
    · rw [q, upd_same]; exact fun z => nomatch z
    · rw [upd_ne q]; exact f.al a h1
/-- the heap grows, nothing is known of the new -/
theorem Fr.grow (f : Fr c F H) (e : Same H H') : Fr c F H' := by
  obtain ⟨x, b0, b1, nm⟩ := f.bg
  exact ⟨⟨x, b0, b1.up e, nm⟩, f.fb, f.ff, f.fh.trans e, f.nw, fun a u h1 h2 h3 => e _ _ (f.kp a u h1 h2 h3), (fun a h1 => by
    cases q : H a with
    | none => exact absurd q (f.al a h1)
    | some o => rw [e _ _ q]; exact (fun z => nomatch z)), f.nm⟩
theorem Rel.grow (r : Rel c F H σ ρ ts) (e : Same H H') : Rel c F H' σ ρ ts := by
  obtain ⟨om, o, s, t⟩ := r.ex
  refine ⟨r.fr.grow e, r.len, om, ⟨o.nb, o.nf, fun a i h => ?_, o.mn⟩, fun i d h => (s i d h).mono (Same.refl _) (fun a u _ => e a u) fun a z => z, t.mono (Same.refl _) (fun a j u _ _ => e a u) fun a j _ z => z⟩
  cases q : H a with
  | none => exact absurd q (o.th a i h)
  | some u => rw [e _ _ q]; exact fun z => nomatch z
/-- something shared is at hand -/
theorem Rel.pushS (r : Rel c F H σ ρ ts) {v : V} {w : W} (h : Rep K c.b F v w) : Rel c F H σ ρ ((v, .sh w) :: ts) := by
  obtain ⟨om, o, s, t⟩ := r.ex
  exact ⟨r.fr, r.len, om, o, s, .sh h, t⟩
/-- a new shared thing -/
theorem Rel.newS (r : Rel c F H σ ρ ts) {p : Addr} {o : HO} (hp : H p = none) : Rel c (upd F p o) (upd H p o) σ ρ ts := by
  obtain ⟨om, k, s, t⟩ := r.ex
  have fp : F p = none := r.fr.fh.free hp
  have np : ∀ a i, om a = some i → a ≠ p := fun a i h z => k.th a i h (by rw [z]; exact hp)
  refine ⟨r.fr.newS hp, r.len, om, ⟨k.nb, fun a i h => by rw [upd_ne (np a i h)]; exact k.nf a i h, fun a i h => by rw [upd_ne (np a i h)]; exact k.th a i h, k.mn⟩, fun i d h => (s i d h).mono (same_new fp) (fun a u _ e => same_new hp _ _ e) fun a z => z, t.mono (same_new fp) (fun a j u _ _ e => same_new hp _ _ e) fun a j _ z => z⟩
/-- a new own thing is at hand -/
theorem Rel.newO (r : Rel c F H σ ρ ts) {p : Addr} {o : HO} {d : D} (hp : H p = none) (h : ∀ S : Addr → Prop, S p → ¬ c.M p → Ow c F (upd H p o) S (.ref p) d) : Rel c F (upd H p o) σ ρ ((.ref p, d) :: ts) := by
  obtain ⟨om, k, s, t⟩ := r.ex
  have np : ∀ a i, om a = some i → a ≠ p := fun a i h z => k.th a i h (by rw [z]; exact hp)
  have nb : p ≠ c.b := by obtain ⟨x, _, b1, _⟩ := r.fr.bg; exact (BagC.ne b1 hp).1
  refine ⟨r.fr.newO hp, r.len, fun a => if a = p then some (.inr ts.length) else om a, ⟨fun a i h => ?_, fun a i h => ?_, fun a i h => ?_, fun a i h => ?_⟩, fun i d h => (s i d h).mono (Same.refl _) (fun a u _ e => same_new hp _ _ e) fun a z => ?_, h _ (if_pos rfl) (r.fr.nm (r.fr.h0 hp)), t.mono (Same.refl _) (fun a j u _ _ e => same_new hp _ _ e) fun a j _ z => ?_⟩
  · by_cases q : a = p
    · rw [q]; exact nb
    · rw [if_neg q] at h; exact k.nb a i h
  · by_cases q : a = p
    · rw [q]; exact r.fr.fh.free hp
    · rw [if_neg q] at h; exact k.nf a i h
  · by_cases q : a = p
    · rw [q, upd_same]; exact fun z => nomatch z
    · rw [if_neg q] at h; rw [upd_ne q]; exact k.th a i h
  · by_cases q : a = p
    · rw [q]; exact .inl (r.fr.h0 hp)
    · rw [if_neg q] at h; exact k.mn a i h
  · show (if a = p then _ else _) = _
    rw [if_neg (np a _ z)]; exact z
  · show (if a = p then _ else _) = _
    rw [if_neg (np a _ z)]; exact z
/-- what is at hand is let go -/
theorem Rel.pop {t : V × D} (r : Rel c F H σ ρ (t :: ts)) : Rel c F H σ ρ ts := by
  obtain ⟨om, o, s, t⟩ := r.ex
  exact ⟨r.fr, r.len, om, o, s, t.2⟩
/-- .. the thing below it -/
theorem Rel.pop2 {t u : V × D} (r : Rel c F H σ ρ (t :: u :: ts)) : Rel c F H σ ρ (t :: ts) := by
  obtain ⟨om, o, s, ht, hu, hr⟩ := r.ex
  refine ⟨r.fr, r.len, fun a => if om a = some (.inr (ts.length + 1)) then some (.inr ts.length) else if om a = some (.inr ts.length) then none else om a, ⟨fun a i h => ?_, fun a i h => ?_, fun a i h => ?_, fun a i h => ?_⟩, fun i d h => (s i d h).mono (Same.refl _) (fun a u _ e => e) fun a z => ?_, ht.mono (Same.refl _) (fun a u _ e => e) fun a z => ?_, hr.mono (Same.refl _) (fun a j u _ _ e => e) fun a j l z => ?_⟩
  · try dsimp only at h
    split at h
    next q => exact o.nb a _ q
    next q => split at h
              next z => cases h
              next z => exact o.nb a i h
  · try dsimp only at h
    split at h
    next q => exact o.nf a _ q
    next q => split at h
              next z => cases h
              next z => exact o.nf a i h
  · try dsimp only at h
    split at h
    next q => exact o.th a _ q
    next q => split at h
              next z => cases h
              next z => exact o.th a i h
  · try dsimp only at h
    split at h
    next q => exact o.mn a _ q
    next q => split at h
              next z => cases h
              next z => exact o.mn a i h
  · try dsimp only
    rw [z, if_neg (fun q => nomatch q), if_neg (fun q => nomatch q)]
  · try dsimp only
    rw [show om a = some (.inr (ts.length + 1)) from z, if_pos rfl]
  · try dsimp only
    rw [z, if_neg (fun q => by cases q; omega), if_neg (fun q => by cases q; omega)]
theorem Rel.top {v : V} {d : D} (r : Rel c F H σ ρ ((v, d) :: ts)) : ∃ S : Addr → Prop, Ow c F H S v d := by
  obtain ⟨om, o, s, t⟩ := r.ex
  exact ⟨_, t.1⟩
theorem Rel.topS {v : V} {w : W} (r : Rel c F H σ ρ ((v, .sh w) :: ts)) : Rep K c.b F v w := by
  obtain ⟨S, h⟩ := r.top
  cases h with | sh h => exact h
theorem Fr.frz (f : Fr c F H) (ho : OmOk c F H om) {i : Sum Nat Nat} (e : Same F F') (k : ∀ a o, F' a = some o → F a = some o ∨ (om a = some i ∧ ¬ c.M a ∧ H a = some o)) : Fr c F' H := by
  refine ⟨f.bg, ?_, f.ff.trans e, fun a o q => ?_, fun a h1 h2 => ?_, f.kp, f.al, f.nm⟩
  · cases q : F' c.b with
    | none => rfl
    | some o =>
      rcases k _ _ q with z | z
      · rw [f.fb] at z; cases z
      · exact absurd rfl (ho.nb _ _ z.1)
  · rcases k _ _ q with z | z
    · exact f.fh _ _ z
    · exact z.2.2
  · cases q : F' a with
    | none => rfl
    | some o =>
      rcases k _ _ q with z | z
      · rw [f.nw a h1 h2] at z; cases z
      · rcases ho.mn a i z.1 with w | w
        · exact absurd w h2
        · exact absurd w z.2.1
/-- without the owner i -/
def Om.off (om : Om) (i : Sum Nat Nat) : Om := fun a => if om a = some i then none else om a
theorem Om.off_ne {i j : Sum Nat Nat} {a : Addr} (h : om a = some j) (n : j ≠ i) : om.off i a = some j := by
  unfold Om.off
  rw [h, if_neg (fun q => n (Option.some.inj q))]
theorem Om.of_off {i j : Sum Nat Nat} {a : Addr} (h : om.off i a = some j) : om a = some j ∧ j ≠ i := by
  unfold Om.off at h
  split at h
  next => cases h
  next q => exact ⟨h, fun z => q (by rw [h, z])⟩
theorem OmOk.frz (ho : OmOk c F H om) {i : Sum Nat Nat} (k : ∀ a o, F' a = some o → F a = some o ∨ (om a = some i ∧ ¬ c.M a ∧ H a = some o)) : OmOk c F' H (om.off i) := by
  refine ⟨fun a j h => ho.nb a j (Om.of_off h).1, fun a j h => ?_, fun a j h => ho.th a j (Om.of_off h).1, fun a j h => ho.mn a j (Om.of_off h).1⟩
  obtain ⟨h1, h2⟩ := Om.of_off h
  cases q : F' a with
  | none => rfl
  | some o =>
    rcases k _ _ q with z | z
    · rw [ho.nf a j h1] at z; cases z
    · rw [h1] at z; exact absurd (Option.some.inj z.1) h2
/-- what is at hand is shared from now on -/
theorem Rel.frzT {v : V} {d : D} {w : W} (r : Rel c F H σ ρ ((v, d) :: ts)) (hw : d.fz = some w) : ∃ F', Same F F' ∧ Rel c F' H σ ρ ((v, .sh w) :: ts) := by
  obtain ⟨om, o, s, t⟩ := r.ex
  obtain ⟨F', e, k, q⟩ := t.1.frz hw fun a h => o.nf a _ h
  exact ⟨F', e, r.fr.frz o e k, r.len, om.off (.inr ts.length), o.frz k, fun i d h => (s i d h).mono e (fun a u _ z => z) (fun a z => Om.off_ne z (fun y => nomatch y)), .sh q, t.2.mono e (fun a j u _ _ z => z) fun a j l z => Om.off_ne z fun y => by cases y; omega⟩
/-- what a name holds is shared from now on -/
theorem Rel.frzS {i : Nat} {d : D} {w : W} (r : Rel c F H σ ρ ts) (hi : ρ[i]? = some d) (hw : d.fz = some w) : ∃ F' v, Same F F' ∧ σ[i]? = some (some v) ∧ Rep K c.b F' v w ∧ Rel c F' H σ (ρ.set i (.sh w)) ts := by
  obtain ⟨om, o, s, t⟩ := r.ex
  rcases s i d hi with h | ⟨v, h1, h2⟩
  · rw [h] at hw; cases hw
  obtain ⟨F', e, k, q⟩ := h2.frz hw fun a h => o.nf a _ h
  refine ⟨F', v, e, h1, q, r.fr.frz o e k, by rw [List.length_set]; exact r.len, om.off (.inl i), o.frz k, fun j d h => ?_, t.mono e (fun a j u _ _ z => z) fun a j l z => Om.off_ne z fun y => nomatch y⟩
  by_cases hj : i = j
  · subst hj
    rw [List.getElem?_set_self (List.getElem?_eq_some_iff.mp hi).1] at h
    cases h
    exact .inr ⟨v, h1, .sh q⟩
  · rw [List.getElem?_set_ne hj] at h
    exact (s j d h).mono e (fun a u _ z => z) (fun a z => Om.off_ne z (fun y => hj (by cases y; rfl)))
/-- what is at hand is given to a name -/
theorem Rel.store {v : V} {d : D} (r : Rel c F H σ ρ ((v, d) :: ts)) (i : Nat) : Rel c F H (σ.set i (some v)) (ρ.set i d) ts := by
  obtain ⟨om, o, s, t⟩ := r.ex
  refine ⟨r.fr, by rw [List.length_set, List.length_set]; exact r.len, fun a => if om a = some (.inr ts.length) then some (.inl i) else om.off (.inl i) a, ⟨fun a j h => ?_, fun a j h => ?_, fun a j h => ?_, fun a j h => ?_⟩, fun j d' h => ?_, t.2.mono (Same.refl _) (fun a j u _ _ z => z) fun a j l z => ?_⟩
  · try dsimp only at h
    split at h
    next q => exact o.nb a _ q
    next q => exact o.nb a _ (Om.of_off h).1
  · try dsimp only at h
    split at h
    next q => exact o.nf a _ q
    next q => exact o.nf a _ (Om.of_off h).1
  · try dsimp only at h
    split at h
    next q => exact o.th a _ q
    next q => exact o.th a _ (Om.of_off h).1
  · try dsimp only at h
    split at h
    next q => exact o.mn a _ q
    next q => exact o.mn a _ (Om.of_off h).1
  · by_cases hj : i = j
    · subst hj
      have hi : i < ρ.length := by
        have := (List.getElem?_eq_some_iff.mp h).1
        rwa [List.length_set] at this
      rw [List.getElem?_set_self hi] at h
      cases h
      refine .inr ⟨v, List.getElem?_set_self (by rw [r.len]; exact hi), t.1.mono (Same.refl _) (fun a u _ z => z) fun a z => ?_⟩
      try dsimp only at z ⊢
      rw [if_pos z]
    · rw [List.getElem?_set_ne hj] at h ⊢
      refine (s j d' h).mono (Same.refl _) (fun a u _ z => z) fun a z => ?_
      try dsimp only
      rw [if_neg (by rw [z]; exact fun q => nomatch q)]
      exact Om.off_ne z (fun y => hj (by cases y; rfl))
  · try dsimp only
    rw [if_neg (by rw [z]; exact fun q => by cases q; omega)]
    exact Om.off_ne z fun y => nomatch y
/-- nothing is known of a name any more -/
theorem Rel.forget (r : Rel c F H σ ρ ts) (i : Nat) (o : Option V) : Rel c F H (σ.set i o) (ρ.set i .un) ts := by
  obtain ⟨om, k, s, t⟩ := r.ex
  refine ⟨r.fr, by rw [List.length_set, List.length_set]; exact r.len, om, k, fun j d h => ?_, t⟩
  by_cases hj : i = j
  · subst hj
    have hi : i < ρ.length := by
      have := (List.getElem?_eq_some_iff.mp h).1
      rwa [List.length_set] at this
    rw [List.getElem?_set_self hi] at h
    cases h
    exact .inl rfl
  · rw [List.getElem?_set_ne hj] at h ⊢
    exact s j d h
/-- what a name holds is taken from it -/
theorem Rel.take {i : Nat} {d : D} (r : Rel c F H σ ρ ts) (hi : ρ[i]? = some d) (hd : d ≠ .un) : ∃ v, σ[i]? = some (some v) ∧ Rel c F H σ (ρ.set i .un) ((v, d) :: ts) := by
  obtain ⟨om, o, s, t⟩ := r.ex
  rcases s i d hi with h | ⟨v, h1, h2⟩
  · exact absurd h hd
  refine ⟨v, h1, r.fr, by rw [List.length_set]; exact r.len, fun a => if om a = some (.inl i) then some (.inr ts.length) else om.off (.inr ts.length) a, ⟨fun a j h => ?_, fun a j h => ?_, fun a j h => ?_, fun a j h => ?_⟩, fun j d' h => ?_, h2.mono (Same.refl _) (fun a u _ z => z) (fun a z => ?_), t.mono (Same.refl _) (fun a j u _ _ z => z) fun a j l z => ?_⟩
  · try dsimp only at h
    split at h
    next q => exact o.nb a _ q
    next q => exact o.nb a _ (Om.of_off h).1
  · try dsimp only at h
    split at h
    next q => exact o.nf a _ q
    next q => exact o.nf a _ (Om.of_off h).1
  · try dsimp only at h
    split at h
    next q => exact o.th a _ q
    next q => exact o.th a _ (Om.of_off h).1
  · try dsimp only at h
    split at h
    next q => exact o.mn a _ q
    next q => exact o.mn a _ (Om.of_off h).1
  · by_cases hj : i = j
    · subst hj
      have hi : i < ρ.length := by
        have := (List.getElem?_eq_some_iff.mp h).1
        rwa [List.length_set] at this
      rw [List.getElem?_set_self hi] at h
      cases h
      exact .inl rfl
    · rw [List.getElem?_set_ne hj] at h
      refine (s j d' h).mono (Same.refl _) (fun a u _ z => z) fun a z => ?_
      try dsimp only
      rw [if_neg (by rw [z]; exact fun q => hj (by cases q; rfl))]
      exact Om.off_ne z fun y => nomatch y
  · try dsimp only at z ⊢
    rw [if_pos z]
  · try dsimp only
    rw [if_neg (by rw [z]; exact fun q => nomatch q)]
    exact Om.off_ne z fun y => by cases y; omega
/-- an own thing that is at hand is changed -/
theorem Rel.mutT {v : V} {d d' : D} {p : Addr} {o : HO} (r : Rel c F H σ ρ ((v, d) :: ts)) (h : ∀ S : Addr → Prop, Ow c F H S v d → S p ∧ Ow c F (upd H p o) S v d') : Rel c F (upd H p o) σ ρ ((v, d') :: ts) := by
  obtain ⟨om, k, s, t⟩ := r.ex
  obtain ⟨h1, h2⟩ := h _ t.1
  refine ⟨r.fr.mut k h1, r.len, om, ⟨k.nb, k.nf, fun a i z => ?_, k.mn⟩, fun i d z => (s i d z).mono (Same.refl _) (fun a u q e => ?_) (fun a z => z), h2, t.2.mono (Same.refl _) (fun a j u l q e => ?_) fun a j _ z => z⟩
  · by_cases q : a = p
    · rw [q, upd_same]; exact fun z => nomatch z
    · rw [upd_ne q]; exact k.th a i z
  · rw [upd_ne (fun y => by rw [y, h1] at q; cases q)]; exact e
  · rw [upd_ne (fun y => by rw [y, h1] at q; cases q; omega)]; exact e
/-- an own thing of a name is changed -/
theorem Rel.mutS {v : V} {d d' : D} {i : Nat} {p : Addr} {o : HO} (r : Rel c F H σ ρ ts) (hi : ρ[i]? = some d) (hd : d ≠ .un) (hv : σ[i]? = some (some v)) (h : ∀ S : Addr → Prop, Ow c F H S v d → S p ∧ Ow c F (upd H p o) S v d') : Rel c F (upd H p o) σ (ρ.set i d') ts := by
  obtain ⟨om, k, s, t⟩ := r.ex
  rcases s i d hi with h0 | ⟨v', h1, h2⟩
  · exact absurd h0 hd
  rw [hv] at h1
  cases h1
  obtain ⟨h3, h4⟩ := h _ h2
  refine ⟨r.fr.mut k h3, by rw [List.length_set]; exact r.len, om, ⟨k.nb, k.nf, fun a i z => ?_, k.mn⟩, fun j d2 z => ?_, t.mono (Same.refl _) (fun a j u l q e => ?_) fun a j _ z => z⟩
  · by_cases q : a = p
    · rw [q, upd_same]; exact fun z => nomatch z
    · rw [upd_ne q]; exact k.th a i z
  · by_cases hj : i = j
    · subst hj
      rw [List.getElem?_set_self (List.getElem?_eq_some_iff.mp hi).1] at z
      cases z
      exact .inr ⟨v, hv, h4⟩
    · rw [List.getElem?_set_ne hj] at z
      exact (s j d2 z).mono (Same.refl _) (fun a u q e => by rw [upd_ne (fun y => by rw [y, h3] at q; cases q; exact hj rfl)]; exact e) (fun a z => z)
  · rw [upd_ne (fun y => by rw [y, h3] at q; cases q)]; exact e
/-- what a name holds -/
theorem Rel.slot {i : Nat} {d : D} (r : Rel c F H σ ρ ts) (hi : ρ[i]? = some d) (hd : d ≠ .un) : ∃ v S, σ[i]? = some (some v) ∧ Ow c F H S v d := by
  obtain ⟨om, o, s, t⟩ := r.ex
  rcases s i d hi with h | ⟨v, h1, h2⟩
  · exact absurd h hd
  · exact ⟨v, _, h1, h2⟩
theorem Rel.slotS {i : Nat} {w : W} (r : Rel c F H σ ρ ts) (hi : ρ[i]? = some (.sh w)) : ∃ v, σ[i]? = some (some v) ∧ Rep K c.b F v w := by
  obtain ⟨v, S, h1, h2⟩ := r.slot hi (fun z => nomatch z)
  cases h2 with | sh h => exact ⟨v, h1, h⟩
end
end R

/-! ## R2: readings of expressions without a heap -/
namespace R
open PySem PySem.Spec PyProof.Rows L2 G
/-- a thing that is looked at: a name's, or one at hand -/
abbrev PV := Sum Nat W
abbrev KQ := List D → D → Prop
abbrev TQ := List D → KQ → Prop
abbrev TVQ := List D → (List D → PV → Prop) → Prop
abbrev TTQ := List D → (List D → Bool → Prop) → Prop
abbrev TAQ := List D → (List D → List W → Prop) → Prop
abbrev TVAQ := List D → (List D → List PV → Prop) → Prop
abbrev TOQ := List D → (List D → Option Int → Prop) → Prop
def lookD (d : D) (k : W → Prop) : Prop := match d.fz with
  | some w => k w
  | none => False
def look (ρ : List D) (p : PV) (k : W → Prop) : Prop := match p with
  | .inr w => k w
  | .inl i => match ρ[i]? with
    | some d => lookD d k
    | none => False
def lookL (ρ : List D) : List PV → (List W → Prop) → Prop
  | [], k => k []
  | p :: ps, k => look ρ p fun w => lookL ρ ps fun ws => k (w :: ws)
theorem lookD_ex {d : D} {k : W → Prop} (h : lookD d k) : ∃ w, d.fz = some w ∧ k w := by
  unfold lookD at h
  split at h
  next w e => exact ⟨w, e, h⟩
  next => exact h.elim
/-- how it may be seen now -/
def Vw {K : PySem.W.Frag} (c : Cx K) (F H : Hp) (v : V) (w : W) : Prop := ∃ S d, Ow c F H S v d ∧ d.fz = some w
def VwL {K : PySem.W.Frag} (c : Cx K) (F H : Hp) : List V → List W → Prop
  | [], [] => True
  | v :: vs, w :: ws => Vw c F H v w ∧ VwL c F H vs ws
  | _, _ => False
/-- where it is -/
inductive PvOk (σ : L2.St) (ts : List (V × D)) : V → PV → List (V × D) → Prop
  | slot {i v} : σ[i]? = some (some v) → PvOk σ ts v (.inl i) ts
  | val {v w} : PvOk σ ts v (.inr w) ((v, .sh w) :: ts)
inductive PvsOk (σ : L2.St) : List (V × D) → List V → List PV → List (V × D) → Prop
  | nil {ts} : PvsOk σ ts [] [] ts
  | cons {ts v p ts1 vs ps ts2} : PvOk σ ts v p ts1 → PvsOk σ ts1 vs ps ts2 → PvsOk σ ts (v :: vs) (p :: ps) ts2
section
variable {K : PySem.W.Frag} {c : Cx K} {F H F' H' : Hp} {σ : L2.St} {ρ : List D} {ts ts' : List (V × D)}
theorem Vw.of {v : V} {w : W} (h : Rep K c.b F v w) : Vw c F H v w := ⟨fun _ => True, .sh w, .sh h, rfl⟩
theorem Vw.flat {v x : V} (h : Vw c F H v (.v x)) : v = x := by
  obtain ⟨S, d, o, e⟩ := h
  cases o with
  | sh r => cases e; exact r.flat
  | _ => cases e
theorem Vw.lst {v : V} {ws : List W} (h : Vw c F H v (.lst ws)) (e : Same F H) : ∃ a us, v = .ref a ∧ H a = some (.lst us) ∧ RepL K c.b F us ws := by
  obtain ⟨S, d, o, q⟩ := h
  cases o with
  | sh r => cases q; cases r with | lst a r => exact ⟨_, _, rfl, e _ _ a, r⟩
  | lst s m h r => cases q; exact ⟨_, _, rfl, h, r⟩
  | _ => cases q
theorem Vw.tup {v : V} {ws : List W} (h : Vw c F H v (.tup ws)) (e : Same F H) : ∃ a us, v = .ref a ∧ F a = some (.tup us) ∧ H a = some (.tup us) ∧ RepL K c.b F us ws := by
  obtain ⟨S, d, o, q⟩ := h
  cases o with
  | sh r => cases q; cases r with | tup a r => exact ⟨_, _, rfl, a, e _ _ a, r⟩
  | _ => cases q
theorem Vw.dic {v : V} {ks : List Key} {ws : List W} (h : Vw c F H v (.dic ks ws)) (e : Same F H) : ∃ a us, v = .ref a ∧ H a = some (.dK (ks.zip us)) ∧ us.length = ks.length ∧ RepL K c.b F us ws := by
  obtain ⟨S, d, o, q⟩ := h
  cases o with
  | sh r => cases q; cases r with | dic a l r => exact ⟨_, _, rfl, e _ _ a, l, r⟩
  | dic s m h l r => cases q; exact ⟨_, _, rfl, h, l, r⟩
  | _ => cases q
theorem Vw.dit {v : V} {ks : List (List Key)} {ws : List W} (h : Vw c F H v (.dit ks ws)) (e : Same F H) : ∃ a us, v = .ref a ∧ H a = some (.dT (ks.zip us)) ∧ us.length = ks.length ∧ RepL K c.b F us ws := by
  obtain ⟨S, d, o, q⟩ := h
  cases o with
  | sh r => cases q; cases r with | dit a l r => exact ⟨_, _, rfl, e _ _ a, l, r⟩
  | dit s m h l r => cases q; exact ⟨_, _, rfl, h, l, r⟩
  | _ => cases q
theorem Vw.obj {v : V} {C : Addr} {fs : List Str} {ws : List W} (h : Vw c F H v (.obj C fs ws)) (e : Same F H) : ∃ a dx us, v = .ref a ∧ H a = some (.ins C dx (fs.zip us)) ∧ us.length = fs.length ∧ RepL K c.b F us ws := by
  obtain ⟨S, d, o, q⟩ := h
  cases o with
  | sh r => cases q; cases r with | obj a l r => exact ⟨_, _, _, rfl, e _ _ a, l, r⟩
  | obj s m h l r => cases q; exact ⟨_, _, _, rfl, h, l, r⟩
  | _ => cases q
theorem Vw.set {v : V} {T : Int → Bool} {n : Nat} (h : Vw c F H v (.set T n)) (e : Same F H) : ∃ a, v = .ref a ∧ H a = some (.set T n) := by
  obtain ⟨S, d, o, q⟩ := h
  cases o with
  | sh r => cases q; cases r with | set a => exact ⟨_, rfl, e _ _ a⟩
  | set s m h => cases q; exact ⟨_, rfl, h⟩
  | _ => cases q
theorem TsOk.mem {om : Om} : ∀ {ts : List (V × D)}, TsOk c F H om ts → ∀ {v w}, (v, D.sh w) ∈ ts → Rep K c.b F v w
  | t :: ts, h, v, w, m => by
    rcases List.mem_cons.mp m with e | m
    · have h1 := h.1
      rw [← e] at h1
      cases h1 with | sh r => exact r
    · exact h.2.mem m
theorem Rel.mem (r : Rel c F H σ ρ ts) {v : V} {w : W} (m : (v, D.sh w) ∈ ts) : Rep K c.b F v w := by
  obtain ⟨om, o, s, t⟩ := r.ex
  exact t.mem m
/-- what is looked at, when it is looked at -/
def Has1 (σ : L2.St) (ts : List (V × D)) (v : V) : PV → Prop
  | .inl i => σ[i]? = some (some v)
  | .inr w => (v, D.sh w) ∈ ts
theorem PvOk.has {v : V} {p : PV} (h : PvOk σ ts v p ts') : Has1 σ ts' v p ∧ ∀ t ∈ ts, t ∈ ts' := by
  cases h with
  | slot e => exact ⟨e, fun t h => h⟩
  | val => exact ⟨List.mem_cons_self, fun t h => List.mem_cons_of_mem _ h⟩
theorem Has1.up {v : V} {p : PV} (h : Has1 σ ts v p) (k : ∀ t ∈ ts, t ∈ ts') : Has1 σ ts' v p := by
  cases p with
  | inl i => exact h
  | inr w => exact k _ h
theorem Rel.see (r : Rel c F H σ ρ ts) {v : V} {p : PV} {k : W → Prop} (h : Has1 σ ts v p) (q : look ρ p k) : ∃ w, Vw c F H v w ∧ k w := by
  cases p with
  | inr w => exact ⟨w, .of (r.mem h), q⟩
  | inl i =>
    unfold look at q
    dsimp only at q
    split at q
    next d e =>
      obtain ⟨w, hw, q⟩ := lookD_ex q
      obtain ⟨v', S, h1, h2⟩ := r.slot e (fun z => by rw [z] at hw; cases hw)
      rw [show σ[i]? = some (some v) from h] at h1
      cases h1
      exact ⟨w, ⟨S, d, h2, hw⟩, q⟩
    next => exact q.elim
theorem PvsOk.sub {vs : List V} {ps : List PV} (h : PvsOk σ ts vs ps ts') : ∀ t ∈ ts, t ∈ ts' := by
  induction h with
  | nil => exact fun t h => h
  | cons a _ ih => exact fun t h => ih t (a.has.2 t h)
theorem Rel.seeL (r : Rel c F H σ ρ ts') : ∀ {ts : List (V × D)} {vs : List V} {ps : List PV} {k : List W → Prop}, PvsOk σ ts vs ps ts' → lookL ρ ps k → ∃ ws, VwL c F H vs ws ∧ k ws
  | _, _, _, k, .nil, q => ⟨[], trivial, q⟩
  | _, _, _, k, .cons a b, q => by
    obtain ⟨w, h1, q⟩ := r.see (a.has.1.up b.sub) q
    obtain ⟨ws, h2, q⟩ := r.seeL b q
    exact ⟨w :: ws, ⟨h1, h2⟩, q⟩
theorem PvOk.back {v : V} {p : PV} {x : V × D} (h : PvOk σ ts v p ts') (r : Rel c F H σ ρ (x :: ts')) : Rel c F H σ ρ (x :: ts) := by
  cases h with
  | slot e => exact r
  | val => exact r.pop2
theorem PvOk.back0 {v : V} {p : PV} (h : PvOk σ ts v p ts') (r : Rel c F H σ ρ ts') : Rel c F H σ ρ ts := by
  cases h with
  | slot e => exact r
  | val => exact r.pop
theorem PvsOk.back {vs : List V} {ps : List PV} {x : V × D} (h : PvsOk σ ts vs ps ts') : Rel c F H σ ρ (x :: ts') → Rel c F H σ ρ (x :: ts) := by
  induction h with
  | nil => exact fun r => r
  | cons a _ ih => exact fun r => a.back (ih r)
theorem PvsOk.back0 {vs : List V} {ps : List PV} (h : PvsOk σ ts vs ps ts') : Rel c F H σ ρ ts' → Rel c F H σ ρ ts := by
  induction h with
  | nil => exact fun r => r
  | cons a _ ih => exact fun r => a.back0 (ih r)
end
/-! ### the classes -/
abbrev ContE {K : PySem.W.Frag} (c : Cx K) (σ : L2.St) (ts : List (V × D)) (Qp : KQ) (Q : VK) : Prop := ∀ v d ρ' F' H', Rel c F' H' σ ρ' ((v, d) :: ts) → Qp ρ' d → Q v H'
class SE {K : PySem.W.Frag} (c : Cx K) (t : TE) (τ : outParam TQ) : Prop where
  sim : ∀ {F H : Hp} {σ : L2.St} {ρ : List D} {ts : List (V × D)} {Q : VK} {Qp : KQ}, Rel c F H σ ρ ts → τ ρ Qp → ContE c σ ts Qp Q → t σ H Q
class SV {K : PySem.W.Frag} (c : Cx K) (t : TE) (τ : outParam TVQ) : Prop where
  sim : ∀ {F H : Hp} {σ : L2.St} {ρ : List D} {ts : List (V × D)} {Q : VK} {Qp : List D → PV → Prop}, Rel c F H σ ρ ts → τ ρ Qp → (∀ v p ρ' F' H' ts', PvOk σ ts v p ts' → Rel c F' H' σ ρ' ts' → Qp ρ' p → Q v H') → t σ H Q
class SVA {K : PySem.W.Frag} (c : Cx K) (t : TA) (τ : outParam TVAQ) : Prop where
  sim : ∀ {F H : Hp} {σ : L2.St} {ρ : List D} {ts : List (V × D)} {Q : List V → Hp → Prop} {Qp : List D → List PV → Prop}, Rel c F H σ ρ ts → τ ρ Qp → (∀ vs ps ρ' F' H' ts', PvsOk σ ts vs ps ts' → Rel c F' H' σ ρ' ts' → Qp ρ' ps → Q vs H') → t σ H Q
class SA {K : PySem.W.Frag} (c : Cx K) (t : TA) (n : outParam Nat) (τ : outParam TAQ) : Prop where
  sim : ∀ {F H : Hp} {σ : L2.St} {ρ : List D} {ts : List (V × D)} {Q : List V → Hp → Prop} {Qp : List D → List W → Prop}, Rel c F H σ ρ ts → τ ρ Qp → (∀ vs ws ρ' F' H', vs.length = n → Rel c F' H' σ ρ' ts → RepL K c.b F' vs ws → Qp ρ' ws → Q vs H') → t σ H Q
class SmN (k n : Nat) : Prop where
  le : n ≤ k
instance {k : Nat} : SmN k 0 := ⟨Nat.zero_le _⟩
instance {k n : Nat} [h : SmN k n] : SmN (k + 1) (n + 1) := ⟨Nat.succ_le_succ h.le⟩
class ST {K : PySem.W.Frag} (c : Cx K) (t : TT) (τ : outParam TTQ) : Prop where
  sim : ∀ {F H : Hp} {σ : L2.St} {ρ : List D} {ts : List (V × D)} {Q : Bool → Hp → Prop} {Qp : List D → Bool → Prop}, Rel c F H σ ρ ts → τ ρ Qp → (∀ k ρ' F' H', Rel c F' H' σ ρ' ts → Qp ρ' k → Q k H') → t σ H Q
class SO {K : PySem.W.Frag} (c : Cx K) (t : TO) (τ : outParam TOQ) : Prop where
  sim : ∀ {F H : Hp} {σ : L2.St} {ρ : List D} {ts : List (V × D)} {Q : Option Int → Hp → Prop} {Qp : List D → Option Int → Prop}, Rel c F H σ ρ ts → τ ρ Qp → (∀ k ρ' F' H', Rel c F' H' σ ρ' ts → Qp ρ' k → Q k H') → t σ H Q
abbrev ContD {K : PySem.W.Frag} (c : Cx K) (σ : L2.St) (ρ : List D) (ts : List (V × D)) (Qp : D → Prop) (Q : VK) : Prop := ∀ v d F' H', Rel c F' H' σ ρ ((v, d) :: ts) → Qp d → Q v H'
class SOp {K : PySem.W.Frag} (c : Cx K) (r : R2) (ω : outParam (W → W → (D → Prop) → Prop)) : Prop where
  sim : ∀ {F H : Hp} {σ : L2.St} {ρ : List D} {ts : List (V × D)} {x y : V} {w u : W} {Q : VK} {Qp : D → Prop}, Rel c F H σ ρ ts → Vw c F H x w → Vw c F H y u → ω w u Qp → ContD c σ ρ ts Qp Q → r x y H Q
class SUn {K : PySem.W.Frag} (c : Cx K) (r : V → Hp → VK → Prop) (ω : outParam (W → (D → Prop) → Prop)) : Prop where
  sim : ∀ {F H : Hp} {σ : L2.St} {ρ : List D} {ts : List (V × D)} {x : V} {w : W} {Q : VK} {Qp : D → Prop}, Rel c F H σ ρ ts → Vw c F H x w → ω w Qp → ContD c σ ρ ts Qp Q → r x H Q
class SC {K : PySem.W.Frag} (c : Cx K) (r : List V → Hp → VK → Prop) (ω : outParam (List W → (D → Prop) → Prop)) : Prop where
  sim : ∀ {F H : Hp} {σ : L2.St} {ρ : List D} {ts : List (V × D)} {xs : List V} {ws : List W} {Q : VK} {Qp : D → Prop}, Rel c F H σ ρ ts → VwL c F H xs ws → ω ws Qp → ContD c σ ρ ts Qp Q → r xs H Q
section
variable {K : PySem.W.Frag} {c : Cx K}
/-! ### names, constants -/
def qVar (i : Nat) : TQ := fun ρ Q => match ρ[i]? with
  | some (.sh w) => Q ρ (.sh w)
  | some d => lookD d fun w => Q (ρ.set i (.sh w)) (.sh w)
  | none => False
instance {i : Nat} : SE c (tVar i) (qVar i) where
  sim {F H σ ρ ts Q Qp} r h k := by
    unfold qVar at h
    split at h
    next w e =>
      obtain ⟨v, h1, h2⟩ := r.slotS e
      exact ⟨v, h1, k _ _ _ _ _ (r.pushS h2) h⟩
    next d _ e =>
      obtain ⟨w, hw, h⟩ := lookD_ex h
      obtain ⟨F', v, e1, h1, h2, r2⟩ := r.frzS e hw
      exact ⟨v, h1, k _ _ _ _ _ (r2.pushS h2) h⟩
    next => exact h.elim
def vVar (i : Nat) : TVQ := fun ρ Q => match ρ[i]? with
  | some .un => False
  | some _ => Q ρ (.inl i)
  | none => False
instance (priority := 2000) {i : Nat} : SV c (tVar i) (vVar i) where
  sim {F H σ ρ ts Q Qp} r h k := by
    unfold vVar at h
    split at h
    next => exact h.elim
    next d n e =>
      obtain ⟨v, S, h1, h2⟩ := r.slot e (fun z => n z)
      exact ⟨v, h1, k _ _ _ _ _ _ (.slot h1) r h⟩
    next => exact h.elim
def qC (v : V) : TQ := fun ρ Q => Q ρ (.sh (.v v))
instance {v : V} : SE c (tC v) (qC v) where
  sim {F H σ ρ ts Q Qp} r h k := k _ _ _ _ _ (r.pushS (.v v)) h
def vE (τ : TQ) : TVQ := fun ρ Q => τ ρ fun ρ' d => lookD d fun w => Q ρ' (.inr w)
instance (priority := 100) {t : TE} {τ : TQ} [SE c t τ] : SV c t (vE τ) where
  sim {F H σ ρ ts Q Qp} r h k := SE.sim (t := t) r h fun v d ρ' F' H' r' q => by
    obtain ⟨w, hw, q⟩ := lookD_ex q
    obtain ⟨F2, e, r2⟩ := r'.frzT hw
    exact k _ _ _ _ _ _ .val r2 q
/-- an expression whose value is shared -/
theorem SE.simW {t : TE} {τ : TQ} [SE c t τ] {F H : Hp} {σ : L2.St} {ρ : List D} {ts : List (V × D)} {Q : VK} {Qp : List D → W → Prop} (r : Rel c F H σ ρ ts) (h : τ ρ fun ρ' d => lookD d fun w => Qp ρ' w)
    (k : ∀ v w ρ' F' H', Rel c F' H' σ ρ' ((v, .sh w) :: ts) → Qp ρ' w → Q v H') : t σ H Q :=
  SE.sim (t := t) r h fun v d ρ' F' H' r' q => by
    obtain ⟨w, hw, q⟩ := lookD_ex q
    obtain ⟨F2, e, r2⟩ := r'.frzT hw
    exact k _ _ _ _ _ r2 q
/-! ### operators -/
def qOp (ω : W → W → (D → Prop) → Prop) (ta tb : TVQ) : TQ := fun ρ Q => ta ρ fun ρ1 p => tb ρ1 fun ρ2 q => look ρ2 p fun x => look ρ2 q fun y => ω x y fun d => Q ρ2 d
instance {r : R2} {ω : W → W → (D → Prop) → Prop} {ta tb : TE} {τa τb : TVQ} [SV c ta τa] [SV c tb τb] [SOp c r ω] : SE c (tOp r ta tb) (qOp ω τa τb) where
  sim {F H σ ρ ts Q Qp} rl h k := SV.sim (t := ta) rl h fun v p ρ1 F1 H1 ts1 p1 r1 q1 => SV.sim (t := tb) r1 q1 fun u q ρ2 F2 H2 ts2 p2 r2 q2 => by
    obtain ⟨w, h1, q3⟩ := r2.see (p1.has.1.up p2.has.2) q2
    obtain ⟨w', h2, q4⟩ := r2.see p2.has.1 q3
    exact SOp.sim (r := r) r2 h1 h2 q4 fun v d F' H' r' q => k _ _ _ _ _ (p1.back (p2.back r')) q
def qUn (ω : W → (D → Prop) → Prop) (ta : TVQ) : TQ := fun ρ Q => ta ρ fun ρ1 p => look ρ1 p fun x => ω x fun d => Q ρ1 d
instance {r : V → Hp → VK → Prop} {ω : W → (D → Prop) → Prop} {ta : TE} {τa : TVQ} [SV c ta τa] [SUn c r ω] : SE c (tUn r ta) (qUn ω τa) where
  sim {F H σ ρ ts Q Qp} rl h k := SV.sim (t := ta) rl h fun v p ρ1 F1 H1 ts1 p1 r1 q1 => by
    obtain ⟨w, h1, q3⟩ := r1.see p1.has.1 q1
    exact SUn.sim (r := r) r1 h1 q3 fun v d F' H' r' q => k _ _ _ _ _ (p1.back r') q
/-! ### arguments -/
def vNil : TVAQ := fun ρ Q => Q ρ []
def vCons (a : TVQ) (t : TVAQ) : TVAQ := fun ρ Q => a ρ fun ρ1 p => t ρ1 fun ρ2 ps => Q ρ2 (p :: ps)
instance : SVA c tNil vNil where
  sim {F H σ ρ ts Q Qp} rl h k := k _ _ _ _ _ _ .nil rl h
instance {ta : TE} {t : TA} {τa : TVQ} {τ : TVAQ} [SV c ta τa] [SVA c t τ] : SVA c (tCons ta t) (vCons τa τ) where
  sim {F H σ ρ ts Q Qp} rl h k := SV.sim (t := ta) rl h fun v p ρ1 F1 H1 ts1 p1 r1 q1 => SVA.sim (t := t) r1 q1 fun vs ps ρ2 F2 H2 ts2 p2 r2 q2 => k _ _ _ _ _ _ (.cons p1 p2) r2 q2
def qCB (ω : List W → (D → Prop) → Prop) (t : TVAQ) : TQ := fun ρ Q => t ρ fun ρ1 ps => lookL ρ1 ps fun ws => ω ws fun d => Q ρ1 d
instance {r : List V → Hp → VK → Prop} {ω : List W → (D → Prop) → Prop} {t : TA} {τ : TVAQ} [SVA c t τ] [SC c r ω] : SE c (tCB r t) (qCB ω τ) where
  sim {F H σ ρ ts Q Qp} rl h k := SVA.sim (t := t) rl h fun vs ps ρ1 F1 H1 ts1 p1 r1 q1 => by
    obtain ⟨ws, h1, q3⟩ := r1.seeL p1 q1
    exact SC.sim (r := r) r1 h1 q3 fun v d F' H' r' q => k _ _ _ _ _ (p1.back r') q
def aNil : TAQ := fun ρ Q => Q ρ []
def aCons (a : TQ) (t : TAQ) : TAQ := fun ρ Q => a ρ fun ρ1 d => lookD d fun w => t ρ1 fun ρ2 ws => Q ρ2 (w :: ws)
instance : SA c tNil 0 aNil where
  sim {F H σ ρ ts Q Qp} rl h k := k _ _ _ _ _ rfl rl .nil h
instance {ta : TE} {t : TA} {n : Nat} {τa : TQ} {τ : TAQ} [SE c ta τa] [SA c t n τ] : SA c (tCons ta t) (n + 1) (aCons τa τ) where
  sim {F H σ ρ ts Q Qp} rl h k := SE.simW (t := ta) rl h fun v w ρ1 F1 H1 r1 q1 => SA.sim (t := t) r1 q1 fun vs ws ρ2 F2 H2 hl r2 rs q2 => k _ _ _ _ _ (by rw [List.length_cons, hl]) r2.pop (.cons r2.topS rs) q2
def qTup (t : TAQ) : TQ := fun ρ Q => t ρ fun ρ1 ws => Q ρ1 (.sh (.tup ws))
def qLst (t : TAQ) : TQ := fun ρ Q => t ρ fun ρ1 ws => Q ρ1 (.lst ws)
theorem own_lst {F H : Hp} {p : Addr} {vs : List V} {ws : List W} (r : RepL K c.b F vs ws) (S : Addr → Prop) (s : S p) (m : ¬ c.M p) : Ow c F (upd H p (.lst vs)) S (.ref p) (.lst ws) := .lst s m upd_same r
theorem le_line {n k : Nat} (h : n ≤ k) (hk : k ≤ 100000) : n ≤ sizeLine := Nat.le_trans h (Nat.le_trans hk (by rw [sizeLine_eq]; decide))
instance {t : TA} {n : Nat} {τ : TAQ} [SA c t n τ] [z : SmN 60 n] : SE c (tTup t) (qTup τ) where
  sim {F H σ ρ ts Q Qp} rl h k := SA.sim (t := t) rl h fun vs ws ρ1 F1 H1 hl r1 rs q1 => ⟨le_line (by rw [hl]; exact z.le) (by decide), fun p hp => k _ _ _ _ _ ((r1.newS (o := .tup vs) hp).pushS (.tup upd_same (rs.mono (same_new (r1.fr.fh.free hp))))) q1⟩
instance {t : TA} {n : Nat} {τ : TAQ} [SA c t n τ] [z : SmN 60 n] : SE c (tLst t) (qLst τ) where
  sim {F H σ ρ ts Q Qp} rl h k := SA.sim (t := t) rl h fun vs ws ρ1 F1 H1 hl r1 rs q1 => ⟨le_line (by rw [hl]; exact z.le) (by decide), fun p hp => k _ _ _ _ _ (r1.newO (o := .lst vs) hp (own_lst rs)) q1⟩
/-! ### tests -/
def toB (Q : List D → Bool → Prop) : List D → W → Prop := fun ρ w => match w with
  | .v (.bl c) => Q ρ c
  | _ => False
theorem toB_of {ρ : List D} {F : Hp} {v : V} {w : W} {Q : List D → Bool → Prop} (h : toB Q ρ w) (r : Rep K c.b F v w) : ∃ c, v = .bl c ∧ Q ρ c := by
  unfold toB at h
  split at h
  next c => cases r; exact ⟨c, rfl, h⟩
  next => exact h.elim
def qB (τ : TQ) : TTQ := fun ρ Q => τ ρ fun ρ1 d => lookD d fun w => toB Q ρ1 w
instance {t : TE} {τ : TQ} [SE c t τ] : ST c (tB t) (qB τ) where
  sim {F H σ ρ ts Q Qp} rl h k := SE.simW (t := t) (Qp := toB Qp) rl h fun v w ρ1 F1 H1 r1 q1 => by
    obtain ⟨c, rfl, q⟩ := toB_of q1 r1.topS
    exact ⟨c, rfl, k _ _ _ _ r1.pop q⟩
instance {t : TE} {τ : TQ} [SE c t τ] : ST c (tTest t) (qB τ) where
  sim {F H σ ρ ts Q Qp} rl h k := SE.simW (t := t) (Qp := toB Qp) rl h fun v w ρ1 F1 H1 r1 q1 => by
    obtain ⟨c, rfl, q⟩ := toB_of q1 r1.topS
    exact ⟨c, rfl, k _ _ _ _ r1.pop q⟩
def qAnd (a b : TTQ) : TTQ := fun ρ Q => a ρ fun ρ1 c => if c = true then b ρ1 Q else Q ρ1 false
def qOr (a b : TTQ) : TTQ := fun ρ Q => a ρ fun ρ1 c => if c = true then Q ρ1 true else b ρ1 Q
def qNot (a : TTQ) : TTQ := fun ρ Q => a ρ fun ρ1 c => Q ρ1 (!c)
def qYes : TTQ := fun ρ Q => Q ρ true
instance {ta tb : TT} {τa τb : TTQ} [ST c ta τa] [ST c tb τb] : ST c (tAnd ta tb) (qAnd τa τb) where
  sim {F H σ ρ ts Q Qp} rl h k := ST.sim (t := ta) (τ := τa) rl h fun b ρ1 F1 H1 r1 q1 => by
    cases b with
    | true => exact ST.sim (t := tb) r1 q1 k
    | false => exact k _ _ _ _ r1 q1
instance {ta tb : TT} {τa τb : TTQ} [ST c ta τa] [ST c tb τb] : ST c (tOr ta tb) (qOr τa τb) where
  sim {F H σ ρ ts Q Qp} rl h k := ST.sim (t := ta) (τ := τa) rl h fun b ρ1 F1 H1 r1 q1 => by
    cases b with
    | true => exact k _ _ _ _ r1 q1
    | false => exact ST.sim (t := tb) r1 q1 k
instance {ta : TT} {τa : TTQ} [ST c ta τa] : ST c (tNot ta) (qNot τa) where
  sim {F H σ ρ ts Q Qp} rl h k := ST.sim (t := ta) (τ := τa) rl h fun b ρ1 F1 H1 r1 q1 => k _ _ _ _ r1 q1
instance : ST c tYes qYes where
  sim {F H σ ρ ts Q Qp} rl h k := k _ _ _ _ rl h
/-! ### and, or, not as values; if .. else -/
def qAndV (a t : TQ) : TQ := fun ρ Q => a ρ fun ρ1 d => lookD d fun w => toB (fun ρ1 k => if k = true then t ρ1 Q else Q ρ1 (.bl false)) ρ1 w
def qOrV (a t : TQ) : TQ := fun ρ Q => a ρ fun ρ1 d => lookD d fun w => toB (fun ρ1 k => if k = true then Q ρ1 (.bl true) else t ρ1 Q) ρ1 w
def qNotV (a : TQ) : TQ := fun ρ Q => a ρ fun ρ1 d => lookD d fun w => toB (fun ρ1 k => Q ρ1 (.bl (!k))) ρ1 w
instance {ta tb : TE} {τa τb : TQ} [SE c ta τa] [SE c tb τb] : SE c (tAndV ta tb) (qAndV τa τb) where
  sim {F H σ ρ ts Q Qp} rl h k := SE.simW (t := ta) (Qp := fun ρ1 w => toB (fun ρ1 k => if k = true then τb ρ1 Qp else Qp ρ1 (.bl false)) ρ1 w) rl h fun v w ρ1 F1 H1 r1 q1 => by
    obtain ⟨b, rfl, q⟩ := toB_of q1 r1.topS
    refine ⟨b, rfl, ?_⟩
    cases b with
    | true => exact SE.sim (t := tb) r1.pop q k
    | false => exact k _ _ _ _ _ (r1.pop.pushS (.v _)) q
instance {ta tb : TE} {τa τb : TQ} [SE c ta τa] [SE c tb τb] : SE c (tOrV ta tb) (qOrV τa τb) where
  sim {F H σ ρ ts Q Qp} rl h k := SE.simW (t := ta) (Qp := fun ρ1 w => toB (fun ρ1 k => if k = true then Qp ρ1 (.bl true) else τb ρ1 Qp) ρ1 w) rl h fun v w ρ1 F1 H1 r1 q1 => by
    obtain ⟨b, rfl, q⟩ := toB_of q1 r1.topS
    refine ⟨b, rfl, ?_⟩
    cases b with
    | true => exact k _ _ _ _ _ (r1.pop.pushS (.v _)) q
    | false => exact SE.sim (t := tb) r1.pop q k
instance {ta : TE} {τa : TQ} [SE c ta τa] : SE c (tNotV ta) (qNotV τa) where
  sim {F H σ ρ ts Q Qp} rl h k := SE.simW (t := ta) (Qp := fun ρ1 w => toB (fun ρ1 k => Qp ρ1 (.bl (!k))) ρ1 w) rl h fun v w ρ1 F1 H1 r1 q1 => by
    obtain ⟨b, rfl, q⟩ := toB_of q1 r1.topS
    exact ⟨b, rfl, k _ _ _ _ _ (r1.pop.pushS (.v _)) q⟩
def qIf (t : TTQ) (a b : TQ) : TQ := fun ρ Q => t ρ fun ρ1 k => if k = true then a ρ1 Q else b ρ1 Q
instance {tt : TT} {ta tb : TE} {τt : TTQ} {τa τb : TQ} [ST c tt τt] [SE c ta τa] [SE c tb τb] : SE c (tIf tt ta tb) (qIf τt τa τb) where
  sim {F H σ ρ ts Q Qp} rl h k := ST.sim (t := tt) rl h fun b ρ1 F1 H1 r1 q1 => by
    cases b with
    | true => exact SE.sim (t := ta) r1 q1 k
    | false => exact SE.sim (t := tb) r1 q1 k
def qChain (ω ω' : W → W → (D → Prop) → Prop) (ta tb tc : TVQ) : TQ := fun ρ Q => ta ρ fun ρ1 p => tb ρ1 fun ρ2 q => look ρ2 p fun x => look ρ2 q fun y => ω x y fun d => lookD d fun w => toB (fun ρ2 k => if k = true then tc ρ2 fun ρ3 s => look ρ3 q fun y => look ρ3 s fun z => ω' y z fun d => Q ρ3 d else Q ρ2 (.bl false)) ρ2 w
instance {r r' : R2} {ω ω' : W → W → (D → Prop) → Prop} {ta tb tc : TE} {τa τb τc : TVQ} [SV c ta τa] [SV c tb τb] [SV c tc τc] [SOp c r ω] [SOp c r' ω'] : SE c (tChain r r' ta tb tc) (qChain ω ω' τa τb τc) where
  sim {F H σ ρ ts Q Qp} rl h k := SV.sim (t := ta) rl h fun v p ρ1 F1 H1 ts1 p1 r1 q1 => SV.sim (t := tb) r1 q1 fun u q ρ2 F2 H2 ts2 p2 r2 q2 => by
    obtain ⟨w, h1, q3⟩ := r2.see (p1.has.1.up p2.has.2) q2
    obtain ⟨w', h2, q4⟩ := r2.see p2.has.1 q3
    refine SOp.sim (r := r) r2 h1 h2 q4 fun v d F' H' rr q5 => ?_
    obtain ⟨w5, hw, q5⟩ := lookD_ex q5
    obtain ⟨F6, e6, r6⟩ := rr.frzT hw
    obtain ⟨b, rfl, q7⟩ := toB_of q5 r6.topS
    refine ⟨b, rfl, ?_⟩
    cases b with
    | true =>
      refine SV.sim (t := tc) r6.pop q7 fun v3 p3 ρ3 F3 H3 ts3 pp3 r3 q8 => ?_
      obtain ⟨w8, h8, q9⟩ := r3.see (p2.has.1.up pp3.has.2) q8
      obtain ⟨w9, h9, q10⟩ := r3.see pp3.has.1 q9
      exact SOp.sim (r := r') r3 h8 h9 q10 fun v d F' H' rr q => k _ _ _ _ _ (p1.back (p2.back (pp3.back rr))) q
    | false => exact k _ _ _ _ _ ((p1.back0 (p2.back0 r6.pop)).pushS (.v _)) q7
end
end R

/-! ## R3: operators and built-ins -/
namespace R
open PySem PySem.Spec PyProof.Rows L2 G
/-! ### data -/
def vDat : V → PyData
  | .non => .none
  | .bl b => .bool b
  | .int i => .int i
  | .str s => .str s
  | _ => .none
mutual
def W.dat : W → PyData
  | .v x => vDat x
  | .lst ws => .list (W.datL ws)
  | .tup ws => .tuple (W.datL ws)
  | .dic _ _ => .none
  | .dit _ _ => .none
  | .obj _ _ _ => .none
  | .set _ _ => .none
  | .bag => .none
def W.datL : List W → List PyData
  | [] => []
  | w :: ws => w.dat :: W.datL ws
end
def vOk : V → Bool
  | .non => true
  | .bl _ => true
  | .int _ => true
  | .str s => PyData.strOk s
  | _ => false
mutual
/-- data of at most n levels -/
def W.ok : W → Nat → Bool
  | .v x, _ => vOk x
  | .lst ws, n + 1 => W.okL ws n
  | .tup ws, n + 1 => W.okL ws n
  | _, _ => false
def W.okL : List W → Nat → Bool
  | [], _ => true
  | w :: ws, n => w.ok n && W.okL ws n
end
/-- x == y -/
def W.eq (x y : W) : Bool := PyData.eqv x.dat y.dat
def W.eqL (x y : List W) : Bool := PyData.eqvAll (W.datL x) (W.datL y)
@[simp] theorem eq_int (i j : Int) : W.eq (.v (.int i)) (.v (.int j)) = decide (i = j) := by
  show PyData.eqv (.int i) (.int j) = _
  rw [PyData.eqv]; exact (by rw [Bool.eq_iff_iff]; simp)
@[simp] theorem eq_bl (i j : Bool) : W.eq (.v (.bl i)) (.v (.bl j)) = (i == j) := by
  show PyData.eqv (.bool i) (.bool j) = _
  rw [PyData.eqv]
@[simp] theorem eq_str (i j : Str) : W.eq (.v (.str i)) (.v (.str j)) = decide (i = j) := by
  show PyData.eqv (.str i) (.str j) = _
  rw [PyData.eqv]; exact (by rw [Bool.eq_iff_iff]; simp)
@[simp] theorem eq_lst (i j : List W) : W.eq (.lst i) (.lst j) = W.eqL i j := by
  simp only [W.eq, W.dat, PyData.eqv, W.eqL]
@[simp] theorem eq_tup (i j : List W) : W.eq (.tup i) (.tup j) = W.eqL i j := by
  simp only [W.eq, W.dat, PyData.eqv, W.eqL]
@[simp] theorem eq_int_non (i : Int) : W.eq (.v (.int i)) (.v .non) = false := by simp [W.eq, W.dat, vDat, PyData.eqv]
@[simp] theorem eq_non_int (i : Int) : W.eq (.v .non) (.v (.int i)) = false := by simp [W.eq, W.dat, vDat, PyData.eqv]
@[simp] theorem eq_non : W.eq (.v .non) (.v .non) = true := by simp [W.eq, W.dat, vDat, PyData.eqv]
@[simp] theorem eqL_nil : W.eqL [] [] = true := by simp [W.eqL, W.datL, PyData.eqvAll]
@[simp] theorem eqL_nc (x : W) (xs : List W) : W.eqL [] (x :: xs) = false := by simp [W.eqL, W.datL, PyData.eqvAll]
@[simp] theorem eqL_cn (x : W) (xs : List W) : W.eqL (x :: xs) [] = false := by simp [W.eqL, W.datL, PyData.eqvAll]
@[simp] theorem eqL_cons (x y : W) (xs ys : List W) : W.eqL (x :: xs) (y :: ys) = (W.eq x y && W.eqL xs ys) := by simp [W.eqL, W.eq, W.datL, PyData.eqvAll]
theorem eqL_nilr (xs : List W) : W.eqL xs [] = xs.isEmpty := by cases xs <;> simp
theorem datL_map : ∀ ws : List W, W.datL ws = ws.map W.dat
  | [] => by rw [W.datL]; rfl
  | w :: ws => by rw [W.datL, datL_map ws]; rfl
theorem okL_all : ∀ (ws : List W) (n : Nat), W.okL ws n = ws.all fun w => w.ok n
  | [], n => by rw [W.okL]; rfl
  | w :: ws, n => by rw [W.okL, okL_all ws n]; rfl
@[simp] theorem ok_v (x : V) (n : Nat) : (W.v x).ok n = vOk x := by simp [W.ok]
@[simp] theorem ok_lst (ws : List W) (n : Nat) : (W.lst ws).ok (n + 1) = ws.all fun w => w.ok n := by rw [W.ok, okL_all]
@[simp] theorem ok_tup (ws : List W) (n : Nat) : (W.tup ws).ok (n + 1) = ws.all fun w => w.ok n := by rw [W.ok, okL_all]
mutual
theorem W.ok_up : ∀ (w : W) (n m : Nat), w.ok n = true → n ≤ m → w.ok m = true
  | .v x, n, m, h, _ => by simpa using h
  | .lst ws, 0, m, h, _ => by simp [W.ok] at h
  | .lst ws, n + 1, 0, h, l => by omega
  | .lst ws, n + 1, m + 1, h, l => by rw [W.ok] at h ⊢; exact W.okL_up ws n m h (by omega)
  | .tup ws, 0, m, h, _ => by simp [W.ok] at h
  | .tup ws, n + 1, 0, h, l => by omega
  | .tup ws, n + 1, m + 1, h, l => by rw [W.ok] at h ⊢; exact W.okL_up ws n m h (by omega)
  | .dic _ _, n, _, h, _ => by simp [W.ok] at h
  | .dit _ _, n, _, h, _ => by simp [W.ok] at h
  | .obj _ _ _, n, _, h, _ => by simp [W.ok] at h
  | .set _ _, n, _, h, _ => by simp [W.ok] at h
  | .bag, n, _, h, _ => by simp [W.ok] at h
theorem W.okL_up : ∀ (ws : List W) (n m : Nat), W.okL ws n = true → n ≤ m → W.okL ws m = true
  | [], n, m, _, _ => by rw [W.okL]
  | w :: ws, n, m, h, l => by
    rw [W.okL, Bool.and_eq_true] at h
    rw [W.okL, W.ok_up w n m h.1 l, W.okL_up ws n m h.2 l]; rfl
end
mutual
theorem W.lay : ∀ (w : W) (n : Nat), w.ok n = true → w.dat.canLay0 = true ∧ w.dat.depth ≤ n
  | .v x, n, h => by
    rw [ok_v] at h
    cases x with
    | str s => exact ⟨by simpa [W.dat, vDat, PyData.canLay0, vOk] using h, by simp [W.dat, vDat, PyData.depth]⟩
    | non => exact ⟨by simp [W.dat, vDat, PyData.canLay0], by simp [W.dat, vDat, PyData.depth]⟩
    | bl b => exact ⟨by simp [W.dat, vDat, PyData.canLay0], by simp [W.dat, vDat, PyData.depth]⟩
    | int b => exact ⟨by simp [W.dat, vDat, PyData.canLay0], by simp [W.dat, vDat, PyData.depth]⟩
    | _ => simp [vOk] at h
  | .lst ws, 0, h => by simp [W.ok] at h
  | .lst ws, n + 1, h => by
    rw [W.ok] at h
    obtain ⟨h1, h2⟩ := W.layL ws n h
    exact ⟨by simpa [W.dat, PyData.canLay0] using h1, by simp [W.dat, PyData.depth]; omega⟩
  | .tup ws, 0, h => by simp [W.ok] at h
  | .tup ws, n + 1, h => by
    rw [W.ok] at h
    obtain ⟨h1, h2⟩ := W.layL ws n h
    exact ⟨by simpa [W.dat, PyData.canLay0] using h1, by simp [W.dat, PyData.depth]; omega⟩
  | .dic _ _, n, h => by simp [W.ok] at h
  | .dit _ _, n, h => by simp [W.ok] at h
  | .obj _ _ _, n, h => by simp [W.ok] at h
  | .set _ _, n, h => by simp [W.ok] at h
  | .bag, n, h => by simp [W.ok] at h
theorem W.layL : ∀ (ws : List W) (n : Nat), W.okL ws n = true → PyData.canLayAll0 (W.datL ws) = true ∧ PyData.depthAll (W.datL ws) ≤ n
  | [], n, _ => ⟨by simp [W.datL, PyData.canLayAll0], by simp [W.datL, PyData.depthAll]⟩
  | w :: ws, n, h => by
    rw [W.okL, Bool.and_eq_true] at h
    obtain ⟨h1, h2⟩ := W.lay w n h.1
    obtain ⟨h3, h4⟩ := W.layL ws n h.2
    exact ⟨by simp [W.datL, PyData.canLayAll0, h1, h3], by simp [W.datL, PyData.depthAll]; omega⟩
end
theorem W.shaped {w : W} {n : Nat} (h : w.ok n = true) (hn : n ≤ 64) : SeqAt.shaped w.dat = true := by
  obtain ⟨h1, h2⟩ := W.lay w n h
  unfold SeqAt.shaped
  rw [h1, Bool.true_and]
  exact decide_eq_true (by omega)
section
variable {K : PySem.W.Frag} {b : Addr} {F : Hp}
mutual
theorem Rep.dp : ∀ (w : W) (n : Nat) (v : V), w.ok n = true → Rep K b F v w → Dp K F v w.dat
  | .v x, n, v, h, r => by
    cases r
    rw [ok_v] at h
    cases x with
    | str s => exact .str s
    | non => exact .non
    | bl b => exact .bl b
    | int b => exact .int b
    | _ => simp [vOk] at h
  | .lst ws, 0, v, h, _ => by simp [W.ok] at h
  | .lst ws, n + 1, v, h, r => by
    cases r with | lst a r => rw [W.ok] at h; rw [W.dat]; exact .lst (SqL.of a) (RepL.dp ws n _ h r)
  | .tup ws, 0, v, h, _ => by simp [W.ok] at h
  | .tup ws, n + 1, v, h, r => by
    cases r with | tup a r => rw [W.ok] at h; rw [W.dat]; exact .tup (SqT.of a) (RepL.dp ws n _ h r)
  | .dic _ _, n, _, h, _ => by simp [W.ok] at h
  | .dit _ _, n, _, h, _ => by simp [W.ok] at h
  | .obj _ _ _, n, _, h, _ => by simp [W.ok] at h
  | .set _ _, n, _, h, _ => by simp [W.ok] at h
  | .bag, n, _, h, _ => by simp [W.ok] at h
theorem RepL.dp : ∀ (ws : List W) (n : Nat) (vs : List V), W.okL ws n = true → RepL K b F vs ws → DpAll K F vs (W.datL ws)
  | [], n, vs, _, r => by cases r; rw [W.datL]; exact .nil
  | w :: ws, n, vs, h, r => by
    rw [W.okL, Bool.and_eq_true] at h
    cases r with | cons a r => rw [W.datL]; exact .cons (Rep.dp w n _ h.1 a) (RepL.dp ws n _ h.2 r)
end
mutual
theorem Dp.up {H H' : Hp} (e : Same H H') : ∀ {d : PyData} {v : V}, Dp K H v d → Dp K H' v d
  | _, _, .non => .non
  | _, _, .bl b => .bl b
  | _, _, .int i => .int i
  | _, _, .str x => .str x
  | _, _, .lst a r => .lst (sql_up e a) (DpAll.up e r)
  | _, _, .tup a r => .tup (sqt_up e a) (DpAll.up e r)
theorem DpAll.up {H H' : Hp} (e : Same H H') : ∀ {d : List PyData} {v : List V}, DpAll K H v d → DpAll K H' v d
  | _, _, .nil => .nil
  | _, _, .cons a r => .cons (Dp.up e a) (DpAll.up e r)
end
theorem Vw.dp {c : Cx K} {F H : Hp} {v : V} {w : W} {n : Nat} (h : Vw c F H v w) (e : Same F H) (k : w.ok n = true) : Dp K H v w.dat := by
  cases w with
  | lst ws =>
    obtain ⟨a, us, rfl, h1, r⟩ := h.lst e
    cases n with
    | zero => simp [W.ok] at k
    | succ n => rw [W.ok] at k; rw [W.dat]; exact .lst (SqL.of h1) (DpAll.up e (RepL.dp ws n _ k r))
  | tup ws =>
    obtain ⟨a, us, rfl, h0, h1, r⟩ := h.tup e
    cases n with
    | zero => simp [W.ok] at k
    | succ n => rw [W.ok] at k; rw [W.dat]; exact .tup (SqT.of h1) (DpAll.up e (RepL.dp ws n _ k r))
  | v x =>
    cases h.flat
    exact Rep.dp (b := c.b) (.v v) n v k (.v v)
  | _ => simp [W.ok] at k
end
/-! ### operators -/
theorem OpR.or {X : L2.Cx} {f : Value → Value → Sem Value} {r r' : R2} (h : OpR X f r) (h' : OpR X f r') : OpR X f (fun x y H Q => r x y H Q ∨ r' x y H Q) :=
  fun pins s σ H x y v u Q I rx ry q => q.elim (h pins s σ H x y v u Q I rx ry) (h' pins s σ H x y v u Q I rx ry)
theorem CallR.or {X : L2.Cx} {f : Value} {r r' : List V → Hp → VK → Prop} (h : CallR X f r) (h' : CallR X f r') : CallR X f (fun xs H Q => r xs H Q ∨ r' xs H Q) :=
  fun pins s σ H xs us Q I r q => q.elim (h pins s σ H xs us Q I r) (h' pins s σ H xs us Q I r)
section
variable {K : PySem.W.Frag} {c : Cx K}
def oI (C : Int → Int → Prop) (g : Int → Int → V) : W → W → (D → Prop) → Prop := fun x y k => match x, y with
  | .v (.int i), .v (.int j) => C i j ∧ k (.sh (.v (g i j)))
  | _, _ => False
def oI0 (g : Int → Int → V) : W → W → (D → Prop) → Prop := fun x y k => match x, y with
  | .v (.int i), .v (.int j) => k (.sh (.v (g i j)))
  | _, _ => False
instance {C : Int → Int → Prop} {g : Int → Int → V} : SOp c (rI C g) (oI C g) where
  sim {F H σ ρ ts x y w u Q Qp} rl hx hy h k := by
    unfold oI at h
    split at h
    next i j => exact ⟨i, j, hx.flat, hy.flat, h.1, k _ _ _ _ (rl.pushS (.v _)) h.2⟩
    next => exact h.elim
instance {g : Int → Int → V} : SOp c (rI0 g) (oI0 g) where
  sim {F H σ ρ ts x y w u Q Qp} rl hx hy h k := by
    unfold oI0 at h
    split at h
    next i j => exact ⟨i, j, hx.flat, hy.flat, k _ _ _ _ (rl.pushS (.v _)) h⟩
    next => exact h.elim
def oU (g : Int → V) : W → (D → Prop) → Prop := fun x k => match x with
  | .v (.int i) => k (.sh (.v (g i)))
  | _ => False
instance {g : Int → V} : SUn c (rU g) (oU g) where
  sim {F H σ ρ ts x w Q Qp} rl hx h k := by
    unfold oU at h
    split at h
    next i => exact ⟨i, hx.flat, k _ _ _ _ (rl.pushS (.v _)) h⟩
    next => exact h.elim
/-- x + y -/
def rPlus (K : PySem.W.Frag) : R2 := fun x y H Q => rI0 (fun i j => .int (i + j)) x y H Q ∨ (rCat x y H Q ∨ (rCatA K x y H Q ∨ ∃ i j, x = .str i ∧ y = .str j ∧ i.length + j.length ≤ sizeLine ∧ Q (.str (i ++ j)) H))
theorem kplus (K : PySem.W.Frag) {X : L2.Cx} (h : X.K = K := by rfl) : OpR X (binaryOp .Add) (rPlus K) := by subst h; exact op_add.or (op_cat.or (op_catA.or op_add_str))
def oPlus : W → W → (D → Prop) → Prop := fun x y k => match x, y with
  | .v (.int i), .v (.int j) => k (.int (i + j))
  | .lst a, .lst b => a.length + b.length ≤ 100000 ∧ k (.lst (a ++ b))
  | .tup a, .tup b => a.length + b.length ≤ 100000 ∧ k (.sh (.tup (a ++ b)))
  | .v (.str a), .v (.str b) => a.length + b.length ≤ 100000 ∧ k (.str (a ++ b))
  | _, _ => False
instance : SOp c (rPlus K) oPlus where
  sim {F H σ ρ ts x y w u Q Qp} rl hx hy h k := by
    have e := rl.fr.fh
    unfold oPlus at h
    split at h
    next i j => exact .inl ⟨i, j, hx.flat, hy.flat, k _ _ _ _ (rl.pushS (.v _)) h⟩
    next a b =>
      obtain ⟨l, us, rfl, h1, r1⟩ := hx.lst e
      obtain ⟨m, vs, rfl, h2, r2⟩ := hy.lst e
      refine .inr (.inl ⟨l, m, us, vs, rfl, rfl, h1, h2, le_line (by rw [r1.len, r2.len]; exact h.1) (by decide), fun p hp => ?_⟩)
      exact k _ _ _ _ (rl.newO (o := .lst (us ++ vs)) hp (own_lst (r1.app r2))) h.2
    next a b =>
      obtain ⟨l, us, rfl, g1, h1, r1⟩ := hx.tup e
      obtain ⟨m, vs, rfl, g2, h2, r2⟩ := hy.tup e
      refine .inr (.inr (.inl ⟨l, m, us, vs, rfl, rfl, SqT.of h1, SqT.of h2, le_line (by rw [r1.len, r2.len]; exact h.1) (by decide), fun z => ?_, fun z y => ?_, fun _ _ p hp => ?_⟩))
      · subst z
        cases r1
        exact k _ _ _ _ (rl.pushS (.tup g2 r2)) h.2
      · subst y
        cases r2
        have q := h.2
        rw [List.append_nil] at q
        exact k _ _ _ _ (rl.pushS (.tup g1 r1)) q
      · exact k _ _ _ _ ((rl.newS (o := .tup (us ++ vs)) hp).pushS (.tup upd_same ((r1.app r2).mono (same_new (e.free hp))))) h.2
    next a b =>
      exact .inr (.inr (.inr ⟨a, b, hx.flat, hy.flat, le_line h.1 (by decide), k _ _ _ _ (rl.pushS (.v _)) h.2⟩))
    next => exact h.elim
/-- x * y -/
def rTimes : R2 := fun x y H Q => rI CMulW (fun i j => .int (i * j)) x y H Q ∨ rRep x y H Q
theorem ktimes {X : L2.Cx} : OpR X (binaryOp .Mult) rTimes := op_mulW.or op_rep
def oTimes : W → W → (D → Prop) → Prop := fun x y k => match x, y with
  | .v (.int i), .v (.int j) => CMulW i j ∧ k (.int (i * j))
  | .lst a, .v (.int j) => (-100000 ≤ j ∧ j ≤ 100000 ∧ a.length * j.toNat ≤ 100000) ∧ k (.lst (List.replicate j.toNat a).flatten)
  | _, _ => False
instance : SOp c rTimes oTimes where
  sim {F H σ ρ ts x y w u Q Qp} rl hx hy h k := by
    have e := rl.fr.fh
    unfold oTimes at h
    split at h
    next i j => exact .inl ⟨i, j, hx.flat, hy.flat, h.1, k _ _ _ _ (rl.pushS (.v _)) h.2⟩
    next a j =>
      obtain ⟨l, us, rfl, h1, r1⟩ := hx.lst e
      obtain ⟨⟨h0, h9, hz⟩, q⟩ := h
      have hl := r1.len
      refine .inr ⟨l, j, us, rfl, hy.flat, h1, by omega, by omega, le_line (by rw [hl]; exact hz) (by decide), fun p hp => ?_⟩
      · exact k _ _ _ _ (rl.newO (o := .lst (List.replicate j.toNat us).flatten) hp (own_lst (r1.flatrep _))) q
    next => exact h.elim
/-- x == y, x != y of data -/
def oEq (neg : Bool) : W → W → (D → Prop) → Prop := fun x y k => (x.ok 20 = true ∧ y.ok 20 = true) ∧ k (.bl (neg != W.eq x y))
instance : SOp c (rEqD K) (oEq false) where
  sim {F H σ ρ ts x y w u Q Qp} rl hx hy h k := by
    refine ⟨_, _, hx.dp rl.fr.fh h.1.1, hy.dp rl.fr.fh h.1.2, W.shaped h.1.1 (by decide), W.shaped h.1.2 (by decide), k _ _ _ _ (rl.pushS (.v _)) ?_⟩
    have q := h.2
    rw [Bool.false_bne] at q
    exact q
instance : SOp c (rNeD K) (oEq true) where
  sim {F H σ ρ ts x y w u Q Qp} rl hx hy h k := by
    refine ⟨_, _, hx.dp rl.fr.fh h.1.1, hy.dp rl.fr.fh h.1.2, W.shaped h.1.1 (by decide), W.shaped h.1.2 (by decide), k _ _ _ _ (rl.pushS (.v _)) ?_⟩
    have q := h.2
    rw [Bool.true_bne] at q
    exact q
/-- x in xs, x not in xs of data -/
def rInD (K : PySem.W.Frag) (neg : Bool) : R2 := fun x y H Q => ∃ d ds, (Dp K H y (.list ds) ∨ Dp K H y (.tuple ds)) ∧ Dp K H x d ∧ SeqAt.shaped (.list ds) = true ∧ SeqAt.shaped d = true ∧ Q (.bl (neg != ds.any fun z => PyData.eqv z d)) H
theorem kinD (K : PySem.W.Frag) {X : L2.Cx} (hu : X.A.units + 65 < cLine) (h : X.K = K := by rfl) : OpR X (compareOp .In) (rInD K false) := by
  subst h
  intro pins s σ H x y v u Q I rx ry h
  obtain ⟨d, ds, hy, hx, sl, sd, q⟩ := h
  rw [Bool.false_bne] at q
  obtain ⟨bs, r2⟩ := Dp.reads I d x v hx rx
  have lay : PyData.canLayAll0 ds = true := SeqAt.canLay_of_shaped sl
  have dep := SeqAt.depth_of_shaped sd
  rcases hy with hy | hy
  · obtain ⟨as, r1⟩ := Dp.reads I _ y u hy ry
    exact SeqAt.in_list_reads r1 r2 lay (SeqAt.canLay_of_shaped sd) (by omega) ⟨.bl _, H, I, rfl, q⟩
  · obtain ⟨as, r1⟩ := Dp.reads I _ y u hy ry
    exact SeqAt.in_tuple_reads r1 r2 lay (SeqAt.canLay_of_shaped sd) (by omega) ⟨.bl _, H, I, rfl, q⟩
theorem kninD (K : PySem.W.Frag) {X : L2.Cx} (hu : X.A.units + 65 < cLine) (h : X.K = K := by rfl) : OpR X (compareOp .NotIn) (rInD K true) := by
  subst h
  intro pins s σ H x y v u Q I rx ry h
  obtain ⟨d, ds, hy, hx, sl, sd, q⟩ := h
  rw [Bool.true_bne] at q
  obtain ⟨bs, r2⟩ := Dp.reads I d x v hx rx
  have lay : PyData.canLayAll0 ds = true := SeqAt.canLay_of_shaped sl
  have dep := SeqAt.depth_of_shaped sd
  rcases hy with hy | hy
  · obtain ⟨as, r1⟩ := Dp.reads I _ y u hy ry
    exact SeqAt.notIn_list_reads r1 r2 lay (SeqAt.canLay_of_shaped sd) (by omega) ⟨.bl _, H, I, rfl, q⟩
  · obtain ⟨as, r1⟩ := Dp.reads I _ y u hy ry
    exact SeqAt.notIn_tuple_reads r1 r2 lay (SeqAt.canLay_of_shaped sd) (by omega) ⟨.bl _, H, I, rfl, q⟩
def oIn (neg : Bool) : W → W → (D → Prop) → Prop := fun x y k => match y with
  | .lst ws => (x.ok 20 = true ∧ (W.lst ws).ok 20 = true) ∧ k (.bl (neg != ws.any fun z => W.eq z x))
  | .tup ws => (x.ok 20 = true ∧ (W.lst ws).ok 20 = true) ∧ k (.bl (neg != ws.any fun z => W.eq z x))
  | _ => False
theorem any_dat (x : W) : ∀ ws : List W, (W.datL ws).any (fun z => PyData.eqv z x.dat) = ws.any fun z => W.eq z x
  | [] => by rw [W.datL]; rfl
  | w :: ws => by rw [W.datL, List.any_cons, List.any_cons, any_dat x ws]; rfl
instance {neg : Bool} : SOp c (rInD K neg) (oIn neg) where
  sim {F H σ ρ ts x y w u Q Qp} rl hx hy h k := by
    unfold oIn at h
    split at h
    next ws =>
      have h2 := hy.dp rl.fr.fh h.1.2
      have h3 := W.shaped h.1.2 (by decide)
      rw [W.dat] at h2 h3
      refine ⟨w.dat, W.datL ws, .inl h2, hx.dp rl.fr.fh h.1.1, h3, W.shaped h.1.1 (by decide), k _ _ _ _ (rl.pushS (.v _)) ?_⟩
      rw [any_dat]; exact h.2
    next ws =>
      have h1 : (W.tup ws).ok 20 = true := by have q := h.1.2; rw [ok_lst] at q; rw [ok_tup]; exact q
      have h2 := hy.dp rl.fr.fh h1
      have h3 := W.shaped h.1.2 (by decide)
      rw [W.dat] at h2
      rw [W.dat] at h3
      refine ⟨w.dat, W.datL ws, .inr h2, hx.dp rl.fr.fh h.1.1, h3, W.shaped h.1.1 (by decide), k _ _ _ _ (rl.pushS (.v _)) ?_⟩
      rw [any_dat]; exact h.2
    next => exact h.elim
end
end R

/-! ## R4: built-ins, items, slices, fields -/
namespace R
open PySem PySem.Spec PyProof.Rows L2 G
def rIsN : R2 := fun x y H Q => y = .non ∧ Q (.bl (decide (x = .non))) H
def rNotN : R2 := fun x y H Q => y = .non ∧ Q (.bl (!decide (x = .non))) H
theorem kisN {X : L2.Cx} : OpR X (compareOp .Is) rIsN := op_isN
theorem knotN {X : L2.Cx} : OpR X (compareOp .IsNot) rNotN := op_notN
def isNon : W → Bool
  | .v .non => true
  | _ => false
@[simp] theorem isNon_non : isNon (.v .non) = true := rfl
@[simp] theorem isNon_int (i : Int) : isNon (.v (.int i)) = false := rfl
@[simp] theorem isNon_str (i : Str) : isNon (.v (.str i)) = false := rfl
@[simp] theorem isNon_lst (i : List W) : isNon (.lst i) = false := rfl
@[simp] theorem isNon_tup (i : List W) : isNon (.tup i) = false := rfl
@[simp] theorem isNon_obj (C : Addr) (fs : List Str) (i : List W) : isNon (.obj C fs i) = false := rfl
section
variable {K : PySem.W.Frag} {c : Cx K}
theorem Vw.isN {F H : Hp} {v : V} {w : W} (h : Vw c F H v w) : decide (v = .non) = isNon w := by
  obtain ⟨S, d, o, e⟩ := h
  cases o with
  | sh r =>
    cases e
    cases r with
    | v => cases v <;> rfl
    | _ => rfl
  | lst => cases e; rfl
  | dic => cases e; rfl
  | dit => cases e; rfl
  | obj => cases e; rfl
  | set => cases e; rfl
  | ntup => cases e
  | mobj => cases e
  | raw => cases e
  | un => cases e
def oIsN (neg : Bool) : W → W → (D → Prop) → Prop := fun x y k => match y with
  | .v .non => k (.bl (neg != isNon x))
  | _ => False
instance : SOp c rIsN (oIsN false) where
  sim {F H σ ρ ts x y w u Q Qp} rl hx hy h k := by
    unfold oIsN at h
    split at h
    next => rw [Bool.false_bne, ← hx.isN] at h; exact ⟨hy.flat, k _ _ _ _ (rl.pushS (.v _)) h⟩
    next => exact h.elim
instance : SOp c rNotN (oIsN true) where
  sim {F H σ ρ ts x y w u Q Qp} rl hx hy h k := by
    unfold oIsN at h
    split at h
    next => rw [Bool.true_bne, ← hx.isN] at h; exact ⟨hy.flat, k _ _ _ _ (rl.pushS (.v _)) h⟩
    next => exact h.elim
/-! ### items -/
def oIx : W → W → (D → Prop) → Prop := fun x y k => match x, y with
  | .lst ws, .v (.int i) => match atI ws i with
    | some w => k (.sh w)
    | none => False
  | .tup ws, .v (.int i) => match atI ws i with
    | some w => k (.sh w)
    | none => False
  | .v (.str z), .v (.int i) => z.length ≤ 100000 ∧ match atI z.cps.toList i with
    | some ch => k (.str ⟨#[ch]⟩)
    | none => False
  | _, _ => False
theorem RepL.atI {b : Addr} {F : Hp} {us : List V} {ws : List W} {i : Int} {w : W} (r : RepL K b F us ws) (h : L2.atI ws i = some w) : ∃ v, L2.atI us i = some v ∧ Rep K b F v w := by
  unfold L2.atI at h ⊢
  rw [r.len]
  cases e : ixN ws.length i with
  | none => rw [e] at h; cases h
  | some j => rw [e] at h; exact r.get h
instance : SOp c (rIx K) oIx where
  sim {F H σ ρ ts x y w u Q Qp} rl hx hy h k := by
    have e := rl.fr.fh
    unfold oIx at h
    split at h
    next ws i =>
      split at h
      next w hw =>
        obtain ⟨a, us, rfl, h1, r⟩ := hx.lst e
        obtain ⟨v, hv, rv⟩ := r.atI hw
        exact .inl ⟨a, us, i, v, rfl, hy.flat, SqL.of h1, hv, k _ _ _ _ (rl.pushS rv) h⟩
      next => exact h.elim
    next ws i =>
      split at h
      next w hw =>
        obtain ⟨a, us, rfl, g1, h1, r⟩ := hx.tup e
        obtain ⟨v, hv, rv⟩ := r.atI hw
        exact .inr (.inl ⟨a, us, i, v, rfl, hy.flat, SqT.of h1, hv, k _ _ _ _ (rl.pushS rv) h⟩)
      next => exact h.elim
    next z i =>
      obtain ⟨hz, h⟩ := h
      split at h
      next ch hch => exact .inr (.inr ⟨z, i, ch, hx.flat, hy.flat, le_line hz (by decide), hch, k _ _ _ _ (rl.pushS (.v _)) h⟩)
      next => exact h.elim
    next => exact h.elim
/-! ### slices -/
def oNone : TOQ := fun ρ Q => Q ρ none
def oPart (t : TQ) : TOQ := fun ρ Q => t ρ fun ρ1 d => match d with
  | .sh (.v (.int i)) => Q ρ1 (some i)
  | _ => False
instance : SO c tNoPart oNone where
  sim {F H σ ρ ts Q Qp} rl h k := k _ _ _ _ rl h
instance {t : TE} {τ : TQ} [SE c t τ] : SO c (tPart t) (oPart τ) where
  sim {F H σ ρ ts Q Qp} rl h k := SE.sim (t := t) rl h fun v d ρ1 F1 H1 r1 q1 => by
    split at q1
    next i =>
      have e := r1.topS.flat
      exact ⟨i, e, k _ _ _ _ r1.pop q1⟩
    next => exact q1.elim
def cutW {α : Type} (xs : List α) (lo hi : Option Int) : List α := (xs.drop (HT.sIx xs.length 0 lo)).take (HT.sIx xs.length xs.length hi - HT.sIx xs.length 0 lo)
def rSlice (K : PySem.W.Frag) : V → Option Int → Option Int → Hp → VK → Prop := fun x lo hi H Q => rSlL K x lo hi H Q ∨ rSlA K x lo hi H Q
theorem kslice (K : PySem.W.Frag) {X : L2.Cx} (h : X.K = K := by rfl) : SlR X (rSlice K) := by subst h; exact sl_list.or sl_tupA
theorem RepL.cut {b : Addr} {F : Hp} {us : List V} {ws : List W} (r : RepL K b F us ws) (lo hi : Option Int) : RepL K b F (cutV us lo hi) (cutW ws lo hi) := by
  unfold cutV cutW
  rw [r.len]
  exact (r.drop _).take _
def qSl (ta : TVQ) (tl th : TOQ) : TQ := fun ρ Q => ta ρ fun ρ1 p => tl ρ1 fun ρ2 lo => th ρ2 fun ρ3 hi => look ρ3 p fun w => match w with
  | .lst ws => Q ρ3 (.lst (cutW ws lo hi))
  | .tup ws => Q ρ3 (.sh (.tup (cutW ws lo hi)))
  | _ => False
theorem cutW_all {α : Type} {ws : List α} {lo hi : Option Int} (h : HT.sIx ws.length 0 lo = 0 ∧ HT.sIx ws.length ws.length hi = ws.length) : cutW ws lo hi = ws := by
  unfold cutW
  rw [h.1, h.2, List.drop_zero, Nat.sub_zero, List.take_length]
instance {ta : TE} {tl th : TO} {τa : TVQ} {τl τh : TOQ} [SV c ta τa] [SO c tl τl] [SO c th τh] : SE c (tSl (rSlice K) ta tl th) (qSl τa τl τh) where
  sim {F H σ ρ ts Q Qp} rl h k := SV.sim (t := ta) rl h fun v p ρ1 F1 H1 ts1 p1 r1 q1 => SO.sim (t := tl) r1 q1 fun lo ρ2 F2 H2 r2 q2 => SO.sim (t := th) r2 q2 fun hi ρ3 F3 H3 r3 q3 => by
    obtain ⟨w, hw, q⟩ := r3.see p1.has.1 q3
    have e := r3.fr.fh
    split at q
    next ws =>
      obtain ⟨a, us, rfl, h1, r⟩ := hw.lst e
      exact .inl ⟨a, us, rfl, SqL.of h1, fun x hx => k _ _ _ _ _ (p1.back (r3.newO (o := .lst (cutV us lo hi)) hx (own_lst (r.cut lo hi)))) q⟩
    next ws =>
      obtain ⟨a, us, rfl, g1, h1, r⟩ := hw.tup e
      refine .inr ⟨a, us, rfl, SqT.of h1, fun z => ?_, fun _ x hx => ?_⟩
      · rw [r.len] at z
        rw [cutW_all z] at q
        exact k _ _ _ _ _ (p1.back (r3.pushS (.tup g1 r))) q
      · exact k _ _ _ _ _ (p1.back ((r3.newS (o := .tup (cutV us lo hi)) hx).pushS (.tup upd_same ((r.cut lo hi).mono (same_new (e.free hx)))))) q
    next => exact q.elim
def qRev (ta : TVQ) : TQ := fun ρ Q => ta ρ fun ρ1 p => look ρ1 p fun w => match w with
  | .lst ws => Q ρ1 (.lst ws.reverse)
  | _ => False
instance {ta : TE} {τa : TVQ} [SV c ta τa] : SE c (tRevL K ta) (qRev τa) where
  sim {F H σ ρ ts Q Qp} rl h k := SV.sim (t := ta) rl h fun v p ρ1 F1 H1 ts1 p1 r1 q1 => by
    obtain ⟨w, hw, q⟩ := r1.see p1.has.1 q1
    split at q
    next ws =>
      obtain ⟨a, us, rfl, h1, r⟩ := hw.lst r1.fr.fh
      exact ⟨a, us, rfl, SqL.of h1, fun x hx => k _ _ _ _ _ (p1.back (r1.newO (o := .lst us.reverse) hx (own_lst r.rev))) q⟩
    next => exact q.elim
def qRevT (ta : TVQ) : TQ := fun ρ Q => ta ρ fun ρ1 p => look ρ1 p fun w => match w with
  | .tup ws => Q ρ1 (.sh (.tup ws.reverse))
  | _ => False
instance {ta : TE} {τa : TVQ} [SV c ta τa] : SE c (tRevT K ta) (qRevT τa) where
  sim {F H σ ρ ts Q Qp} rl h k := SV.sim (t := ta) rl h fun v p ρ1 F1 H1 ts1 p1 r1 q1 => by
    obtain ⟨w, hw, q⟩ := r1.see p1.has.1 q1
    split at q
    next ws =>
      obtain ⟨a, us, rfl, g1, h1, r⟩ := hw.tup r1.fr.fh
      exact ⟨a, us, rfl, SqT.of h1, fun x hx => k _ _ _ _ _ (p1.back ((r1.newS (o := .tup us.reverse) hx).pushS (.tup upd_same (r.rev.mono (same_new (r1.fr.fh.free hx)))))) q⟩
    next => exact q.elim
/-! ### fields -/
class FldOk (K : PySem.W.Frag) (C : Addr) (f : Str) : Prop where
  cl : Cls K C
  na : NoAttr K C f
def qFld (C : Addr) (f : Str) (ta : TVQ) : TQ := fun ρ Q => ta ρ fun ρ1 p => look ρ1 p fun w => match w with
  | .obj C' fs ws => C' = C ∧ match (fs.zip ws).lookup f with
    | some w => Q ρ1 (.sh w)
    | none => False
  | _ => False
theorem lookup_rep {b : Addr} {F : Hp} {f : Str} {w : W} : ∀ {fs : List Str} {vs : List V} {us : List W}, RepL K b F vs us → (fs.zip us).lookup f = some w → ∃ v, (fs.zip vs).lookup f = some v ∧ Rep K b F v w
  | [], _, _, _, e => by cases e
  | a :: fs, _, [], _, e => by cases e
  | a :: fs, _, u :: us, h, e => by
    cases h with
    | @cons v _ vs _ x r =>
      rw [List.zip_cons_cons, List.lookup_cons] at e ⊢
      cases q : (f == a) with
      | true => rw [q] at e; cases e; exact ⟨v, rfl, x⟩
      | false => rw [q] at e; exact lookup_rep r e
/-- o.f, o of the class C -/
def tFldC (C : Addr) (K : PySem.W.Frag) (ta : TE) (f : Str) : TE := tFld K ta f
instance {C : Addr} {f : Str} {ta : TE} {τa : TVQ} [SV c ta τa] [o : FldOk K C f] : SE c (tFldC C K ta f) (qFld C f τa) where
  sim {F H σ ρ ts Q Qp} rl h k := SV.sim (t := ta) rl h fun v p ρ1 F1 H1 ts1 p1 r1 q1 => by
    obtain ⟨w, hw, q⟩ := r1.see p1.has.1 q1
    split at q
    next C' fs ws =>
      obtain ⟨rfl, q⟩ := q
      split at q
      next w' hl =>
        obtain ⟨a, dx, us, rfl, h1, l, r⟩ := hw.obj r1.fr.fh
        obtain ⟨v', hv, rv⟩ := lookup_rep r hl
        exact ⟨a, _, dx, _, v', rfl, h1, o.cl, o.na, hv, k _ _ _ _ _ (p1.back (r1.pushS rv)) q⟩
      next => exact q.elim
    next => exact q.elim
/-! ### built-ins -/
def rLen (K : PySem.W.Frag) : List V → Hp → VK → Prop := fun xs H Q => ∃ x n, xs = [x] ∧ LenV K x H n ∧ Q (.int n) H
theorem klen' (K : PySem.W.Frag) {X : L2.Cx} (h : X.K = K := by rfl) : CallR X (.builtin "len") (rLen K) := klen K h
def bLen : List W → (D → Prop) → Prop := fun xs k => match xs with
  | [.lst ws] => k (.int (ws.length : Int))
  | [.tup ws] => k (.int (ws.length : Int))
  | [.v (.str z)] => z.length ≤ 100000 ∧ k (.int (z.length : Int))
  | _ => False
theorem VwL.one {F H : Hp} {xs : List V} {w : W} (h : VwL c F H xs [w]) : ∃ x, xs = [x] ∧ Vw c F H x w := by
  match xs, h with
  | [x], h => exact ⟨x, rfl, h.1⟩
theorem VwL.two {F H : Hp} {xs : List V} {w u : W} (h : VwL c F H xs [w, u]) : ∃ x y, xs = [x, y] ∧ Vw c F H x w ∧ Vw c F H y u := by
  match xs, h with
  | [x, y], h => exact ⟨x, y, rfl, h.1, h.2.1⟩
instance : SC c (rLen K) bLen where
  sim {F H σ ρ ts xs ws Q Qp} rl hx h k := by
    unfold bLen at h
    split at h
    next ws =>
      obtain ⟨x, rfl, hv⟩ := hx.one
      obtain ⟨a, us, rfl, h1, r⟩ := hv.lst rl.fr.fh
      rw [← r.len] at h
      exact ⟨_, us.length, rfl, .inl ⟨us, SqL.of h1, rfl⟩, k _ _ _ _ (rl.pushS (.v _)) h⟩
    next ws =>
      obtain ⟨x, rfl, hv⟩ := hx.one
      obtain ⟨a, us, rfl, g1, h1, r⟩ := hv.tup rl.fr.fh
      rw [← r.len] at h
      exact ⟨_, us.length, rfl, .inr ⟨us, SqT.of h1, rfl⟩, k _ _ _ _ (rl.pushS (.v _)) h⟩
    next z =>
      obtain ⟨x, rfl, hv⟩ := hx.one
      cases hv.flat
      exact ⟨_, z.length, rfl, ⟨le_line h.1 (by decide), rfl⟩, k _ _ _ _ (rl.pushS (.v _)) h.2⟩
    next => exact h.elim
/-- a list of ints, of truths -/
def asI (k : List Int → Prop) : List W → Prop := fun ws => ∃ ns : List Int, ws = ns.map (fun n => W.v (.int n)) ∧ k ns
def asB (k : List Bool → Prop) : List W → Prop := fun ws => ∃ ns : List Bool, ws = ns.map (fun n => W.v (.bl n)) ∧ k ns
def bSum : List W → (D → Prop) → Prop := fun xs k => match xs with
  | [.lst ws] => asI (fun ns => k (.int ns.sum)) ws
  | _ => False
instance : SC c (rSum K) bSum where
  sim {F H σ ρ ts xs ws Q Qp} rl hx h k := by
    unfold bSum at h
    split at h
    next ws =>
      obtain ⟨x, rfl, hv⟩ := hx.one
      obtain ⟨a, us, rfl, h1, r⟩ := hv.lst rl.fr.fh
      obtain ⟨ns, rfl, h⟩ := h
      have e := r.unf
      subst e
      exact ⟨a, ns, rfl, SqL.of h1, k _ _ _ _ (rl.pushS (.v _)) h⟩
    next => exact h.elim
def bAll : List W → (D → Prop) → Prop := fun xs k => match xs with
  | [.lst ws] => asB (fun ns => k (.bl (ns.all id))) ws
  | _ => False
instance : SC c (rAll K) bAll where
  sim {F H σ ρ ts xs ws Q Qp} rl hx h k := by
    unfold bAll at h
    split at h
    next ws =>
      obtain ⟨x, rfl, hv⟩ := hx.one
      obtain ⟨a, us, rfl, h1, r⟩ := hv.lst rl.fr.fh
      obtain ⟨ns, rfl, h⟩ := h
      have e := r.unf
      subst e
      exact ⟨a, ns, rfl, SqL.of h1, k _ _ _ _ (rl.pushS (.v _)) h⟩
    next => exact h.elim
def bAny : List W → (D → Prop) → Prop := fun xs k => match xs with
  | [.lst ws] => asB (fun ns => k (.bl (ns.any id))) ws
  | _ => False
instance : SC c (rAny K) bAny where
  sim {F H σ ρ ts xs ws Q Qp} rl hx h k := by
    unfold bAny at h
    split at h
    next ws =>
      obtain ⟨x, rfl, hv⟩ := hx.one
      obtain ⟨a, us, rfl, h1, r⟩ := hv.lst rl.fr.fh
      obtain ⟨ns, rfl, h⟩ := h
      have e := r.unf
      subst e
      exact ⟨a, ns, rfl, SqL.of h1, k _ _ _ _ (rl.pushS (.v _)) h⟩
    next => exact h.elim
/-- min, max: of two ints, of a list of ints -/
def rMinX (K : PySem.W.Frag) : List V → Hp → VK → Prop := fun xs H Q => (∃ i j, xs = [.int i, .int j] ∧ Q (.int (if j < i then j else i)) H) ∨ rMin K xs H Q
def rMaxX (K : PySem.W.Frag) : List V → Hp → VK → Prop := fun xs H Q => (∃ i j, xs = [.int i, .int j] ∧ Q (.int (if j > i then j else i)) H) ∨ rMax K xs H Q
theorem kmin (K : PySem.W.Frag) {X : L2.Cx} (hc : X.calm = true := by rfl) (h : X.K = K := by rfl) : CallR X (.builtin "min") (rMinX K) := by subst h; exact (call_min2 hc).or (cr_min hc)
theorem kmax (K : PySem.W.Frag) {X : L2.Cx} (hc : X.calm = true := by rfl) (h : X.K = K := by rfl) : CallR X (.builtin "max") (rMaxX K) := by subst h; exact (call_max2 hc).or (cr_max hc)
def bMin : List W → (D → Prop) → Prop := fun xs k => match xs with
  | [.v (.int i), .v (.int j)] => k (.int (min i j))
  | [.lst ws] => asI (fun ns => 0 < ns.length ∧ ∀ m, m ∈ ns → (∀ y, y ∈ ns → m ≤ y) → k (.int m)) ws
  | _ => False
def bMax : List W → (D → Prop) → Prop := fun xs k => match xs with
  | [.v (.int i), .v (.int j)] => k (.int (max i j))
  | [.lst ws] => asI (fun ns => 0 < ns.length ∧ ∀ m, m ∈ ns → (∀ y, y ∈ ns → y ≤ m) → k (.int m)) ws
  | _ => False
theorem min_if (i j : Int) : min i j = if j < i then j else i := by omega
theorem max_if (i j : Int) : max i j = if j > i then j else i := by omega
instance : SC c (rMinX K) bMin where
  sim {F H σ ρ ts xs ws Q Qp} rl hx h k := by
    unfold bMin at h
    split at h
    next i j =>
      obtain ⟨x, y, rfl, hv, hu⟩ := hx.two
      cases hv.flat
      cases hu.flat
      rw [min_if] at h
      exact .inl ⟨i, j, rfl, k _ _ _ _ (rl.pushS (.v _)) h⟩
    next ws =>
      obtain ⟨x, rfl, hv⟩ := hx.one
      obtain ⟨a, us, rfl, h1, r⟩ := hv.lst rl.fr.fh
      obtain ⟨ns, rfl, h0, h⟩ := h
      have e := r.unf
      subst e
      exact .inr ⟨a, ns, rfl, SqL.of h1, h0, fun m h2 h3 => k _ _ _ _ (rl.pushS (.v _)) (h m h2 h3)⟩
    next => exact h.elim
instance : SC c (rMaxX K) bMax where
  sim {F H σ ρ ts xs ws Q Qp} rl hx h k := by
    unfold bMax at h
    split at h
    next i j =>
      obtain ⟨x, y, rfl, hv, hu⟩ := hx.two
      cases hv.flat
      cases hu.flat
      rw [max_if] at h
      exact .inl ⟨i, j, rfl, k _ _ _ _ (rl.pushS (.v _)) h⟩
    next ws =>
      obtain ⟨x, rfl, hv⟩ := hx.one
      obtain ⟨a, us, rfl, h1, r⟩ := hv.lst rl.fr.fh
      obtain ⟨ns, rfl, h0, h⟩ := h
      have e := r.unf
      subst e
      exact .inr ⟨a, ns, rfl, SqL.of h1, h0, fun m h2 h3 => k _ _ _ _ (rl.pushS (.v _)) (h m h2 h3)⟩
    next => exact h.elim
def rTupOf (K : PySem.W.Frag) : List V → Hp → VK → Prop := fun xs H Q => ∃ p ys, xs = [.ref p] ∧ ((SqL K H p ys ∧ ∀ l, H l = none → Q (.ref l) (upd H l (.tup ys))) ∨ (SqT K H p ys ∧ Q (.ref p) H))
def rListOf (K : PySem.W.Frag) : List V → Hp → VK → Prop := fun xs H Q => ∃ p ys, xs = [.ref p] ∧ (SqL K H p ys ∨ SqT K H p ys) ∧ ∀ l, H l = none → Q (.ref l) (upd H l (.lst ys))
theorem ktupOf (K : PySem.W.Frag) {X : L2.Cx} (h : X.K = K := by rfl) : CallR X (.type "tuple") (rTupOf K) := ktup K h
theorem klistOf (K : PySem.W.Frag) {X : L2.Cx} (h : X.K = K := by rfl) : CallR X (.type "list") (rListOf K) := klist K h
def bTup : List W → (D → Prop) → Prop := fun xs k => match xs with
  | [.lst ws] => k (.sh (.tup ws))
  | [.tup ws] => k (.sh (.tup ws))
  | _ => False
def bList : List W → (D → Prop) → Prop := fun xs k => match xs with
  | [.lst ws] => k (.lst ws)
  | [.tup ws] => k (.lst ws)
  | _ => False
instance : SC c (rTupOf K) bTup where
  sim {F H σ ρ ts xs ws Q Qp} rl hx h k := by
    unfold bTup at h
    split at h
    next ws =>
      obtain ⟨x, rfl, hv⟩ := hx.one
      obtain ⟨a, us, rfl, h1, r⟩ := hv.lst rl.fr.fh
      exact ⟨a, us, rfl, .inl ⟨SqL.of h1, fun x hx => k _ _ _ _ ((rl.newS (o := .tup us) hx).pushS (.tup upd_same (r.mono (same_new (rl.fr.fh.free hx))))) h⟩⟩
    next ws =>
      obtain ⟨x, rfl, hv⟩ := hx.one
      obtain ⟨a, us, rfl, g1, h1, r⟩ := hv.tup rl.fr.fh
      exact ⟨a, us, rfl, .inr ⟨SqT.of h1, k _ _ _ _ (rl.pushS (.tup g1 r)) h⟩⟩
    next => exact h.elim
instance : SC c (rListOf K) bList where
  sim {F H σ ρ ts xs ws Q Qp} rl hx h k := by
    unfold bList at h
    split at h
    next ws =>
      obtain ⟨x, rfl, hv⟩ := hx.one
      obtain ⟨a, us, rfl, h1, r⟩ := hv.lst rl.fr.fh
      exact ⟨a, us, rfl, .inl (SqL.of h1), fun x hx => k _ _ _ _ (rl.newO (o := .lst us) hx (own_lst r)) h⟩
    next ws =>
      obtain ⟨x, rfl, hv⟩ := hx.one
      obtain ⟨a, us, rfl, g1, h1, r⟩ := hv.tup rl.fr.fh
      exact ⟨a, us, rfl, .inr (SqT.of h1), fun x hx => k _ _ _ _ (rl.newO (o := .lst us) hx (own_lst r)) h⟩
    next => exact h.elim
def rAbs : List V → Hp → VK → Prop := fun xs H Q => ∃ i, xs = [.int i] ∧ Q (.int (if i < 0 then -i else i)) H
theorem kabs {X : L2.Cx} : CallR X (.builtin "abs") rAbs := call_abs
def bAbs : List W → (D → Prop) → Prop := fun xs k => match xs with
  | [.v (.int i)] => k (.int (if i < 0 then -i else i))
  | _ => False
instance : SC c rAbs bAbs where
  sim {F H σ ρ ts xs ws Q Qp} rl hx h k := by
    unfold bAbs at h
    split at h
    next i =>
      obtain ⟨x, rfl, hv⟩ := hx.one
      cases hv.flat
      exact ⟨i, rfl, k _ _ _ _ (rl.pushS (.v _)) h⟩
    next => exact h.elim
def rIntOf : List V → Hp → VK → Prop := fun xs H Q => (∃ i, xs = [.int i] ∧ Q (.int i) H) ∨ ∃ k, xs = [.bl k] ∧ Q (.int (if k then 1 else 0)) H
theorem kintOf {X : L2.Cx} : CallR X (.type "int") rIntOf := call_int1
def bInt : List W → (D → Prop) → Prop := fun xs k => match xs with
  | [.v (.int i)] => k (.int i)
  | [.v (.bl b)] => k (.int (if b then 1 else 0))
  | _ => False
instance : SC c rIntOf bInt where
  sim {F H σ ρ ts xs ws Q Qp} rl hx h k := by
    unfold bInt at h
    split at h
    next i =>
      obtain ⟨x, rfl, hv⟩ := hx.one
      cases hv.flat
      exact .inl ⟨i, rfl, k _ _ _ _ (rl.pushS (.v _)) h⟩
    next i =>
      obtain ⟨x, rfl, hv⟩ := hx.one
      cases hv.flat
      exact .inr ⟨i, rfl, k _ _ _ _ (rl.pushS (.v _)) h⟩
    next => exact h.elim
end
end R

/-! ## R5: targets, statements, loops, comprehensions -/
namespace R
open PySem PySem.Spec PyProof.Rows L2 G
abbrev TGQ := D → List D → (List D → Prop) → Prop
abbrev TGsQ := List D → List D → (List D → Prop) → Prop
structure EQ where
  nx : List D → Prop
  rt : D → Prop
  bk : List D → Prop := fun _ => False
  ct : List D → Prop := fun _ => False
abbrev TSQ := EQ → List D → Prop
abbrev TIQ := List D → (List D → List W → Prop) → Prop
structure EndsOk {K : PySem.W.Frag} (c : Cx K) (D : Ends) (Dq : EQ) : Prop where
  nx : ∀ {σ ρ F H}, Rel c F H σ ρ [] → Dq.nx ρ → D.nx σ H
  rt : ∀ {v d σ ρ F H}, Rel c F H σ ρ [(v, d)] → Dq.rt d → D.rt v H
  bk : ∀ {σ ρ F H}, Rel c F H σ ρ [] → Dq.bk ρ → D.bk σ H
  ct : ∀ {σ ρ F H}, Rel c F H σ ρ [] → Dq.ct ρ → D.ct σ H
class SS {K : PySem.W.Frag} (c : Cx K) (t : TS) (τ : outParam TSQ) : Prop where
  sim : ∀ {F H : Hp} {σ : L2.St} {ρ : List D} {E : Ends} {Eq : EQ}, Rel c F H σ ρ [] → τ Eq ρ → EndsOk c E Eq → t E σ H
/-- the frame, its shared part as it stands now -/
def Cx.re {K : PySem.W.Frag} (c : Cx K) (F1 : Hp) : Cx K := { c with F0 := F1 }
class ReOk {K : PySem.W.Frag} (c : Cx K) (F1 : Hp) : Prop where
  e0 : Same c.F0 F1
  n0 : ∀ a, c.F0 a = none → c.H0 a ≠ none → F1 a = none
theorem Ow.re {K : PySem.W.Frag} {c : Cx K} {F1 F H : Hp} {S : Addr → Prop} {v : V} {d : D} (h : Ow c F H S v d) : Ow (c.re F1) F H S v d := by
  induction h with
  | sh r => exact .sh r
  | lst s0 m h r => exact .lst s0 m h r
  | dic s0 m h l r => exact .dic s0 m h l r
  | dit s0 m h l r => exact .dit s0 m h l r
  | obj s0 m h l r => exact .obj s0 m h l r
  | set s0 m h => exact .set s0 m h
  | ntup cm s0 m h l _ ih => exact .ntup cm s0 m h l ih
  | mobj s0 m h l r => exact .mobj s0 m h l r
  | raw s0 m h => exact .raw s0 m h
  | un => exact .un
theorem Ow.unre {K : PySem.W.Frag} {c : Cx K} {F1 F H : Hp} {S : Addr → Prop} {v : V} {d : D} (h : Ow (c.re F1) F H S v d) : Ow c F H S v d := h.re (F1 := c.F0)
theorem TsOk.re {K : PySem.W.Frag} {c : Cx K} {F1 F H : Hp} {om : Om} : ∀ {ts : List (V × D)}, TsOk c F H om ts → TsOk (c.re F1) F H om ts
  | [], _ => trivial
  | _ :: _, h => ⟨h.1.re, h.2.re⟩
theorem Rel.re {K : PySem.W.Frag} {c : Cx K} {F1 F H : Hp} {σ : L2.St} {ρ : List D} {ts : List (V × D)} (r : Rel c F H σ ρ ts) (e : Same F1 F) (e0 : Same c.F0 F1) : Rel (c.re F1) F H σ ρ ts := by
  obtain ⟨om, o, s, t⟩ := r.ex
  refine ⟨⟨r.fr.bg, r.fr.fb, e, r.fr.fh, fun a h1 h2 => r.fr.nw a (e0.free h1) h2, r.fr.kp, r.fr.al, r.fr.nm⟩, r.len, om, ⟨o.nb, o.nf, o.th, o.mn⟩, fun i d h => ?_, t.re⟩
  rcases s i d h with q | ⟨v, q1, q2⟩
  · exact .inl q
  · exact .inr ⟨v, q1, q2.re⟩
theorem Rel.unre {K : PySem.W.Frag} {c : Cx K} {F1 F H : Hp} {σ : L2.St} {ρ : List D} {ts : List (V × D)} (r : Rel (c.re F1) F H σ ρ ts) (e0 : Same c.F0 F1) (n0 : ∀ a, c.F0 a = none → c.H0 a ≠ none → F1 a = none) : Rel c F H σ ρ ts := by
  obtain ⟨om, o, s, t⟩ := r.ex
  refine ⟨⟨r.fr.bg, r.fr.fb, e0.trans r.fr.ff, r.fr.fh, fun a h1 h2 => r.fr.nw a (n0 a h1 h2) h2, r.fr.kp, r.fr.al, r.fr.nm⟩, r.len, om, ⟨o.nb, o.nf, o.th, o.mn⟩, fun i d h => ?_, TsOk.re (c := c.re F1) (F1 := c.F0) t⟩
  rcases s i d h with q | ⟨v, q1, q2⟩
  · exact .inl q
  · exact .inr ⟨v, q1, q2.unre⟩
/-- the slots of sl alone were stored to -/
def Only (sl : List Nat) (σ σ' : L2.St) : Prop := ∀ vs : List Nat, (∀ i ∈ sl, i ∈ vs) → wipe σ' vs = wipe σ vs
class SG {K : PySem.W.Frag} (c : Cx K) (g : TG) (sl : outParam (List Nat)) (τ : outParam TGQ) : Prop where
  sim : ∀ {F H : Hp} {σ : L2.St} {ρ : List D} {ts : List (V × D)} {v : V} {d : D} {Q : L2.St → Hp → Prop} {Qp : List D → Prop}, Rel c F H σ ρ ((v, d) :: ts) → τ d ρ Qp → (∀ σ' ρ' F' H', Rel c F' H' σ' ρ' ts → Only sl σ σ' → Qp ρ' → Q σ' H') → g v σ H Q
class SGs {K : PySem.W.Frag} (c : Cx K) (g : TGs) (sl : outParam (List Nat)) (n : outParam Nat) (τ : outParam TGsQ) : Prop where
  sim : ∀ {F H : Hp} {σ : L2.St} {ρ : List D} {ts : List (V × D)} {vs : List V} {ds : List D} {Q : L2.St → Hp → Prop} {Qp : List D → Prop}, Rel c F H σ ρ (vs.zip ds ++ ts) → vs.length = ds.length → τ ds ρ Qp → (∀ σ' ρ' F' H', Rel c F' H' σ' ρ' ts → Only sl σ σ' → Qp ρ' → Q σ' H') → g vs σ H Q
section
variable {K : PySem.W.Frag} {c : Cx K}
theorem Only.refl {sl : List Nat} (σ : L2.St) : Only sl σ σ := fun _ _ => rfl
theorem Only.trans {a b : List Nat} {σ σ1 σ2 : L2.St} (h : Only a σ σ1) (k : Only b σ1 σ2) : Only (a ++ b) σ σ2 := fun vs hv => (k vs fun i hi => hv i (List.mem_append_right _ hi)).trans (h vs fun i hi => hv i (List.mem_append_left _ hi))
theorem wipe_get {σ : L2.St} {i : Nat} : ∀ {vs : List Nat}, (wipe σ vs)[i]? = if i ∈ vs then (σ[i]?).map fun _ => none else σ[i]?
  | [] => by simp [wipe]
  | v :: vs => by
    rw [wipe, List.getElem?_set]
    have ih := wipe_get (σ := σ) (i := i) (vs := vs)
    by_cases h : v = i
    · subst h
      rw [if_pos rfl, if_pos List.mem_cons_self, wipe_length]
      by_cases hl : v < σ.length
      · rw [if_pos hl, List.getElem?_eq_getElem hl]; rfl
      · rw [if_neg hl, List.getElem?_eq_none (by omega)]; rfl
    · rw [if_neg h, ih]
      have e : (i ∈ v :: vs) = (i ∈ vs) := by simp [Ne.symm h]
      simp only [e]
theorem Only.set {i : Nat} {σ : L2.St} {o : Option V} : Only [i] σ (σ.set i o) := fun vs hv => by
  apply List.ext_getElem?
  intro j
  rw [wipe_get, wipe_get]
  by_cases h : i = j
  · subst h
    rw [if_pos (hv i (List.mem_singleton.mpr rfl)), if_pos (hv i (List.mem_singleton.mpr rfl))]
    by_cases hl : i < σ.length
    · rw [List.getElem?_set_self hl, List.getElem?_eq_getElem hl]; rfl
    · rw [List.getElem?_eq_none (by rw [List.length_set]; omega), List.getElem?_eq_none (by omega)]
  · rw [List.getElem?_set_ne h]
/-! ### targets -/
def gqName (i : Nat) : TGQ := fun d ρ Q => Q (ρ.set i d)
instance {i : Nat} : SG c (gName i) [i] (gqName i) where
  sim {F H σ ρ ts v d Q Qp} rl h k := k _ _ _ _ (rl.store i) Only.set h
def gqNil : TGsQ := fun ds ρ Q => match ds with
  | [] => Q ρ
  | _ => False
def gqCons (t : TGQ) (u : TGsQ) : TGsQ := fun ds ρ Q => match ds with
  | d :: ds => t d ρ fun ρ1 => u ds ρ1 Q
  | _ => False
instance : SGs c gNil [] 0 gqNil where
  sim {F H σ ρ ts vs ds Q Qp} rl hl h k := by
    unfold gqNil at h
    split at h
    next =>
      have e : vs = [] := List.length_eq_zero_iff.mp hl
      subst e
      exact ⟨rfl, k _ _ _ _ rl (Only.refl _) h⟩
    next => exact h.elim
instance {t : TG} {u : TGs} {sa sb : List Nat} {n : Nat} {τa : TGQ} {τb : TGsQ} [SG c t sa τa] [SGs c u sb n τb] : SGs c (gCons t u) (sa ++ sb) (n + 1) (gqCons τa τb) where
  sim {F H σ ρ ts vs ds Q Qp} rl hl h k := by
    unfold gqCons at h
    split at h
    next d ds =>
      match vs, hl with
      | v :: vs, hl =>
        exact ⟨v, vs, rfl, SG.sim (g := t) (c := c) rl h fun σ1 ρ1 F1 H1 r1 o1 q1 => SGs.sim (g := u) r1 (by simpa using hl) q1 fun σ2 ρ2 F2 H2 r2 o2 q2 => k _ _ _ _ r2 (o1.trans o2) q2⟩
    next => exact h.elim
def gqTup (n : Nat) (t : TGsQ) : TGQ := fun d ρ Q => match d with
  | .sh (.tup ws) => ws.length = n ∧ t (ws.map D.sh) ρ Q
  | .ntup ds => ds.length = n ∧ t ds ρ Q
  | _ => False
theorem Rel.pushSL {F H : Hp} {σ : L2.St} {ρ : List D} {ts : List (V × D)} (r : Rel c F H σ ρ ts) : ∀ {us : List V} {ws : List W}, RepL K c.b F us ws → Rel c F H σ ρ (us.zip (ws.map D.sh) ++ ts)
  | _, _, .nil => r
  | _, _, .cons a b => (r.pushSL b).pushS a
theorem Rel.unpack {F H : Hp} {σ : L2.St} {ρ : List D} {ts : List (V × D)} {v : V} {ds : List D} (r : Rel c F H σ ρ ((v, .ntup ds) :: ts)) : ∃ a us, v = .ref a ∧ H a = some (.tup us) ∧ us.length = ds.length ∧ Rel c F H σ ρ (us.zip ds ++ ts) := by
  obtain ⟨om, o, s, t1, t2⟩ := r.ex
  cases t1 with
  | @ntup _ a us _ cm s0 m h l k =>
    have lt2 : ∀ (us : List V) (ds : List D), us.length = ds.length → (us.zip ds).length = ds.length := fun us ds e => by rw [List.length_zip, e, Nat.min_self]
    let om' : Om := fun x => if om x = some (.inr ts.length) then (if x = a then none else if cm x < ds.length then some (.inr (ts.length + (ds.length - 1 - cm x))) else none) else if (match om x with | some (.inr j) => decide (ts.length ≤ j) | _ => false) = true then none else om x
    have sub : ∀ x i, om' x = some i → ∃ j, om x = some j := fun x i q => by
      cases e : om x with
      | none =>
        have q' : om' x = none := by
          show (if om x = some (.inr ts.length) then _ else _) = none
          rw [e, if_neg (fun z => nomatch z)]
          rfl
        rw [q'] at q; cases q
      | some j => exact ⟨j, rfl⟩
    have kids : ∀ (us' : List V) (ds' : List D) (n : Nat), us'.length = ds'.length → ds'.length + n = ds.length → (∀ (j : Nat) v d, us'[j]? = some v → ds'[j]? = some d → Ow c F H (fun x => om x = some (.inr ts.length) ∧ x ≠ a ∧ cm x = n + j) v d) → TsOk c F H om' ts → TsOk c F H om' (us'.zip ds' ++ ts) := by
      intro us'
      induction us' with
      | nil => intro ds' n e _ _ ht; exact ht
      | cons u us' ih =>
        intro ds' n e en hk ht
        match ds', e with
        | d :: ds', e =>
          have e' : us'.length = ds'.length := by simpa using e
          refine ⟨?_, ih ds' (n + 1) e' (by rw [← en]; simp; omega) (fun j v d h1 h2 => ?_) ht⟩
          · refine (hk 0 u d rfl rfl).mono (Same.refl _) (fun _ _ _ z => z) fun x q => ?_
            show (if om x = some (Sum.inr ts.length) then _ else _) = some (Sum.inr (us'.zip ds' ++ ts).length)
            have hc : cm x = n := q.2.2
            have hlt : cm x < ds.length := by rw [hc, ← en]; simp
            rw [if_pos q.1, if_neg q.2.1, if_pos hlt, List.length_append, lt2 us' ds' e', hc, ← en]
            congr 2
            simp
            omega
          · refine (hk (j + 1) v d (by simpa using h1) (by simpa using h2)).mono (Same.refl _) (fun _ _ _ z => z) fun x q => ⟨q.1, q.2.1, ?_⟩
            rw [q.2.2]; omega
    refine ⟨a, us, rfl, h, l, r.fr, r.len, om', ⟨fun x i q => ?_, fun x i q => ?_, fun x i q => ?_, fun x i q => ?_⟩, fun i d q => (s i d q).mono (Same.refl _) (fun _ _ _ z => z) fun x z => ?_, kids us ds 0 l (by omega) (fun j v d h1 h2 => (k j v d h1 h2).mono (Same.refl _) (fun _ _ _ z => z) fun x q => ⟨q.1, q.2.1, by rw [q.2.2]; omega⟩) (t2.mono (Same.refl _) (fun _ _ _ _ _ z => z) fun x j lt z => ?_)⟩
    · obtain ⟨j, e⟩ := sub x i q; exact o.nb x j e
    · obtain ⟨j, e⟩ := sub x i q; exact o.nf x j e
    · obtain ⟨j, e⟩ := sub x i q; exact o.th x j e
    · obtain ⟨j, e⟩ := sub x i q; exact o.mn x j e
    · show (if om x = some (.inr ts.length) then _ else _) = _
      rw [z, if_neg (fun y => nomatch y)]
      rfl
    · show (if om x = some (.inr ts.length) then _ else _) = _
      rw [z, if_neg (fun y => by cases y; omega)]
      show (if decide (ts.length ≤ j) = true then none else _) = _
      rw [if_neg (by simpa using lt)]
instance {n m : Nat} {t : TGs} {sl : List Nat} {τ : TGsQ} [SGs c t sl m τ] : SG c (gTup K n t) sl (gqTup n τ) where
  sim {F H σ ρ ts v d Q Qp} rl h k := by
    unfold gqTup at h
    split at h
    next ws =>
      have hr := rl.topS
      cases hr with
      | @tup a us _ e r =>
        exact ⟨a, us, rfl, SqT.of (rl.fr.fh _ _ e), by rw [r.len]; exact h.1, SGs.sim (g := t) (rl.pop.pushSL r) (by rw [List.length_map, r.len]) h.2 k⟩
    next ds =>
      obtain ⟨a, us, rfl, e, l, r⟩ := rl.unpack
      exact ⟨a, us, rfl, SqT.of e, by rw [l]; exact h.1, SGs.sim (g := t) r l h.2 k⟩
    next => exact h.elim
/-- x[i] = v, x a name whose list is its own -/
def gqSub (s : Nat) (ti : TQ) : TGQ := fun d ρ Q => lookD d fun w => match ρ[s]? with
  | some (.lst _) => ti ρ fun ρ1 di => match di, ρ1[s]? with
    | .sh (.v (.int i)), some (.lst ws) => match ixN ws.length i with
      | some j => Q (ρ1.set s (.lst (ws.set j w)))
      | none => False
    | _, _ => False
  | _ => False
instance {s : Nat} {ti : TE} {τ : TQ} [SE c ti τ] : SG c (gSub (tVar s) ti rSetL) [] (gqSub s τ) where
  sim {F H σ ρ ts v d Q Qp} rl h k := by
    unfold gqSub at h
    obtain ⟨w, hw, h⟩ := lookD_ex h
    obtain ⟨F1, e1, r1⟩ := rl.frzT hw
    split at h
    next ws0 es =>
      obtain ⟨x, S, h1, h2⟩ := r1.slot es (fun z => nomatch z)
      refine ⟨x, h1, SE.sim (t := ti) r1 h fun v2 di ρ2 F2 H2 r2 q2 => ?_⟩
      split at q2
      next i ws es2 =>
        split at q2
        next j hj =>
          obtain ⟨x', S', h3, h4⟩ := r2.slot es2 (fun z => nomatch z)
          rw [h1] at h3
          cases h3
          cases h4 with
          | @lst _ a us _ s0 m ha rr =>
            refine ⟨a, us, i, j, rfl, r2.topS.flat, ha, by rw [rr.len]; exact hj, ?_⟩
            have rv := r2.pop.topS
            have r3 : Rel c F2 (upd H2 a (.lst (us.set j v))) σ (ρ2.set s (.lst (ws.set j w))) ts := r2.pop.pop.mutS es2 (fun z => nomatch z) h1 fun T o => by
              cases o with
              | lst s0' m' ha' rr' =>
                rw [ha] at ha'
                cases ha'
                exact ⟨s0', .lst s0' m' upd_same (rr'.set j rv)⟩
            exact k _ _ _ _ r3 (Only.refl _) q2
        next => exact q2.elim
      next => exact q2.elim
    next => exact h.elim
end
end R

/-! ## RZ: zip of lists and tuples; a list, a tuple or a text that is walked -/
namespace R
open PySem PySem.Spec PyProof.Rows L2 G
/-- what zip goes over: lists and tuples -/
def ItzQ (K : PySem.W.Frag) (t u : Bool) (a b : Addr) : It :=
  ⟨fun i H => ∃ (xs ys : List V) (x y : V), LT K t a H xs ∧ LT K u b H ys ∧ xs[i]? = some x ∧ ys[i]? = some y,
    fun i H v H' => ∃ T x y, v = .ref T ∧ H T = none ∧ H' = upd H T (.tup [x, y]) ∧ (∀ xs, LT K t a H xs → xs[i]? = some x) ∧ ∀ ys, LT K u b H ys → ys[i]? = some y,
    fun i H => ∃ xs ys : List V, LT K t a H xs ∧ LT K u b H ys ∧ (xs.length = i ∧ i ≤ ys.length ∨ ys.length = i ∧ i ≤ xs.length)⟩
theorem turn_zipQ {P : Program} {w : World} {K : PySem.W.Frag} {elts : List Expr} {kk : Nat} {tpos : Pos} {t u : Bool} {a b z TI TO j1 j2 : Addr} (D : ZipSep2 z TI TO j1 j2 [j1, a] [j2, b]) (na : a ≠ j1) (nb : b ≠ j2) :
    Turn P w K (.Tuple elts kk tpos) (ItzQ K t u a b) [z, TI, TO, j1, j2] z (fun i h => IsZip h z TI TO .none ∧ IsPair h TI (.ref j1) (.ref j2) ∧ (∃ x y, IsPair h TO x y) ∧ ItAt t h j1 a i ∧ ItAt u h j2 b i) where
  mem := by simp
  obj := fun i h st c hc => by
    obtain ⟨q1, q2, ⟨x, y, q3⟩, q4, q4'⟩ := st
    have q5 : ∃ o, h.get? j1 = some o ∧ ∀ v, o.data ≠ .cell v := by
      cases t
      · obtain ⟨o, e, _, d⟩ := (show h.IsListIter j1 a i from q4)
        exact ⟨o, e, fun v q => by rw [d] at q; cases q⟩
      · obtain ⟨o, e, _, d⟩ := (show h.IsTupleIter j1 a i from q4)
        exact ⟨o, e, fun v q => by rw [d] at q; cases q⟩
    obtain ⟨o1, e1, d1⟩ := q5
    have q5' : ∃ o, h.get? j2 = some o ∧ ∀ v, o.data ≠ .cell v := by
      cases u
      · obtain ⟨o, e, _, d⟩ := (show h.IsListIter j2 b i from q4')
        exact ⟨o, e, fun v q => by rw [d] at q; cases q⟩
      · obtain ⟨o, e, _, d⟩ := (show h.IsTupleIter j2 b i from q4')
        exact ⟨o, e, fun v q => by rw [d] at q; cases q⟩
    obtain ⟨o2, e2, d2⟩ := q5'
    rcases (by simpa using hc : c = z ∨ c = TI ∨ c = TO ∨ c = j1 ∨ c = j2) with rfl | rfl | rfl | rfl | rfl
    · exact ⟨_, q1, fun v q => nomatch q⟩
    · exact ⟨_, q2, fun v q => nomatch q⟩
    · exact ⟨_, q3, fun v q => nomatch q⟩
    · exact ⟨o1, e1, fun v q => d1 v q⟩
    · exact ⟨o2, e2, fun v q => d2 v q⟩
  keep := fun i h h' st k => by
    obtain ⟨q1, q2, ⟨x, y, q3⟩, q4, q5⟩ := st
    refine ⟨k z (by simp) _ q1, k TI (by simp) _ q2, ⟨x, y, k TO (by simp) _ q3⟩, ?_, ?_⟩
    · cases t
      · exact Heap.IsListIter.at (show h.IsListIter j1 a i from q4) fun o q => k j1 (by simp) o q
      · exact Heap.IsTupleIter.at (show h.IsTupleIter j1 a i from q4) fun o q => k j1 (by simp) o q
    · cases u
      · exact Heap.IsListIter.at (show h.IsListIter j2 b i from q5) fun o q => k j2 (by simp) o q
      · exact Heap.IsTupleIter.at (show h.IsTupleIter j2 b i from q5) fun o q => k j2 (by simp) o q
  item := by
    intro X hP hw hK hc i pins s σ H E I hf st hg
    subst hP hw hK
    obtain ⟨q1, q2, ⟨x0, y0, q3⟩, q4, q5⟩ := st
    obtain ⟨xs, ys, x, y, sx, sy, hx, hy⟩ := hg
    obtain ⟨its, rv, p, _⟩ := lt_items I sx
    obtain ⟨its2, rv2, p2, _⟩ := lt_items I sy
    obtain ⟨u0, hu, ru⟩ := rv.get hx
    obtain ⟨u2, hu2, ru2⟩ := rv2.get hy
    have zlt : z < s.heap.objs.size := Heap.lt_size q1
    have D1 := drawsLT (P := X.prog) (w := X.w) (A := X.A.in1) t (I.ok.hd hc) j1 a na its.toArray
    have D2 := drawsLT (P := X.prog) (w := X.w) (A := X.A.in1) u (I.ok.hd hc) j2 b nb its2.toArray
    refine wpAny_pyNext_zipD2_item (A := X.A) D D1 D2 q1 q2 q3 ⟨q4, p⟩ ⟨q5, p2⟩ (by rw [List.size_toArray]; exact (List.getElem?_eq_some_iff.mp hu).1) (by rw [List.size_toArray]; exact (List.getElem?_eq_some_iff.mp hu2).1) fun x1 x2 g tk y1 y2 z' TO' s1 s2 hT hsz hk => ?_
    have ex1 : x1 = u0 := by
      have := y1
      simp only [List.getElem?_toArray, hu] at this
      exact (Option.some.inj this).symm
    have ex2 : x2 = u2 := by
      have := y2
      simp only [List.getElem?_toArray, hu2] at this
      exact (Option.some.inj this).symm
    subst ex1 ex2
    refine ⟨_, rfl, wpAny_letOwnedTupleGo_zip (s := { s with heap := g, toks := tk }) z' fun g2 z2 sb => ?_⟩
    have hT2 : g2.get? s.heap.objs.size = some { cls := .type "tuple", data := .seq #[x1, x2] } := (sb.2 _ (Nat.ne_of_gt zlt)).trans hT
    have new : ObjOk X.prog X.w (upd H s.heap.objs.size (.tup [x, y])) g2 s.heap.objs.size (.tup [x, y]) :=
      ⟨by show 2 ≤ sizeLine; decide, [x1, x2], .cons ru (.cons ru2 .nil), ⟨_, hT2, rfl, _, rfl⟩⟩
    have kp : ∀ c o, c ∉ [z, TI, TO, j1, j2] → s.heap.get? c = some o → g2.get? c = some o := fun c o hb q => by
      simp only [List.mem_cons, List.not_mem_nil, or_false, not_or] at hb
      exact (sb.2 c hb.1).trans (hk c o hb.1 hb.2.2.1 hb.2.2.2.1 hb.2.2.2.2 q)
    have I1 : Inv X pins σ (upd H s.heap.objs.size (.tup [x, y])) { s with heap := g2, toks := tk } := I.turnedNew (t' := tk) (ch := [z, TI, TO, j1, j2]) kp hf (Nat.le_refl _) new
    refine ⟨.ref s.heap.objs.size, _, I1, rfl, ⟨_, x, y, rfl, I.hok.fresh (Nat.le_refl _), rfl, fun l hl => by rw [lt_inj I hl sx]; exact hx, fun l hl => by rw [lt_inj I hl sy]; exact hy⟩, ⟨z2, ?_, ⟨x1, x2, ?_⟩, ?_, ?_⟩, fun c hcm => ?_⟩
    · exact (sb.2 _ D.TIz).trans (hk _ _ D.TIz D.TITO D.TIi1 D.TIi2 q2)
    · exact (sb.2 _ D.TOz).trans TO'
    · have w1 := s1.1
      cases t
      · exact Heap.IsListIter.at (show g.IsListIter j1 a (i + 1) from w1) fun o q => (sb.2 _ D.zi1.symm).trans q
      · exact Heap.IsTupleIter.at (show g.IsTupleIter j1 a (i + 1) from w1) fun o q => (sb.2 _ D.zi1.symm).trans q
    · have w2 := s2.1
      cases u
      · exact Heap.IsListIter.at (show g.IsListIter j2 b (i + 1) from w2) fun o q => (sb.2 _ D.zi2.symm).trans q
      · exact Heap.IsTupleIter.at (show g.IsTupleIter j2 b (i + 1) from w2) fun o q => (sb.2 _ D.zi2.symm).trans q
    · have clt : c < s.heap.objs.size := by
        rcases (by simpa using hcm : c = z ∨ c = TI ∨ c = TO ∨ c = j1 ∨ c = j2) with rfl | rfl | rfl | rfl | rfl
        · exact zlt
        · exact Heap.lt_size q2
        · exact Heap.lt_size q3
        · cases t
          · obtain ⟨_, e, _⟩ := (show s.heap.IsListIter _ a i from q4); exact Heap.lt_size e
          · obtain ⟨_, e, _⟩ := (show s.heap.IsTupleIter _ a i from q4); exact Heap.lt_size e
        · cases u
          · obtain ⟨_, e, _⟩ := (show s.heap.IsListIter _ b i from q5); exact Heap.lt_size e
          · obtain ⟨_, e, _⟩ := (show s.heap.IsTupleIter _ b i from q5); exact Heap.lt_size e
      rw [upd_ne (Nat.ne_of_lt clt)]
      exact (hf c hcm).1
  done := by
    intro X hP hw hK hc i pins s σ H E I hf st hg
    subst hP hw hK
    obtain ⟨q1, q2, ⟨x0, y0, q3⟩, q4, q5⟩ := st
    obtain ⟨xs, ys, sx, sy, hend⟩ := hg
    obtain ⟨its, rv, p, _⟩ := lt_items I sx
    obtain ⟨its2, rv2, p2, _⟩ := lt_items I sy
    have l1 := rv.length
    have l2 := rv2.length
    have D1 := drawsLT (P := X.prog) (w := X.w) (A := X.A.in1) t (I.ok.hd hc) j1 a na its.toArray
    have D2 := drawsLT (P := X.prog) (w := X.w) (A := X.A.in1) u (I.ok.hd hc) j2 b nb its2.toArray
    refine wpAny_pyNext_zipD2_end (A := X.A) D D1 D2 q1 q2 q3 ⟨q4, p⟩ ⟨q5, p2⟩ (by rw [List.size_toArray]; omega) (by rw [List.size_toArray]; omega) (by rw [List.size_toArray, List.size_toArray]; omega) fun g tk hk => ⟨rfl, I.turnedL (t' := tk) (ch := [z, TI, TO, j1, j2]) (fun c o hb q => ?_) hf⟩
    simp only [List.mem_cons, List.not_mem_nil, or_false, not_or] at hb
    exact hk c o hb.1 hb.2.2.1 hb.2.2.2.1 hb.2.2.2.2 q
  self := fun A i s Q E st h => wpAny_pyIter_zip st.1 h
def iZipQ (K : PySem.W.Frag) (ta : TA) : TI := fun σ H R => ta σ H fun vs H1 => ∃ t u a b xs ys, vs = [.ref a, .ref b] ∧ LT K t a H1 xs ∧ LT K u b H1 ys ∧ R (ItzQ K t u a b) H1
theorem beginsLT2 (t : Bool) (a : Addr) (its : Array Value) : ∃ o, Begins (.ref a) o (fun h => SeqAt t h a its) ∧ ∀ (h : Heap) (j : Addr), h.get? j = some o → ItAt t h j a 0 := by
  cases t
  · exact ⟨_, begins_list a its, fun h j e => ⟨_, e, rfl, rfl⟩⟩
  · exact ⟨_, begins_tuple a its, fun h j e => ⟨_, e, rfl, rfl⟩⟩
theorem pi_zipQ {X : L2.Cx} {e e2 : Expr} {ta : TA} {p pos tpos : Pos} {elts : List Expr} {kk : Nat} (hg : Gl X "zip") (hm : X.mg "zip" = none) (ha : PA X [e, e2] ta)
    (hs : starEach [e, e2] X.env = (false, eval e X.env) :: starEach [e2] X.env := by rfl) (hpl : (backTo pos (starEach [e2] X.env)).any (·.1) = false := by rfl) :
    PI X (.Tuple elts kk tpos) (.Call (.Name "zip" p) [e, e2] [] pos) (iZipQ X.K ta) := by
  refine ⟨fun pins s σ H R I h => Call_ (ld_blt I hg hm PyProof.Rows.boot_zip (PyProof.Rows.callWith_type1 (thn (ha.run pos pins s σ H _ I h) fun us s1 hv => ?_) hs hpl))⟩
  obtain ⟨vs, H1, I1, r1, t, u, a, b, xs, ys, rfl, sx, sy, q⟩ := hv
  cases r1 with
  | cons r rr =>
  cases rr with
  | cons r' rr =>
  cases rr
  cases r
  cases r'
  obtain ⟨its, rv, p1, _⟩ := lt_items I1 sx
  obtain ⟨its2, rv2, p2, _⟩ := lt_items I1 sy
  obtain ⟨o1, B1, k1⟩ := beginsLT2 t a its.toArray
  obtain ⟨o2, B2, k2⟩ := beginsLT2 u b its2.toArray
  have la := seq_lt p1
  have lb : b < s1.heap.objs.size := seq_lt p2
  refine zip_begins2 B1 B2 p1 p2 fun g q1 q2 q3 q4 q5 hsz hk => wpAny_pyIter_zip q1 ?_
  have I2 : Inv X pins σ H1 { s1 with heap := g } := I1.kept (t' := s1.toks) hk
  refine ⟨s1.heap.objs.size + 4, [s1.heap.objs.size + 4, s1.heap.objs.size + 2, s1.heap.objs.size + 3, s1.heap.objs.size, s1.heap.objs.size + 1], _, _, H1, rfl, I2, turn_zipQ (t := t) (u := u) (zip_sep2 (fp1 := [a]) (fp2 := [b]) (fun c hc => by rw [List.mem_singleton.mp hc]; exact la) (fun c hc => by rw [List.mem_singleton.mp hc]; exact lb)) (Nat.ne_of_lt la) (Nat.ne_of_lt (Nat.lt_succ_of_lt lb)), ⟨q1, q2, ⟨_, _, q3⟩, k1 g _ q4, k2 g _ q5⟩, fun c hc => ?_, q⟩
  have hle : s1.heap.objs.size ≤ c := by
    rcases (by simpa using hc : c = s1.heap.objs.size + 4 ∨ c = s1.heap.objs.size + 2 ∨ c = s1.heap.objs.size + 3 ∨ c = s1.heap.objs.size ∨ c = s1.heap.objs.size + 1) with rfl | rfl | rfl | rfl | rfl
    all_goals first | exact Nat.le_add_right _ _ | exact Nat.le_refl _
  exact I1.fpOk hle (I1.hok.fresh hle)
theorem kzip (K : PySem.W.Frag) {X : L2.Cx} {e e2 : Expr} {ta : TA} {p pos tpos : Pos} {elts : List Expr} {kk : Nat} (hg : Gl X "zip") (hm : X.mg "zip" = none) (ha : PA X [e, e2] ta) (h : X.K = K := by rfl)
    (hs : starEach [e, e2] X.env = (false, eval e X.env) :: starEach [e2] X.env := by rfl) (hpl : (backTo pos (starEach [e2] X.env)).any (·.1) = false := by rfl) :
    PI X (.Tuple elts kk tpos) (.Call (.Name "zip" p) [e, e2] [] pos) (iZipQ K ta) := by subst h; exact pi_zipQ hg hm ha hs hpl
/-- a list, a tuple, a text -/
def iSeq (K : PySem.W.Frag) (tl : TE) : TI := fun σ H R => tl σ H fun x H1 => (∃ a, x = .ref a ∧ (∃ xs, SqL K H1 a xs) ∧ R (Itl K a) H1) ∨ (∃ a, x = .ref a ∧ (∃ xs, SqT K H1 a xs) ∧ R (Itt K a) H1) ∨ ∃ z, x = .str z ∧ R (Its z) H1
theorem pi_seq {X : L2.Cx} {tg l : Expr} {tl : TE} (hl : PE X l tl) : PI X tg l (iSeq X.K tl) := by
  refine ⟨fun pins s σ H R I h => ?_⟩
  refine thn (hl.run pins s σ H _ I h) fun v s1 ⟨x, H1, I1, r1, q1⟩ => ?_
  rcases q1 with ⟨a, e, ⟨xs, hq⟩, q⟩ | ⟨a, e, ⟨xs, hq⟩, q⟩ | ⟨z, e, q⟩
  · subst e
    cases r1
    obtain ⟨its, rv, p, hz⟩ := I1.list hq
    refine wpAny_pyIter_list p.isList ?_
    refine ⟨s1.heap.objs.size, [s1.heap.objs.size], _, _, H1, rfl, I1.kept (t' := s1.toks) fun b o e => Heap.get?_push_of_some _ e, turn_list a _, ⟨_, Heap.get?_push_size _ rfl, rfl, rfl⟩, fun b hb => ?_, q⟩
    have e : b = s1.heap.objs.size := by simpa using hb
    subst e
    exact I1.fpOk (Nat.le_refl _) (I1.hok.fresh (Nat.le_refl _))
  · subst e
    cases r1
    obtain ⟨its, rv, p, hz⟩ := I1.tuple hq
    refine wpAny_pyIter_tuple (show s1.heap.IsTuple a its.toArray from p) ?_
    refine ⟨s1.heap.objs.size, [s1.heap.objs.size], _, _, H1, rfl, I1.kept (t' := s1.toks) fun b o e => Heap.get?_push_of_some _ e, turn_tuple a _, ⟨_, Heap.get?_push_size _ rfl, rfl, rfl⟩, fun b hb => ?_, q⟩
    have e : b = s1.heap.objs.size := by simpa using hb
    subst e
    exact I1.fpOk (Nat.le_refl _) (I1.hok.fresh (Nat.le_refl _))
  · subst e
    obtain ⟨t, rfl⟩ := r1
    cases ha : z.cps.all (· < 128)
    · exact wpAny_pyIter_wide ha (pi_one (tk := s1.toks) I1 _ (turn_str _ z t "str_iterator" (.inr rfl)) ⟨_, Heap.get?_push_size _ rfl, rfl, rfl⟩ q)
    · exact wpAny_pyIter_ascii ha (pi_one (tk := s1.toks) I1 _ (turn_str _ z t "str_ascii_iterator" (.inl rfl)) ⟨_, Heap.get?_push_size _ rfl, rfl, rfl⟩ q)
theorem kseq (K : PySem.W.Frag) {X : L2.Cx} {tg l : Expr} {tl : TE} (hl : PE X l tl) (h : X.K = K := by rfl) : PI X tg l (iSeq K tl) := by subst h; exact pi_seq hl
end R

/-! ## R6: statements, loops, comprehensions -/
namespace R
open PySem PySem.Spec PyProof.Rows L2 G
/-- in turn i: the thing as it stands, or a new tuple of such -/
def YW (K : PySem.W.Frag) (b : Addr) (F1 : Hp) (ws : List W) : Nat → Hp → V → Hp → Prop := fun i H x H' => ∃ w, ws[i]? = some w ∧ ((H' = H ∧ Rep K b F1 x w) ∨ ∃ T us us', x = .ref T ∧ H T = none ∧ H' = upd H T (.tup us) ∧ w = .tup us' ∧ RepL K b F1 us us')
abbrev ItOk {K : PySem.W.Frag} (c : Cx K) (J : It) (F1 : Hp) (ws : List W) : Prop := Walk J ws.length (fun H => Same F1 H) (YW K c.b F1 ws)
class SI {K : PySem.W.Frag} (c : Cx K) (t : TI) (τ : outParam TIQ) : Prop where
  sim : ∀ {F H : Hp} {σ : L2.St} {ρ : List D} {ts : List (V × D)} {R : It → Hp → Prop} {Qp : List D → List W → Prop}, Rel c F H σ ρ ts → τ ρ Qp → (∀ J ws ρ' F' H', Rel c F' H' σ ρ' ts → ItOk c J F' ws → Qp ρ' ws → R J H') → t σ H R
section
variable {K : PySem.W.Frag} {c : Cx K}
theorem get_lt {α : Type} {xs : List α} {i : Nat} {x : α} (h : xs[i]? = some x) : i < xs.length := (List.getElem?_eq_some_iff.mp h).1
/-! ### what is walked -/
def strW (z : Str) : List W := z.cps.toList.map fun ch => W.v (.str ⟨#[ch]⟩)
def iqSeq (t : TQ) : TIQ := fun ρ Q => t ρ fun ρ1 d => lookD d fun w => match w with
  | .lst ws => Q ρ1 ws
  | .tup ws => Q ρ1 ws
  | .v (.str z) => Q ρ1 (strW z)
  | _ => False
theorem walk_repl {F : Hp} {a : Addr} {us : List V} {ws : List W} (e : F a = some (.lst us)) (r : RepL K c.b F us ws) : ItOk c (Itl K a) F ws := by
  have w : Walk (Itl K a) us.length (fun H => SqL K H a us) (YAt us) := walk_list
  rw [r.len] at w
  refine w.mono (fun H h => SqL.of (h _ _ e)) fun i H x H' hi h y => ?_
  obtain ⟨rfl, q⟩ := y
  obtain ⟨w, hw, rw⟩ := r.getV q
  exact ⟨w, hw, .inl ⟨rfl, rw⟩⟩
theorem walk_rept {F : Hp} {a : Addr} {us : List V} {ws : List W} (e : F a = some (.tup us)) (r : RepL K c.b F us ws) : ItOk c (Itt K a) F ws := by
  have w : Walk (Itt K a) us.length (fun H => SqT K H a us) (YAt us) := walk_tup
  rw [r.len] at w
  refine w.mono (fun H h => SqT.of (h _ _ e)) fun i H x H' hi h y => ?_
  obtain ⟨rfl, q⟩ := y
  obtain ⟨w, hw, rw⟩ := r.getV q
  exact ⟨w, hw, .inl ⟨rfl, rw⟩⟩
theorem walk_reps {F : Hp} {z : Str} : ItOk c (Its z) F (strW z) := by
  have w := walk_str (z := z)
  have e : z.cps.size = (strW z).length := by simp [strW]
  rw [e] at w
  refine w.mono (fun H h => trivial) fun i H x H' hi h y => ?_
  obtain ⟨rfl, ch, h1, rfl⟩ := y
  refine ⟨.v (.str ⟨#[ch]⟩), ?_, .inl ⟨rfl, .v _⟩⟩
  simp [strW, h1]
instance {t : TE} {τ : TQ} [SE c t τ] : SI c (iSeq K t) (iqSeq τ) where
  sim {F H σ ρ ts R Qp} rl h k := SE.simW (t := t) (Qp := fun ρ1 w => match w with
      | .lst ws => Qp ρ1 ws
      | .tup ws => Qp ρ1 ws
      | .v (.str z) => Qp ρ1 (strW z)
      | _ => False) rl h fun v w ρ1 F1 H1 r1 q1 => by
    have tp := r1.topS
    split at q1
    next ws => cases tp with | lst e r => exact .inl ⟨_, rfl, ⟨_, SqL.of (r1.fr.fh _ _ e)⟩, k _ _ _ _ _ r1.pop (walk_repl e r) q1⟩
    next ws => cases tp with | tup e r => exact .inr (.inl ⟨_, rfl, ⟨_, SqT.of (r1.fr.fh _ _ e)⟩, k _ _ _ _ _ r1.pop (walk_rept e r) q1⟩)
    next z => cases tp; exact .inr (.inr ⟨z, rfl, k _ _ _ _ _ r1.pop walk_reps q1⟩)
    next => exact q1.elim
def rngW (lo : Int) (n : Nat) : List W := (List.range n).map fun (i : Nat) => W.v (.int (lo + (i : Int)))
def iqRng1 (t : TVAQ) : TIQ := fun ρ Q => t ρ fun ρ1 ps => lookL ρ1 ps fun ws => match ws with
  | [.v (.int j)] => (-100000 ≤ j ∧ j ≤ 100000) ∧ Q ρ1 (rngW 0 j.toNat)
  | _ => False
def iqRng2 (t : TVAQ) : TIQ := fun ρ Q => t ρ fun ρ1 ps => lookL ρ1 ps fun ws => match ws with
  | [.v (.int i), .v (.int j)] => (-100000 ≤ i ∧ i ≤ 100000 ∧ -100000 ≤ j ∧ j ≤ 100000) ∧ Q ρ1 (rngW i (j - i).toNat)
  | _ => False
theorem walk_repr {F : Hp} {lo : Int} {n : Nat} : ItOk c (Itr lo n) F (rngW lo n) := by
  have w := walk_range (lo := lo) (n := n)
  have e : n = (rngW lo n).length := by simp [rngW]
  show Walk (Itr lo n) (rngW lo n).length _ _
  rw [← e]
  refine w.mono (fun H h => trivial) fun i H x H' hi h y => ?_
  obtain ⟨rfl, rfl⟩ := y
  exact ⟨_, by simp [rngW, hi], .inl ⟨rfl, .v _⟩⟩
instance {t : TA} {τ : TVAQ} [SVA c t τ] : SI c (iRng1 t) (iqRng1 τ) where
  sim {F H σ ρ ts R Qp} rl h k := SVA.sim (t := t) rl h fun vs ps ρ1 F1 H1 ts1 p1 r1 q1 => by
    obtain ⟨ws, hv, q⟩ := r1.seeL p1 q1
    split at q
    next j =>
      obtain ⟨x, rfl, hx⟩ := hv.one
      cases hx.flat
      obtain ⟨⟨h1, h2⟩, q⟩ := q
      exact ⟨j, rfl, by omega, by omega, k _ _ _ _ _ (p1.back0 r1) walk_repr q⟩
    next => exact q.elim
instance {t : TA} {τ : TVAQ} [SVA c t τ] : SI c (iRng2 t) (iqRng2 τ) where
  sim {F H σ ρ ts R Qp} rl h k := SVA.sim (t := t) rl h fun vs ps ρ1 F1 H1 ts1 p1 r1 q1 => by
    obtain ⟨ws, hv, q⟩ := r1.seeL p1 q1
    split at q
    next i j =>
      obtain ⟨x, y, rfl, hx, hy⟩ := hv.two
      cases hx.flat
      cases hy.flat
      obtain ⟨⟨h1, h2, h3, h4⟩, q⟩ := q
      exact ⟨i, j, rfl, ⟨by omega, by omega, by omega, by omega⟩, k _ _ _ _ _ (p1.back0 r1) walk_repr q⟩
    next => exact q.elim
/-- a list or a tuple -/
def seqW (w : W) (k : List W → Prop) : Prop := match w with
  | .lst ws => k ws
  | .tup ws => k ws
  | _ => False
def pairW (xs ys : List W) : List W := List.zipWith (fun x y => W.tup [x, y]) xs ys
def iqZip (t : TAQ) : TIQ := fun ρ Q => t ρ fun ρ1 ws => match ws with
  | [x, y] => seqW x fun xs => seqW y fun ys => Q ρ1 (pairW xs ys)
  | _ => False
theorem seqW_of {F H : Hp} {v : V} {w : W} {k : List W → Prop} (h : seqW w k) (r : Rep K c.b F v w) (e : Same F H) : ∃ t a us ws, v = .ref a ∧ LT K t a F us ∧ RepL K c.b F us ws ∧ k ws := by
  unfold seqW at h
  split at h
  next ws => cases r with | lst e r => exact ⟨false, _, _, _, rfl, SqL.of e, r, h⟩
  next ws => cases r with | tup e r => exact ⟨true, _, _, _, rfl, SqT.of e, r, h⟩
  next => exact h.elim
theorem walk_zipQ {t u : Bool} {a b : Addr} {xs ys : List V} : Walk (ItzQ K t u a b) (min xs.length ys.length) (fun H => LT K t a H xs ∧ LT K u b H ys) (YPair (fun i => xs[i]?) (fun i => ys[i]?)) := by
  refine ⟨fun i _ hi q => ?_, fun _ q => ⟨xs, ys, q.1, q.2, by omega⟩, fun i H v H' _ q y => ?_⟩
  · have h1 : i < xs.length := by omega
    have h2 : i < ys.length := by omega
    exact ⟨xs, ys, xs[i], ys[i], q.1, q.2, by simp [h1], by simp [h2]⟩
  · obtain ⟨T, x, z, h1, h2, h3, h4, h5⟩ := y
    exact ⟨T, x, z, h1, h2, h3, h4 xs q.1, h5 ys q.2⟩
theorem walk_pairW {F : Hp} {J : It} {us us' : List V} {xs ys : List W} (w : Walk J (min us.length us'.length) (fun H => Same F H) (YPair (fun i => us[i]?) (fun i => us'[i]?))) (r : RepL K c.b F us xs) (r' : RepL K c.b F us' ys) : ItOk c J F (pairW xs ys) := by
  have e : min us.length us'.length = (pairW xs ys).length := by rw [pairW, List.length_zipWith, r.len, r'.len]
  rw [e] at w
  refine w.mono (fun H h => h) fun i H x H' hi h y => ?_
  obtain ⟨T, x1, y1, rfl, h1, rfl, h2, h3⟩ := y
  obtain ⟨w1, e1, q1⟩ := r.getV h2
  obtain ⟨w2, e2, q2⟩ := r'.getV h3
  refine ⟨.tup [w1, w2], ?_, .inr ⟨T, [x1, y1], [w1, w2], rfl, h1, rfl, rfl, .cons q1 (.cons q2 .nil)⟩⟩
  rw [pairW, List.getElem?_zipWith, e1, e2]
instance {t : TA} {n : Nat} {τ : TAQ} [SA c t n τ] : SI c (iZipQ K t) (iqZip τ) where
  sim {F H σ ρ ts R Qp} rl h k := SA.sim (t := t) (τ := τ) rl h fun vs ws ρ1 F1 H1 hl r1 rs q1 => by
    split at q1
    next x y =>
      cases rs with
      | cons a rs =>
        cases rs with
        | cons b rs =>
          cases rs
          obtain ⟨t, a1, us, xs, rfl, l1, s1, q2⟩ := seqW_of (H := H1) q1 a r1.fr.fh
          obtain ⟨u, a2, us', ys, rfl, l2, s2, q3⟩ := seqW_of (H := H1) q2 b r1.fr.fh
          refine ⟨t, u, a1, a2, us, us', rfl, lt_up r1.fr.fh l1, lt_up r1.fr.fh l2, k _ _ _ _ _ r1 (walk_pairW ?_ s1 s2) q3⟩
          exact walk_zipQ.mono (fun H h => ⟨lt_up h l1, lt_up h l2⟩) fun _ _ _ _ _ _ z => z
    next => exact q1.elim
def numW (n : Nat) : List W := (List.range n).map fun (i : Nat) => W.v (.int (i : Int))
def iqEnum (t : TAQ) : TIQ := fun ρ Q => t ρ fun ρ1 ws => match ws with
  | [.lst xs] => Q ρ1 (pairW (numW xs.length) xs)
  | _ => False
theorem kenum (K : PySem.W.Frag) {X : L2.Cx} {e : Expr} {ta : TA} {p pos tpos : Pos} {elts : List Expr} {kk : Nat} (h : PI X (.Tuple elts kk tpos) (.Call (.Name "enumerate" p) [e] [] pos) (iEnum X.K ta)) (hK : X.K = K := by rfl) : PI X (.Tuple elts kk tpos) (.Call (.Name "enumerate" p) [e] [] pos) (iEnum K ta) := by subst hK; exact h
instance {t : TA} {n : Nat} {τ : TAQ} [SA c t n τ] : SI c (iEnum K t) (iqEnum τ) where
  sim {F H σ ρ ts R Qp} rl h k := SA.sim (t := t) (τ := τ) rl h fun vs ws ρ1 F1 H1 hl r1 rs q1 => by
    split at q1
    next xs =>
      cases rs with
      | cons a rs =>
        cases rs
        cases a with
        | @lst a us _ e r =>
          refine ⟨a, us, rfl, SqL.of (r1.fr.fh _ _ e), k _ _ _ _ _ r1 ?_ q1⟩
          have w := walk_enum (K := K) (a := a) (xs := us)
          have e3 : us.length = (pairW (numW xs.length) xs).length := by rw [pairW, List.length_zipWith, numW, List.length_map, List.length_range, r.len, Nat.min_self]
          rw [e3] at w
          refine w.mono (fun H h => SqL.of (h _ _ e)) fun i H x H' hi h y => ?_
          obtain ⟨T, x1, y1, rfl, h1, rfl, h2, h3⟩ := y
          cases h2
          obtain ⟨w2, e2, q2⟩ := r.getV h3
          refine ⟨.tup [.v (.int (i : Int)), w2], ?_, .inr ⟨T, _, _, rfl, h1, rfl, rfl, .cons (.v _) (.cons q2 .nil)⟩⟩
          have hi2 : i < xs.length := get_lt e2
          rw [pairW, List.getElem?_zipWith, e2, numW, List.getElem?_map, List.getElem?_range hi2]
          rfl
    next => exact q1.elim
def iqRev (t : TAQ) : TIQ := fun ρ Q => t ρ fun ρ1 ws => match ws with
  | [.lst xs] => Q ρ1 xs.reverse
  | _ => False
instance {t : TA} {n : Nat} {τ : TAQ} [SA c t n τ] : SI c (iRev K t) (iqRev τ) where
  sim {F H σ ρ ts R Qp} rl h k := SA.sim (t := t) (τ := τ) rl h fun vs ws ρ1 F1 H1 hl r1 rs q1 => by
    split at q1
    next xs =>
      cases rs with
      | cons a rs =>
        cases rs
        cases a with
        | @lst a us _ e r =>
          refine ⟨a, us, rfl, SqL.of (r1.fr.fh _ _ e), k _ _ _ _ _ r1 ?_ q1⟩
          have w := walk_rev (K := K) (a := a) (xs := us)
          have e3 : us.length = xs.reverse.length := by rw [List.length_reverse, r.len]
          show Walk (Itv K a us.length) xs.reverse.length _ _
          rw [← e3]
          refine w.mono (fun H h => SqL.of (h _ _ e)) fun i H x H' hi h y => ?_
          obtain ⟨rfl, h1⟩ := y
          obtain ⟨w2, e2, q2⟩ := r.getV h1
          refine ⟨w2, ?_, .inl ⟨rfl, q2⟩⟩
          rw [List.getElem?_reverse (by rw [← r.len]; exact hi), ← r.len]
          exact e2
    next => exact q1.elim
/-- the turn's thing is at hand -/
theorem Rel.turn {F F1 H H' : Hp} {σ : L2.St} {ρ : List D} {ts : List (V × D)} {ws : List W} {i : Nat} {x : V} (r : Rel c F H σ ρ ts) (e : Same F1 F) (y : YW K c.b F1 ws i H x H') : ∃ w F', ws[i]? = some w ∧ Same F F' ∧ Rel c F' H' σ ρ ((x, .sh w) :: ts) := by
  obtain ⟨w, hw, ⟨rfl, rp⟩ | ⟨T, us, us', rfl, hT, rfl, rfl, rp⟩⟩ := y
  · exact ⟨w, F, hw, Same.refl _, r.pushS (rp.mono e)⟩
  · have fp := r.fr.fh.free hT
    exact ⟨_, _, hw, same_new fp, (r.newS (o := .tup us) hT).pushS (.tup upd_same ((rp.mono e).mono (same_new fp)))⟩
theorem EndsOk.re {E : Ends} {Eq : EQ} {F1 : Hp} (h : EndsOk c E Eq) (e0 : Same c.F0 F1) (n0 : ∀ a, c.F0 a = none → c.H0 a ≠ none → F1 a = none) : EndsOk (c.re F1) E Eq :=
  ⟨fun r => h.nx (r.unre e0 n0), fun r => h.rt (r.unre e0 n0), fun r => h.bk (r.unre e0 n0), fun r => h.ct (r.unre e0 n0)⟩
/-! ### statements -/
def sNext : TSQ := fun E ρ => E.nx ρ
def sSeq (t u : TSQ) : TSQ := fun E ρ => t { E with nx := u E } ρ
def sBreak : TSQ := fun E ρ => E.bk ρ
def sCont : TSQ := fun E ρ => E.ct ρ
def sDrop (t : TQ) : TSQ := fun E ρ => t ρ fun ρ1 _ => E.nx ρ1
def sRet (t : TQ) : TSQ := fun E ρ => t ρ fun _ d => E.rt d
def sRetV (i : Nat) : TSQ := fun E ρ => match ρ[i]? with
  | some .un => False
  | some d => E.rt d
  | none => False
def sRetN : TSQ := fun E ρ => E.rt .non
def sIf (t : TTQ) (a b : TSQ) : TSQ := fun E ρ => t ρ fun ρ1 k => if k = true then a E ρ1 else b E ρ1
def sNever : TSQ := fun _ _ => False
def sAsg (t : TQ) (g : TGQ) : TSQ := fun E ρ => t ρ fun ρ1 d => g d ρ1 E.nx
instance : SS c tNext sNext where
  sim {F H σ ρ E Eq} rl h k := k.nx rl h
instance {t u : TS} {τ υ : TSQ} [SS c t τ] [SS c u υ] : SS c (tSeq t u) (sSeq τ υ) where
  sim {F H σ ρ E Eq} rl h k := SS.sim (t := t) (τ := τ) (E := { E with nx := u E }) (Eq := { Eq with nx := υ Eq }) rl h ⟨fun r q => SS.sim (t := u) (τ := υ) r q k, k.rt, k.bk, k.ct⟩
instance : SS c tBreak sBreak where
  sim {F H σ ρ E Eq} rl h k := k.bk rl h
instance : SS c tCont sCont where
  sim {F H σ ρ E Eq} rl h k := k.ct rl h
instance {t : TE} {τ : TQ} [SE c t τ] : SS c (tDrop t) (sDrop τ) where
  sim {F H σ ρ E Eq} rl h k := SE.sim (t := t) rl h fun v d ρ1 F1 H1 r1 q1 => k.nx r1.pop q1
instance (priority := 100) {t : TE} {τ : TQ} [SE c t τ] : SS c (tRet t) (sRet τ) where
  sim {F H σ ρ E Eq} rl h k := SE.sim (t := t) rl h fun v d ρ1 F1 H1 r1 q1 => k.rt r1 q1
instance (priority := 2000) {i : Nat} : SS c (tRet (tVar i)) (sRetV i) where
  sim {F H σ ρ E Eq} rl h k := by
    unfold sRetV at h
    split at h
    next => exact h.elim
    next d n e =>
      obtain ⟨v, h1, r1⟩ := rl.take e (fun z => n z)
      exact ⟨v, h1, k.rt r1 h⟩
    next => exact h.elim
instance : SS c tRetN sRetN where
  sim {F H σ ρ E Eq} rl h k := k.rt (rl.pushS (.v _)) h
instance {tt : TT} {ta tb : TS} {τt : TTQ} {τa τb : TSQ} [ST c tt τt] [SS c ta τa] [SS c tb τb] : SS c (tIfS tt ta tb) (sIf τt τa τb) where
  sim {F H σ ρ E Eq} rl h k := ST.sim (t := tt) rl h fun b ρ1 F1 H1 r1 q1 => by
    cases b with
    | true => exact SS.sim (t := ta) r1 q1 k
    | false => exact SS.sim (t := tb) r1 q1 k
instance : SS c tNever sNever where
  sim {F H σ ρ E Eq} rl h k := h.elim
instance {t : TE} {g : TG} {τ : TQ} {sl : List Nat} {γ : TGQ} [SE c t τ] [SG c g sl γ] : SS c (tAsg t g) (sAsg τ γ) where
  sim {F H σ ρ E Eq} rl h k := SE.sim (t := t) rl h fun v d ρ1 F1 H1 r1 q1 => SG.sim (g := g) r1 q1 fun σ2 ρ2 F2 H2 r2 _ q2 => k.nx r2 q2
def sPar (i j : Nat) (a b : TQ) : TSQ := fun E ρ => i ≠ j ∧ a ρ fun ρ1 d => b ρ1 fun ρ2 e => E.nx ((ρ2.set j e).set i d)
instance {i j : Nat} {ta tb : TE} {τa τb : TQ} [SE c ta τa] [SE c tb τb] : SS c (tPar i j (tCons ta (tCons tb tNil))) (sPar i j τa τb) where
  sim {F H σ ρ E Eq} rl h k := SE.sim (t := ta) rl h.2 fun v d ρ1 F1 H1 r1 q1 => SE.sim (t := tb) r1 q1 fun u e ρ2 F2 H2 r2 q2 => ⟨v, u, rfl, by
    have r3 := (r2.store j).store i
    rw [List.set_comm _ _ h.1.symm] at r3
    exact k.nx r3 q2⟩
/-- x op= e -/
class SIp {K : PySem.W.Frag} (c : Cx K) (t : TIp) (ω : outParam (W → W → (D → Prop) → Prop)) : Prop where
  sim : ∀ {F H : Hp} {σ : L2.St} {ρ : List D} {ts : List (V × D)} {x y : V} {w u : W} {Q : VK} {Qp : D → Prop}, Rel c F H σ ρ ts → Rep K c.b F x w → Rep K c.b F y u → ω w u Qp → ContD c σ ρ ts Qp Q → t x y H Q
instance {f : Int → Int → Int} : SIp c (ipI f) (oI0 fun i j => .int (f i j)) where
  sim {F H σ ρ ts x y w u Q Qp} rl hx hy h k := by
    unfold oI0 at h
    split at h
    next i j => exact ⟨i, j, hx.flat, hy.flat, k _ _ _ _ (rl.pushS (.v _)) h⟩
    next => exact h.elim
def sAug (i : Nat) (t : TQ) (ω : W → W → (D → Prop) → Prop) : TSQ := fun E ρ => match ρ[i]? with
  | some (.sh x) => t ρ fun ρ1 d => lookD d fun y => ω x y fun d => E.nx (ρ1.set i d)
  | _ => False
instance {i : Nat} {t : TE} {ti : TIp} {τ : TQ} {ω : W → W → (D → Prop) → Prop} [SE c t τ] [SIp c ti ω] : SS c (tAug i t ti) (sAug i τ ω) where
  sim {F H σ ρ E Eq} rl h k := by
    unfold sAug at h
    split at h
    next x e =>
      obtain ⟨v, h1, h2⟩ := rl.slotS e
      refine ⟨v, h1, SE.simW (t := t) (rl.pushS h2) h fun u y ρ1 F1 H1 r1 q1 => ?_⟩
      exact SIp.sim (t := ti) r1 r1.pop.topS r1.topS q1 fun z d F2 H2 r2 q2 => k.nx (r2.pop2.pop2.store i) q2
    next => exact h.elim
/-- x[i] op= e, x a name whose list is its own -/
def sAugS (s : Nat) (ti t : TQ) (ω : W → W → (D → Prop) → Prop) : TSQ := fun E ρ => match ρ[s]? with
  | some (.lst _) => ti ρ fun ρ1 di => match di, ρ1[s]? with
    | .sh (.v (.int i)), some (.lst ws) => match ws[i.toNat]? with
      | some x => 0 ≤ i ∧ t ρ1 fun ρ2 d => lookD d fun y => ω x y fun d => lookD d fun z => match ρ2[s]? with
        | some (.lst ws) => match ixN ws.length i with
          | some j => E.nx (ρ2.set s (.lst (ws.set j z)))
          | none => False
        | _ => False
      | none => False
    | _, _ => False
  | _ => False
instance {s : Nat} {ti t : TE} {tip : TIp} {τi τ : TQ} {ω : W → W → (D → Prop) → Prop} [SE c ti τi] [SE c t τ] [SIp c tip ω] : SS c (tAugS (tVar s) ti t (rGetN K) tip rSetL) (sAugS s τi τ ω) where
  sim {F H σ ρ E Eq} rl h k := by
    unfold sAugS at h
    split at h
    next ws0 es =>
      obtain ⟨x, S, h1, h2⟩ := rl.slot es (fun z => nomatch z)
      refine ⟨x, h1, SE.sim (t := ti) rl h fun v2 di ρ2 F2 H2 r2 q2 => ?_⟩
      split at q2
      next i ws es2 =>
        split at q2
        next w hw =>
          obtain ⟨x', S', h3, h4⟩ := r2.slot es2 (fun z => nomatch z)
          rw [h1] at h3
          cases h3
          cases h4 with
          | @lst _ a us _ s0 m ha rr =>
            obtain ⟨u, hu, ru⟩ := rr.get hw
            obtain ⟨h0, q2⟩ := q2
            refine ⟨a, us, i.toNat, u, rfl, ?_, SqL.of ha, hu, SE.simW (t := t) (r2.pop.pushS ru) q2 fun u2 y ρ3 F3 H3 r3 q3 => ?_⟩
            · rw [r2.topS.flat, Int.toNat_of_nonneg h0]
            · refine SIp.sim (t := tip) r3 r3.pop.topS r3.topS q3 fun z d F4 H4 r4 q4 => ?_
              obtain ⟨wz, hwz, q4⟩ := lookD_ex q4
              obtain ⟨F5, e5, r5⟩ := r4.frzT hwz
              split at q4
              next ws3 es3 =>
                split at q4
                next j hj =>
                  obtain ⟨x3, S3, h5, h6⟩ := r5.slot es3 (fun z => nomatch z)
                  rw [h1] at h5
                  cases h5
                  cases h6 with
                  | @lst _ _ us3 _ s3 m3 ha3 rr3 =>
                    refine ⟨a, us3, i, j, rfl, by rw [r2.topS.flat], ha3, by rw [rr3.len]; exact hj, ?_⟩
                    refine k.nx (r5.pop.pop.pop.mutS es3 (fun z => nomatch z) h1 fun T o => ?_) q4
                    cases o with
                    | lst s0' m' ha' rr' =>
                      rw [ha3] at ha'
                      cases ha'
                      exact ⟨s0', .lst s0' m' upd_same (rr'.set j r5.topS)⟩
                next => exact q4.elim
              next => exact q4.elim
        next => exact q2.elim
      next => exact q2.elim
    next => exact h.elim
/-! ### loops -/
def qLoop (g : TGQ) (b : TSQ) (E : EQ) : List W → List D → Prop
  | [], ρ => E.nx ρ
  | w :: ws, ρ => g (.sh w) ρ fun ρ1 => b { nx := qLoop g b E ws, ct := qLoop g b E ws, bk := E.nx, rt := E.rt } ρ1
def sFor (it : TIQ) (g : TGQ) (b : TSQ) : TSQ := fun E ρ => it ρ fun ρ1 ws => qLoop g b E ws ρ1
theorem drop_cons {α : Type} {xs : List α} {i : Nat} {x : α} (h : xs[i]? = some x) : xs.drop i = x :: xs.drop (i + 1) := by
  obtain ⟨h1, h2⟩ := List.getElem?_eq_some_iff.mp h
  rw [List.drop_eq_getElem_cons h1, h2]
instance forI {wi : TI} {g : TG} {tb : TS} {τi : TIQ} {sl : List Nat} {γ : TGQ} {τb : TSQ} [SI c wi τi] [∀ F1, SG (c.re F1) g sl γ] [∀ (F1 : Hp) [ReOk c F1], SS (c.re F1) tb τb] : SS c (tFor wi g tb) (sFor τi γ τb) where
  sim {F H σ ρ E Eq} rl h k := SI.sim (t := wi) rl h fun J ws ρ1 F1 H1 r1 it q1 => by
    have e0 := r1.fr.ff
    have n0 := r1.fr.nw
    have k' := k.re e0 n0
    haveI : ReOk c F1 := ⟨e0, n0⟩
    refine for_it (G := fun H => Same F1 H) it (fun i σ H => ∃ F ρ, Rel (c.re F1) F H σ ρ [] ∧ qLoop γ τb Eq (ws.drop i) ρ) ⟨F1, ρ1, r1.re (Same.refl _) e0, q1⟩ (fun i σ H _ ⟨F, ρ, r, _⟩ => r.fr.ff.trans r.fr.fh) (fun i x σ H H' hi ⟨F, ρ, r, q⟩ y => ?_) (fun σ H ⟨F, ρ, r, q⟩ => ?_)
    · obtain ⟨w, F', hw, e, r'⟩ := r.turn r.fr.ff y
      rw [drop_cons hw] at q
      refine SG.sim (c := c.re F1) (g := g) r' q fun σ2 ρ2 F2 H2 r2 _ q2 => ?_
      exact SS.sim (c := c.re F1) (t := tb) r2 q2 ⟨fun r q => ⟨_, _, r, q⟩, k'.rt, fun r q => k'.nx r q, fun r q => ⟨_, _, r, q⟩⟩
    · rw [List.drop_length] at q
      exact k'.nx r q
def qIter (t : TTQ) (b : TSQ) (E : EQ) : Nat → List D → Prop
  | 0, _ => False
  | n + 1, ρ => t ρ fun ρ1 k => if k = true then b { nx := qIter t b E n, ct := qIter t b E n, bk := E.nx, rt := E.rt } ρ1 else E.nx ρ1
def sWhile (t : TTQ) (b : TSQ) : TSQ := fun E ρ => ∃ n, qIter t b E n ρ
instance {tt : TT} {tb : TS} {τt : TTQ} {τb : TSQ} [ST c tt τt] [SS c tb τb] : SS c (tWhile tt tb) (sWhile τt τb) where
  sim {F H σ ρ E Eq} rl h k := by
    obtain ⟨n, h⟩ := h
    refine ⟨fun m σ H => ∃ F ρ, Rel c F H σ ρ [] ∧ qIter τt τb Eq m ρ, ⟨n, F, ρ, rl, h⟩, ?_⟩
    rintro m σ H ⟨F, ρ, r, q⟩
    cases m with
    | zero => exact q.elim
    | succ m =>
      refine ST.sim (t := tt) r q fun b ρ1 F1 H1 r1 q1 => ?_
      cases b with
      | true => exact ⟨fun σ H => ∃ F ρ, Rel c F H σ ρ [] ∧ qIter τt τb Eq m ρ, fun σ' H' z => ⟨m, Nat.lt_succ_self _, z⟩, SS.sim (t := tb) r1 q1 ⟨fun r q => ⟨_, _, r, q⟩, k.rt, fun r q => k.nx r q, fun r q => ⟨_, _, r, q⟩⟩⟩
      | false => exact k.nx r1 q1
/-! ### comprehensions -/
def wipeD (ρ : List D) : List Nat → List D
  | [] => ρ
  | v :: vs => (wipeD ρ vs).set v .un
theorem Rel.wipe {F H : Hp} {σ : L2.St} {ρ : List D} {ts : List (V × D)} (r : Rel c F H σ ρ ts) : ∀ vs : List Nat, Rel c F H (L2.wipe σ vs) (wipeD ρ vs) ts
  | [] => r
  | v :: vs => (r.wipe vs).forget v none
def keepSh : D → D
  | .sh w => .sh w
  | _ => .un
/-- behind a comprehension: the slots vs as they were, if they were shared -/
def mrg (ρ ρ' : List D) : List Nat → List D
  | [] => ρ'
  | v :: vs => (mrg ρ ρ' vs).set v (match ρ[v]? with | some d => keepSh d | none => .un)
def qLcL (g : TGQ) (tt : TTQ) (te : TQ) (vs : List Nat) (k : List D → List W → Prop) : List W → List D → List W → Prop
  | [], ρ, acc => k ρ acc
  | w :: ws, ρ, acc => g (.sh w) ρ fun ρ1 => tt ρ1 fun ρ2 b => if b = true then te ρ2 fun ρ3 d => lookD d fun w => qLcL g tt te vs k ws (wipeD ρ3 vs) (acc ++ [w]) else qLcL g tt te vs k ws (wipeD ρ2 vs) acc
def qLc (it : TIQ) (g : TGQ) (tt : TTQ) (te : TQ) (vs : List Nat) : TQ := fun ρ Q => it ρ fun ρ1 ws => ws.length ≤ 100000 ∧ qLcL g tt te vs (fun ρ2 acc => Q (mrg ρ1 ρ2 vs) (.lst acc)) ws (wipeD ρ1 vs) []
/-- the target's slots are the block's own -/
class Within (sl vs : List Nat) : Prop where
  sub : ∀ i ∈ sl, i ∈ vs
instance {vs : List Nat} : Within [] vs := ⟨fun _ h => nomatch h⟩
class MemN (i : Nat) (vs : List Nat) : Prop where
  mem : i ∈ vs
instance (priority := 2000) {i : Nat} {vs : List Nat} : MemN i (i :: vs) := ⟨List.mem_cons_self⟩
instance (priority := 100) {i j : Nat} {vs : List Nat} [h : MemN i vs] : MemN i (j :: vs) := ⟨List.mem_cons_of_mem _ h.mem⟩
instance {i : Nat} {sl vs : List Nat} [h : MemN i vs] [k : Within sl vs] : Within (i :: sl) vs := ⟨fun j hj => by
  rcases List.mem_cons.mp hj with e | hj
  · rw [e]; exact h.mem
  · exact k.sub j hj⟩
theorem Rel.unwipe {F1 H1 F H : Hp} {σ : L2.St} {ρ1 ρ : List D} {ts ts' : List (V × D)} (r1 : Rel c F1 H1 σ ρ1 ts') (e : Same F1 F) (vs : List Nat) (r : Rel c F H (L2.wipe σ vs) ρ ts) : Rel c F H σ (mrg ρ1 ρ vs) ts := by
  obtain ⟨om, o, s, t⟩ := r.ex
  have hl : ∀ vs : List Nat, (mrg ρ1 ρ vs).length = ρ.length := fun vs => by
    induction vs with
    | nil => rfl
    | cons v vs ih => rw [mrg, List.length_set, ih]
  have hg : ∀ (vs : List Nat) (i : Nat) d, (mrg ρ1 ρ vs)[i]? = some d → (i ∈ vs ∧ (d = .un ∨ ∃ w, d = .sh w ∧ ρ1[i]? = some (.sh w))) ∨ (i ∉ vs ∧ ρ[i]? = some d) := fun vs => by
    induction vs with
    | nil => intro i d h; exact .inr ⟨(fun z => nomatch z), h⟩
    | cons v vs ih =>
      intro i d h
      rw [mrg] at h
      by_cases hv : v = i
      · subst hv
        have hlt := get_lt h
        rw [List.length_set] at hlt
        rw [List.getElem?_set_self hlt] at h
        refine .inl ⟨List.mem_cons_self, ?_⟩
        cases e1 : ρ1[v]? with
        | none => rw [e1] at h; cases h; exact .inl rfl
        | some d1 =>
          rw [e1] at h
          cases d1 with
          | sh w => cases h; exact .inr ⟨w, rfl, rfl⟩
          | _ => cases h; exact .inl rfl
      · rw [List.getElem?_set_ne hv] at h
        rcases ih i d h with ⟨m, q⟩ | ⟨m, q⟩
        · exact .inl ⟨List.mem_cons_of_mem _ m, q⟩
        · exact .inr ⟨(by simp only [List.mem_cons, not_or]; exact ⟨(fun z => hv z.symm), m⟩), q⟩
  refine ⟨r.fr, by rw [hl, ← r.len, wipe_length], om, o, fun i d h => ?_, t⟩
  rcases hg vs i d h with ⟨_, q⟩ | ⟨m, q⟩
  · rcases q with q | ⟨w, rfl, q⟩
    · exact .inl q
    · obtain ⟨v, h1, h2⟩ := r1.slotS q
      exact .inr ⟨v, h1, .sh (h2.mono e)⟩
  · rcases s i d q with z | ⟨v, h1, h2⟩
    · exact .inl z
    · rw [wipe_get, if_neg m] at h1
      exact .inr ⟨v, h1, h2⟩
instance {wi : TI} {g : TG} {tt : TT} {te : TE} {vs : List Nat} {τi : TIQ} {sl : List Nat} {γ : TGQ} {τt : TTQ} {τe : TQ} [SI c wi τi] [∀ F1, SG (c.re F1) g sl γ] [∀ F1, ST (c.re F1) tt τt] [∀ F1, SE (c.re F1) te τe] [z : Within sl vs] : SE c (tLc wi g tt te vs) (qLc τi γ τt τe vs) where
  sim {F H σ ρ ts Q Qp} rl h k := SI.sim (t := wi) rl h fun J ws ρ1 F1 H1 r1 it q1 => by
    intro L hL
    obtain ⟨hz, q1⟩ := q1
    have e0 := r1.fr.ff
    have n0 := r1.fr.nw
    let kk : List D → List W → Prop := fun ρ2 acc => Qp (mrg ρ1 ρ2 vs) (.lst acc)
    refine lc_it (G := fun H => Same F1 H) it (fun i H => ∃ F ρ acc, Rel (c.re F1) F H (L2.wipe σ vs) ρ ((.ref L, .lst acc) :: ts) ∧ acc.length ≤ i ∧ qLcL γ τt τe vs kk (ws.drop i) ρ acc) ?_ (fun i H _ ⟨F, ρ, acc, r, _⟩ => r.fr.ff.trans r.fr.fh) (fun i x H H' hi ⟨F, ρ, acc, r, ha, q⟩ y => ?_) (fun H ⟨F, ρ, acc, r, ha, q⟩ => ?_)
    · exact ⟨F1, _, [], (((r1.wipe vs).re (Same.refl _) e0).newO (o := .lst []) hL (own_lst .nil)), Nat.zero_le _, q1⟩
    · obtain ⟨w, F', hw, e, r'⟩ := r.turn r.fr.ff y
      rw [drop_cons hw] at q
      refine SG.sim (c := c.re F1) (g := g) r' q fun σ2 ρ2 F2 H2 r2 o2 q2 => ?_
      have hwp : L2.wipe σ2 vs = L2.wipe σ vs := by
        rw [o2 vs z.sub]
        apply List.ext_getElem?
        intro j
        rw [wipe_get, wipe_get]
        by_cases hj : j ∈ vs
        · rw [if_pos hj, if_pos hj]
          cases σ[j]? <;> rfl
        · rw [if_neg hj, if_neg hj]
      refine ⟨hwp, ST.sim (c := c.re F1) (t := tt) r2 q2 fun b ρ3 F3 H3 r3 q3 => ?_⟩
      cases b with
      | false => exact ⟨F3, _, acc, by rw [← hwp]; exact r3.wipe vs, by omega, q3⟩
      | true =>
        refine SE.simW (c := c.re F1) (t := te) r3 q3 fun v w ρ4 F4 H4 r4 q4 => ?_
        have rv := r4.topS
        have r5 := r4.pop
        obtain ⟨S, o5⟩ := r5.top
        cases o5 with
        | @lst _ _ us _ s0 m hx rr =>
          refine ⟨us, hx, ?_, F4, _, acc ++ [w], ?_, ?_, q4⟩
          · rw [rr.len, sizeLine_eq]; omega
          · rw [← hwp]
            refine Rel.wipe (Rel.mutT (d' := .lst (acc ++ [w])) r5 fun T o => ?_) vs
            cases o with
            | lst s0' m' hx' rr' =>
              rw [hx] at hx'
              cases hx'
              exact ⟨s0', .lst s0' m' upd_same (rr'.app (.cons rv .nil))⟩
          · rw [List.length_append]; simp; omega
    · rw [List.drop_length] at q
      have r2 := Rel.unwipe (c := c.re F1) (r1.re (Same.refl _) e0) r.fr.ff vs r
      exact k _ _ _ _ _ (r2.unre e0 n0) q
end
end R

/-! ## R7: calls, defs, methods, own classes -/
namespace R
open PySem PySem.Spec PyProof.Rows L2 G
abbrev PF := List W → (D → Prop) → Prop
def cx0 {K : PySem.W.Frag} (b : Addr) (F H : Hp) : Cx K := ⟨b, fun _ => False, F, H⟩
/-- the promise of a def, without a heap -/
def SpP (K : PySem.W.Frag) (n : Nat) (f : PF) : Sp := fun vs H Q _ => ∃ (b : Addr) (F : Hp) (ws : List W) (Qp : D → Prop), BagOk b H ∧ F b = none ∧ Same F H ∧ RepL K b F vs ws ∧ ws.length = n ∧ f ws Qp ∧
  ∀ v d F' H' σ ρ, Rel (cx0 (K := K) b F H) F' H' σ ρ [(v, d)] → Qp d → Q v H'
def runF (τ : TSQ) (m : Nat) : PF := fun ws Q => τ { nx := fun _ => Q .non, rt := Q } (ws.map D.sh ++ List.replicate m .un)
section
variable {K : PySem.W.Frag} {c : Cx K}
theorem Ow.recx {c' : Cx K} {F H : Hp} {S : Addr → Prop} {v : V} {d : D} (h : Ow c' F H S v d) : ∀ {S' : Addr → Prop}, c'.b = c.b → (∀ a, S a → S' a) → (∀ a, S a → ¬ c.M a) → (∀ a, ¬ c'.M a) → Ow c F H S' v d := by
  induction h with
  | sh r => intro S' hb s m n; exact .sh (by rw [← hb]; exact r)
  | lst s0 m h r => intro S' hb s k n; exact .lst (s _ s0) (k _ s0) h (by rw [← hb]; exact r)
  | dic s0 m h l r => intro S' hb s k n; exact .dic (s _ s0) (k _ s0) h l (by rw [← hb]; exact r)
  | dit s0 m h l r => intro S' hb s k n; exact .dit (s _ s0) (k _ s0) h l (by rw [← hb]; exact r)
  | obj s0 m h l r => intro S' hb s k n; exact .obj (s _ s0) (k _ s0) h l (by rw [← hb]; exact r)
  | set s0 m h => intro S' hb s k n; exact .set (s _ s0) (k _ s0) h
  | ntup cm s0 m h l _ ih => intro S' hb s k n; exact .ntup cm (s _ s0) (k _ s0) h l fun j v d h1 h2 => ih j v d h1 h2 hb (fun a q => ⟨s a q.1, q.2⟩) (fun a q => k a q.1) n
  | mobj s0 m h l r => intro S' hb s k n; exact absurd m (n _)
  | raw s0 m h => intro S' hb s k n; exact .raw (s _ s0) (k _ s0) h
  | un => intro S' hb s k n; exact .un
/-- a call has come back -/
theorem Rel.ret {F H F' H' : Hp} {σ σ' : L2.St} {ρ ρ' : List D} {ts : List (V × D)} {v : V} {d : D} (r : Rel c F H σ ρ ts) (q : Rel (cx0 (K := K) c.b F H) F' H' σ' ρ' [(v, d)]) : Rel c F' H' σ ρ ((v, d) :: ts) := by
  obtain ⟨om, o, s, t⟩ := r.ex
  obtain ⟨om', o', s', t', _⟩ := q.ex
  have kp : ∀ a u, H a = some u → a ≠ c.b → H' a = some u := fun a u h n => q.fr.kp a u h n (fun z => z)
  have nn : ∀ a j, om' a = some j → H a = none := fun a j h => by
    rcases o'.mn a j h with z | z
    · exact z
    · exact z.elim
  have sep : ∀ a i, om a = some i → om' a ≠ some (.inr 0) := fun a i h z => o.th a i h (nn a _ z)
  have fr : Fr c F' H' := by
    obtain ⟨x, b0, b1, nm⟩ := r.fr.bg
    obtain ⟨y, b2, b3, _⟩ := q.fr.bg
    have e := b1.uniq b2
    subst e
    refine ⟨⟨x, b0, b3, nm⟩, q.fr.fb, r.fr.ff.trans q.fr.ff, q.fr.fh, fun a h1 h2 => q.fr.nw a (r.fr.nw a h1 h2) (r.fr.al a h2), fun a u h1 h2 h3 => kp a u (r.fr.kp a u h1 h2 h3) h2, fun a h => q.fr.al a (r.fr.al a h), r.fr.nm⟩
  refine ⟨fr, r.len, fun a => if om' a = some (.inr 0) then some (.inr ts.length) else om a, ⟨fun a i h => ?_, fun a i h => ?_, fun a i h => ?_, fun a i h => ?_⟩, fun i d h => (s i d h).mono q.fr.ff (fun a u z e => kp a u e (o.nb a _ z)) fun a z => ?_, t'.recx rfl (fun a z => ?_) (fun a z => ?_) (fun a z => z), t.mono q.fr.ff (fun a j u _ z e => kp a u e (o.nb a _ z)) fun a j _ z => ?_⟩
  · try dsimp only at h
    split at h
    next z => exact o'.nb a _ z
    next z => exact o.nb a i h
  · try dsimp only at h
    split at h
    next z => exact o'.nf a _ z
    next z => exact q.fr.nw a (o.nf a i h) (o.th a i h)
  · try dsimp only at h
    split at h
    next z => exact o'.th a _ z
    next z => exact q.fr.al a (o.th a i h)
  · try dsimp only at h
    split at h
    next z => exact .inl (r.fr.h0 (nn a _ z))
    next z => exact o.mn a i h
  · try dsimp only
    rw [if_neg (sep a _ z)]; exact z
  · try dsimp only
    rw [if_pos (show om' a = some (.inr 0) from z)]
  · exact r.fr.nm (r.fr.h0 (nn a _ z))
  · try dsimp only
    rw [if_neg (sep a _ z)]; exact z
theorem Fr.bag {F H : Hp} (f : Fr c F H) : BagOk c.b H := by
  obtain ⟨x, _, h, _⟩ := f.bg
  exact ⟨x, h⟩
def qCall (f : PF) (n : Nat) (t : TAQ) : TQ := fun ρ Q => t ρ fun ρ1 ws => f ws fun d => Q ρ1 d
instance {f : PF} {E : XK} {t : TA} {n : Nat} {τ : TAQ} [SA c t n τ] : SE c (tCall (SpP K n f) [] E t) (qCall f n τ) where
  sim {F H σ ρ ts Q Qp} rl h k := SA.sim (t := t) rl h fun vs ws ρ1 F1 H1 hl r1 rs q1 => ⟨c.b, F1, ws, fun d => Qp ρ1 d, r1.fr.bag, r1.fr.fb, r1.fr.fh, by rw [List.append_nil]; exact rs, by rw [← rs.len]; exact hl, q1, fun v d F' H' σ' ρ' r2 q2 => k _ _ _ _ _ (r1.ret r2) q2⟩
def isObj (C : Addr) (m : Str) (w : W) (k : Prop) : Prop := match w with
  | .obj C' fs _ => (C' = C ∧ fs.contains m = false) ∧ k
  | _ => False
def qMeth (C : Addr) (m : Str) (f : PF) (n : Nat) (ta : TQ) (t : TAQ) : TQ := fun ρ Q => ta ρ fun ρ1 d => lookD d fun w => isObj C m w (t ρ1 fun ρ2 ws => f (w :: ws) fun d => Q ρ2 d)
theorem lookup_none {fs : List Str} {us : List V} {m : Str} (h : fs.contains m = false) : (fs.zip us).lookup m = none := by
  induction fs generalizing us with
  | nil => rfl
  | cons a fs ih =>
    cases us with
    | nil => rfl
    | cons u us =>
      rw [List.contains_cons, Bool.or_eq_false_iff] at h
      rw [List.zip_cons_cons, List.lookup_cons, h.1]
      exact ih h.2
theorem isObj_of {C : Addr} {m : Str} {F H : Hp} {v : V} {w : W} {k : Prop} (h : isObj C m w k) (r : Rep K c.b F v w) (e : Same F H) : ∃ a dx fs, v = .ref a ∧ H a = some (.ins C dx fs) ∧ fs.lookup m = none ∧ k := by
  unfold isObj at h
  split at h
  next C' fs ws =>
    obtain ⟨⟨rfl, hm⟩, h⟩ := h
    cases r with
    | obj e1 l r => exact ⟨_, _, _, rfl, e _ _ e1, lookup_none hm, h⟩
  next => exact h.elim
instance {C : Addr} {m : Str} {f : PF} {E : XK} {ta : TE} {t : TA} {n : Nat} {τa : TQ} {τ : TAQ} [SE c ta τa] [SA c t n τ] : SE c (tMeth C m (SpP K (n + 1) f) [] E ta t) (qMeth C m f n τa τ) where
  sim {F H σ ρ ts Q Qp} rl h k := SE.simW (t := ta) (Qp := fun ρ1 w => isObj C m w (τ ρ1 fun ρ2 ws => f (w :: ws) fun d => Qp ρ2 d)) rl h fun v w ρ1 F1 H1 r1 q1 => by
    obtain ⟨a, dx, fs, rfl, h1, h2, q⟩ := isObj_of q1 r1.topS r1.fr.fh
    refine ⟨a, dx, fs, rfl, h1, h2, SA.sim (t := t) r1 q fun vs ws ρ2 F2 H2 hl r2 rs q2 => ?_⟩
    exact ⟨c.b, F2, w :: ws, fun d => Qp ρ2 d, r2.fr.bag, r2.fr.fb, r2.fr.fh, by rw [List.append_nil]; exact .cons r2.topS rs, by rw [List.length_cons, ← rs.len, hl], q2, fun v d F' H' σ' ρ' r3 q3 => k _ _ _ _ _ (r2.pop.ret r3) q3⟩
/-- len(o) by the class's own __len__ -/
def rLenO (C : Addr) (sp : Sp) (E : XK) : List V → Hp → VK → Prop := fun xs H Q => ∃ a dx fs, xs = [.ref a] ∧ H a = some (.ins C dx fs) ∧ sp [.ref a] H (fun v H' => ∃ n : Int, v = .int n ∧ 0 ≤ n ∧ n < 2 ^ 63 ∧ Q v H') E
theorem klenO {X : L2.Cx} {cx : CXT} {k : Nat} {C : Addr} {ps : List Str} {sp : Sp} {E : XK} (m : MCal X.prog X.w X.K X.mg X.base cx k C "__len__" ps sp) (hr : Room (k + 1) X.A) (hx : Passes cx X E) : CallR X (.builtin "len") (rLenO C sp E) := call_lenO m hr hx
def qLenO (C : Addr) (f : PF) (t : TAQ) : TQ := fun ρ Q => t ρ fun ρ1 ws => match ws with
  | [.obj C' fs us] => C' = C ∧ f [.obj C' fs us] fun d => match d with
    | .sh (.v (.int n)) => (0 ≤ n ∧ n < 2 ^ 63) ∧ Q ρ1 (.int n)
    | _ => False
  | _ => False
instance (priority := 2000) {C : Addr} {f : PF} {E : XK} {t : TA} {n : Nat} {τ : TAQ} [SA c t n τ] : SE c (tCB (rLenO C (SpP K 1 f) E) t) (qLenO C f τ) where
  sim {F H σ ρ ts Q Qp} rl h k := SA.sim (t := t) rl h fun vs ws ρ1 F1 H1 hl r1 rs q1 => by
    split at q1
    next C' fs us =>
      obtain ⟨rfl, q1⟩ := q1
      cases rs with
      | cons a rs =>
        cases rs
        have ro := a
        cases a with
        | @obj a _ dx _ vs _ e l r =>
          refine ⟨a, dx, _, rfl, r1.fr.fh _ _ e, c.b, F1, _, _, r1.fr.bag, r1.fr.fb, r1.fr.fh, .cons ro .nil, rfl, q1, fun v d F' H' σ' ρ' r2 q2 => ?_⟩
          split at q2
          next n =>
            have r3 := r1.ret r2
            exact ⟨n, r3.topS.flat, q2.1.1, q2.1.2, k _ _ _ _ _ r3 q2.2⟩
          next => exact q2.elim
    next => exact q1.elim
/-! ### the start of a def -/
theorem get_start {vs : List V} {m i : Nat} {v : V} (h : vs[i]? = some v) : (vs.map some ++ List.replicate m (none : Option V))[i]? = some (some v) := by
  have hl := get_lt h
  rw [List.getElem?_append_left (by rw [List.length_map]; exact hl), List.getElem?_map, h]
  rfl
theorem Rel.start {b : Addr} {F H : Hp} {vs : List V} {ws : List W} {m : Nat} (hb : BagOk b H) (fb : F b = none) (fh : Same F H) (rs : RepL K b F vs ws) : Rel (cx0 (K := K) b F H) F H (vs.map some ++ List.replicate m none) (ws.map D.sh ++ List.replicate m .un) [] := by
  obtain ⟨x, hx⟩ := hb
  refine ⟨⟨⟨x, hx, hx, fun z => z⟩, fb, Same.refl _, fh, fun a h _ => h, fun a o h _ _ => h, fun a h => h, fun _ z => z⟩, ?_, fun _ => none, ⟨(fun a i h => nomatch h), (fun a i h => nomatch h), (fun a i h => nomatch h), (fun a i h => nomatch h)⟩, fun i d h => ?_, trivial⟩
  · rw [List.length_append, List.length_append, List.length_map, List.length_map, List.length_replicate, List.length_replicate, rs.len]
  · by_cases hi : i < ws.length
    · rw [List.getElem?_append_left (by rw [List.length_map]; exact hi), List.getElem?_map] at h
      cases e : ws[i]? with
      | none => rw [e] at h; cases h
      | some w =>
        rw [e] at h
        cases h
        obtain ⟨v, hv, r⟩ := rs.get e
        exact .inr ⟨v, get_start hv, .sh r⟩
    · rw [List.getElem?_append_right (by rw [List.length_map]; omega)] at h
      have := List.mem_of_getElem? h
      rw [List.mem_replicate] at this
      exact .inl this.2
theorem start_eq {N : List Str} {vs : List V} {m : Nat} (h : N.length = vs.length + m) : L2.start N vs = vs.map some ++ List.replicate m none := by
  unfold L2.start
  rw [show N.length - vs.length = m by omega]
theorem SpP.len {n : Nat} {f : PF} {vs : List V} {H : Hp} {Q : VK} {E : XK} (h : SpP K n f vs H Q E) : vs.length = n := by
  obtain ⟨b, F, ws, Qp, _, _, _, r, l, _⟩ := h
  rw [r.len, l]
theorem SpP.run {n m : Nat} {τ : TSQ} {N : List Str} {vs : List V} {H : Hp} {Q : VK} {E : XK} {t : TS} (hm : N.length = n + m) (h : SpP K n (runF τ m) vs H Q E) (s : ∀ c : Cx K, SS c t τ) : t { nx := fun _ H' => Q .non H', rt := Q } (L2.start N vs) H := by
  have hl := h.len
  obtain ⟨b, F, ws, Qp, hb, fb, fh, rs, l, q, k⟩ := h
  rw [start_eq (m := m) (by rw [hl]; exact hm)]
  exact (s _).sim (Rel.start hb fb fh rs) q ⟨fun r z => k _ _ _ _ _ _ (r.pushS (.v .non)) z, fun r z => k _ _ _ _ _ _ r z, fun _ z => z, fun _ z => z⟩
end
section
variable {P : Program} {w : World} {K : PySem.W.Frag} {mg : Str → Option Value} {base : Heap} {k : Nat} {x : Str} {ps N : List Str} {st : Stmt} {τ : TSQ}
theorem defR {n : Nat} (D : Def K mg x st ps) (S : FnScope N ps (defScope st)) (m : Nat) (hn : ps.length = n) (hm : N.length = n + m)
    (bd : ∀ (f : Addr) (cdv : Value) (A : Around) (out : List Env) (s : Shared) (H : Hp) (E : XK), Room k (A.deeper (envOfC x (defScope st) s.heap.objs.size f cdv)) →
      ∃ t, PSs (cxOf CX0 P w K mg base N x (defScope st) f cdv A out s H E).nox (defBody st) t ∧ ∀ c : Cx K, SS c t τ) : Cal P w K mg base CX0 (k + 1) x ps (SpP K n (runF τ m)) :=
  D.ok S (fun vs H Q E h => by rw [h.len, hn]) fun f cdv A out s H vs Q E hr h => by
    obtain ⟨t, ht, hs⟩ := bd f cdv A out s H E hr
    exact ⟨t, ht, h.run hm hs⟩
theorem defRG {n : Nat} (D : Def K mg x st ps) (S : FnScope N ps (defScope st)) (m : Nat) (hn : ps.length = n) (hm : N.length = n + m)
    (bd : ∀ (f : Addr) (cdv : Value) (A : Around) (out : List Env) (s : Shared) (H : Hp) (E : XK), A.guards = some [] → Room k (A.deeper (envOfC x (defScope st) s.heap.objs.size f cdv)) →
      ∃ t, PSs (cxOf CX0 P w K mg base N x (defScope st) f cdv A out s H E).nox (defBody st) t ∧ ∀ c : Cx K, SS c t τ) : CalG P w K mg base CX0 (k + 1) x ps (SpP K n (runF τ m)) :=
  D.okG S (fun vs H Q E h => by rw [h.len, hn]) fun f cdv A out s H vs Q E hg hr h => by
    obtain ⟨t, ht, hs⟩ := bd f cdv A out s H E hg hr
    exact ⟨t, ht, h.run hm hs⟩
theorem mdefR {n : Nat} {C : Addr} {q : Str} (D : MDef K C x q st ps) (S : FnScope N ps (defScope st)) (m : Nat) (hn : ps.length = n) (hm : N.length = n + m)
    (bd : ∀ (f : Addr) (cdv : Value) (A : Around) (out : List Env) (s : Shared) (H : Hp) (E : XK), Room k (A.deeper (envOfC q (defScope st) s.heap.objs.size f cdv)) →
      ∃ t, PSs (cxOf CX0 P w K mg base N q (defScope st) f cdv A out s H E).nox (defBody st) t ∧ ∀ c : Cx K, SS c t τ) : MCal P w K mg base CX0 (k + 1) C x ps (SpP K n (runF τ m)) :=
  D.ok S (fun vs H Q E h => by rw [h.len, hn]) fun f cdv A out s H vs Q E hr h => by
    obtain ⟨t, ht, hs⟩ := bd f cdv A out s H E hr
    exact ⟨t, ht, h.run hm hs⟩
end
end R

/-! ## R8: own objects, dicts, lists that are changed, kinds of values -/
namespace R
open PySem PySem.Spec PyProof.Rows L2 G
/-! ### __init__ -/
abbrev PI0 := List W → (List Str → List W → Prop) → Prop
def cxI {K : PySem.W.Frag} (b x : Addr) (F H : Hp) : Cx K := ⟨b, fun a => a = x, F, H⟩
def SpI (K : PySem.W.Frag) (C : Addr) (n : Nat) (f : PI0) : Sp := fun vs H Q _ => ∃ (b x dx : Addr) (F : Hp) (us : List V) (ws : List W) (Qp : List Str → List W → Prop), vs = .ref x :: us ∧ H x = some (.ins C dx []) ∧ F x = none ∧ BagOk b H ∧ F b = none ∧ Same F H ∧ RepL K b F us ws ∧ ws.length = n ∧ f ws Qp ∧
  ∀ fs zs F' H' σ ρ, Rel (cxI (K := K) b x F H) F' H' σ ρ [(.ref x, .mobj C fs zs)] → Qp fs zs → Q .non H'
def endI (C : Addr) (Q : List Str → List W → Prop) (ρ : List D) : Prop := match (ρ[0]? : Option D) with
  | some (.mobj C' fs zs) => C' = C ∧ Q fs zs
  | _ => False
def runI (C : Addr) (τ : TSQ) (m : Nat) : PI0 := fun ws Q => τ { nx := endI C Q, rt := fun _ => False } (.mobj C [] [] :: (ws.map D.sh ++ List.replicate m .un))
section
variable {K : PySem.W.Frag} {c : Cx K}
theorem Rel.startI {b x dx C : Addr} {F H : Hp} {us : List V} {ws : List W} {m : Nat} (hx : H x = some (.ins C dx [])) (fx : F x = none) (hb : BagOk b H) (fb : F b = none) (fh : Same F H) (rs : RepL K b F us ws) :
    Rel (cxI (K := K) b x F H) F H ((V.ref x :: us).map some ++ List.replicate m none) (.mobj C [] [] :: (ws.map D.sh ++ List.replicate m .un)) [] := by
  obtain ⟨y, hy⟩ := hb
  have nb : x ≠ b := fun z => by
    obtain ⟨_, _, _, _, h1, _⟩ := hy
    rw [← z, hx] at h1; cases h1
  have ny : y ≠ x := fun z => by
    obtain ⟨_, _, _, _, _, h1, _⟩ := hy
    rw [z, hx] at h1; cases h1
  have r0 := Rel.start (m := m) (K := K) ⟨y, hy⟩ fb fh rs
  obtain ⟨om, o, s, t⟩ := r0.ex
  refine ⟨⟨⟨y, hy, hy, ny⟩, fb, Same.refl _, fh, fun a h _ => h, fun a o h _ _ => h, fun a h => h, fun {a} h z => by have h' : H a = none := h; rw [show a = x from z, hx] at h'; cases h'⟩, ?_, fun a => if a = x then some (.inl 0) else none, ⟨fun a i h => ?_, fun a i h => ?_, fun a i h => ?_, fun a i h => ?_⟩, fun i d h => ?_, trivial⟩
  · have := r0.len
    simp only [List.map_cons, List.cons_append, List.length_cons, List.length_append, List.length_map, List.length_replicate] at this ⊢
    omega
  · split at h
    next z => rw [z]; exact nb
    next => cases h
  · split at h
    next z => rw [z]; exact fx
    next => cases h
  · split at h
    next z => rw [z, hx]; exact fun z => nomatch z
    next => cases h
  · split at h
    next z => exact .inr z
    next => cases h
  · cases i with
    | zero => cases h; exact .inr ⟨.ref x, rfl, .mobj (us := []) (if_pos rfl) rfl hx rfl .nil⟩
    | succ i =>
      have h' : (ws.map D.sh ++ List.replicate m .un)[i]? = some d := h
      have hi := List.mem_of_getElem? h'
      rcases s i d h' with q | ⟨v, h1, h2⟩
      · exact .inl q
      · refine .inr ⟨v, h1, ?_⟩
        rcases List.mem_append.mp hi with hm | hm
        · obtain ⟨w, _, rfl⟩ := List.mem_map.mp hm
          cases h2 with | sh r => exact .sh r
        · rw [(List.mem_replicate.mp hm).2]; exact .un
theorem SpI.len {C : Addr} {n : Nat} {f : PI0} {vs : List V} {H : Hp} {Q : VK} {E : XK} (h : SpI K C n f vs H Q E) : vs.length = n + 1 := by
  obtain ⟨b, x, dx, F, us, ws, Qp, rfl, _, _, _, _, _, r, l, _⟩ := h
  rw [List.length_cons, r.len, l]
theorem SpI.run {C : Addr} {n m : Nat} {τ : TSQ} {N : List Str} {vs : List V} {H : Hp} {Q : VK} {E : XK} {t : TS} (hm : N.length = (n + 1) + m) (h : SpI K C n (runI C τ m) vs H Q E) (s : ∀ c : Cx K, SS c t τ) : t { nx := fun _ H' => Q .non H', rt := Q } (L2.start N vs) H := by
  have hl := h.len
  obtain ⟨b, x, dx, F, us, ws, Qp, rfl, hx, fx, hb, fb, fh, rs, l, q, k⟩ := h
  rw [start_eq (m := m) (by rw [hl]; exact hm)]
  refine (s _).sim (Eq := { nx := endI C Qp, rt := fun _ => False }) (Rel.startI hx fx hb fb fh rs) q ⟨fun r z => ?_, fun r z => z.elim, fun _ z => z, fun _ z => z⟩
  unfold endI at z
  try dsimp only at z
  split at z
  next C' fs zs e =>
    obtain ⟨rfl, z⟩ := z
    obtain ⟨v, h1, r1⟩ := r.take e (fun z => nomatch z)
    obtain ⟨S, o⟩ := r1.top
    cases o with
    | mobj s0 m h l rr =>
      obtain rfl : _ = x := m
      exact k _ _ _ _ _ _ r1 z
  next => exact z.elim
/-- a new object has been made -/
theorem Rel.made {F H F' H' : Hp} {σ σ' : L2.St} {ρ ρ' : List D} {ts : List (V × D)} {x dx C : Addr} {fs : List Str} {zs : List W} (r : Rel c F H σ ρ ts) (hx : H x = none) (hdx : H dx = none) (ne : dx ≠ x)
    (q : Rel (cxI (K := K) c.b x F (upd (upd H dx (.own x)) x (.ins C dx []))) F' H' σ' ρ' [(.ref x, .mobj C fs zs)]) : Rel c F' H' σ ρ ((.ref x, .obj C fs zs) :: ts) := by
  obtain ⟨om, o, s, t⟩ := r.ex
  have e1 : Same H (upd (upd H dx (.own x)) x (.ins C dx [])) := fun a u e => by rw [upd_ne (ne_of_none e hx), upd_ne (ne_of_none e hdx)]; exact e
  have kp : ∀ a u, H a = some u → a ≠ c.b → H' a = some u := fun a u h n => q.fr.kp a u (e1 _ _ h) n (ne_of_none h hx)
  have al : ∀ a, H a ≠ none → H' a ≠ none := fun a h => q.fr.al a fun z => h (e1.free z)
  have ox : ∃ (dx : Addr) (us : List V), H' x = some (.ins C dx (fs.zip us)) ∧ us.length = fs.length ∧ RepL K c.b F' us zs := by
    obtain ⟨S, o⟩ := q.top
    cases o with | mobj s0 m h l rr => exact ⟨_, _, h, l, rr⟩
  obtain ⟨dx', us, hx', hl, rr⟩ := ox
  have fx : F' x = none := by
    obtain ⟨om', o', s', t', _⟩ := q.ex
    cases t' with | mobj s0 m h l rr => exact o'.nf _ _ s0
  have fr : Fr c F' H' := by
    obtain ⟨y, b0, b1, nm⟩ := r.fr.bg
    obtain ⟨z, b2, b3, _⟩ := q.fr.bg
    have e := (b1.up e1).uniq b2
    subst e
    refine ⟨⟨y, b0, b3, nm⟩, q.fr.fb, r.fr.ff.trans q.fr.ff, q.fr.fh, fun a h1 h2 => q.fr.nw a (r.fr.nw a h1 h2) fun z => r.fr.al a h2 (e1.free z), fun a u h1 h2 h3 => kp a u (r.fr.kp a u h1 h2 h3) h2, fun a h => al a (r.fr.al a h), r.fr.nm⟩
  have nb : x ≠ c.b := by obtain ⟨y, _, b1, _⟩ := r.fr.bg; exact (BagC.ne b1 hx).1
  have nx : ∀ a i, om a = some i → a ≠ x := fun a i h z => o.th a i h (by rw [z]; exact hx)
  refine ⟨fr, r.len, fun a => if a = x then some (.inr ts.length) else om a, ⟨fun a i h => ?_, fun a i h => ?_, fun a i h => ?_, fun a i h => ?_⟩, fun i d h => (s i d h).mono q.fr.ff (fun a u z e => kp a u e (o.nb a _ z)) fun a z => ?_, .obj (if_pos rfl) (r.fr.nm (r.fr.h0 hx)) hx' hl rr, t.mono q.fr.ff (fun a j u _ z e => kp a u e (o.nb a _ z)) fun a j _ z => ?_⟩
  · split at h
    next z => rw [z]; exact nb
    next z => exact o.nb a i h
  · split at h
    next z => rw [z]; exact fx
    next z => exact q.fr.nw a (o.nf a i h) fun z => o.th a i h (e1.free z)
  · split at h
    next z => rw [z, hx']; exact fun z => nomatch z
    next z => exact al a (o.th a i h)
  · split at h
    next z => rw [z]; exact .inl (r.fr.h0 hx)
    next z => exact o.mn a i h
  · try dsimp only
    rw [if_neg (nx a _ z)]; exact z
  · try dsimp only
    rw [if_neg (nx a _ z)]; exact z
def qMake (C : Addr) (f : PI0) (t : TAQ) : TQ := fun ρ Q => t ρ fun ρ1 ws => f ws fun fs zs => Q ρ1 (.obj C fs zs)
instance {C : Addr} {f : PI0} {E : XK} {t : TA} {n : Nat} {τ : TAQ} [SA c t n τ] : SE c (tMake C (SpI K C n f) [] E t) (qMake C f τ) where
  sim {F H σ ρ ts Q Qp} rl h k := SA.sim (t := t) rl h fun vs ws ρ1 F1 H1 hl r1 rs q1 => fun x dx hx hdx ne => by
    have e1 : Same H1 (upd (upd H1 dx (.own x)) x (.ins C dx [])) := fun a u e => by rw [upd_ne (ne_of_none e hx), upd_ne (ne_of_none e hdx)]; exact e
    refine ⟨c.b, x, dx, F1, vs, ws, fun fs zs => Qp ρ1 (.obj C fs zs), by rw [List.append_nil], upd_same, r1.fr.fh.free hx, r1.fr.bag.up e1, r1.fr.fb, r1.fr.fh.trans e1, rs, by rw [← rs.len]; exact hl, q1, fun fs zs F' H' σ' ρ' r2 q2 => ⟨rfl, ?_⟩⟩
    exact k _ _ _ _ _ (r1.made hx hdx ne r2) q2
/-- self.f = e within __init__ -/
def sFldC (C : Addr) (K : PySem.W.Frag) (ta tv : TE) (f : Str) : TS := sFld K ta tv f
def sFldQ (C : Addr) (s : Nat) (f : Str) (t : TQ) : TSQ := fun E ρ => t ρ fun ρ1 d => lookD d fun w => match ρ1[s]? with
  | some (.mobj C' fs zs) => (C' = C ∧ fs.contains f = false ∧ fs.length < 100) ∧ E.nx (ρ1.set s (.mobj C (fs ++ [f]) (zs ++ [w])))
  | _ => False
theorem putF_zip {f : Str} {v : V} : ∀ {fs : List Str} {us : List V}, us.length = fs.length → fs.contains f = false → putF f v (fs.zip us) = (fs ++ [f]).zip (us ++ [v])
  | [], [], _, _ => rfl
  | g :: fs, u :: us, hl, h => by
    rw [List.contains_cons, Bool.or_eq_false_iff] at h
    have hg : ¬ g = f := fun z => by rw [z] at h; simp at h
    have ih := putF_zip (f := f) (v := v) (fs := fs) (us := us) (by simpa using hl) h.2
    rw [List.zip_cons_cons, List.cons_append, List.cons_append, List.zip_cons_cons, ← ih]
    show (if g = f then _ else _) = _
    rw [if_neg hg]
instance {C : Addr} {s : Nat} {f : Str} {t : TE} {τ : TQ} [SE c t τ] [o : FldOk K C f] : SS c (sFldC C K (tVar s) t f) (sFldQ C s f τ) where
  sim {F H σ ρ E Eq} rl h k := SE.simW (t := t) (Qp := fun ρ1 w => match ρ1[s]? with
      | some (.mobj C' fs zs) => (C' = C ∧ fs.contains f = false ∧ fs.length < 100) ∧ Eq.nx (ρ1.set s (.mobj C (fs ++ [f]) (zs ++ [w])))
      | _ => False) rl h fun v w ρ1 F1 H1 r1 q1 => by
    split at q1
    next C' fs zs e =>
      obtain ⟨⟨rfl, h1, h2⟩, q⟩ := q1
      obtain ⟨x, S, h3, h4⟩ := r1.slot e (fun z => nomatch z)
      cases h4 with
      | @mobj _ a _ dx _ us _ s0 m hx l rr =>
        refine ⟨.ref a, h3, a, _, dx, _, rfl, hx, o.cl, o.na, ?_, ?_⟩
        · rw [List.length_zip, l, Nat.min_self]; omega
        · rw [putF_zip l h1]
          refine k.nx (r1.pop.mutS e (fun z => nomatch z) h3 fun T oo => ?_) q
          cases oo with
          | mobj s0' m' hx' l' rr' =>
            rw [hx] at hx'
            injection hx' with hx'
            injection hx' with _ _ hz
            have hu : _ = us := zip_inj l' l hz.symm
            subst hu
            exact ⟨s0', .mobj s0' m' upd_same (by rw [List.length_append, List.length_append, l]; rfl) (rr'.app (.cons r1.topS .nil))⟩
    next => exact q1.elim
where
  zip_inj {α β : Type} : ∀ {fs : List α} {us vs : List β}, us.length = fs.length → vs.length = fs.length → fs.zip us = fs.zip vs → us = vs
    | [], [], [], _, _, _ => rfl
    | f :: fs, u :: us, v :: vs, h1, h2, h => by
      rw [List.zip_cons_cons, List.zip_cons_cons] at h
      injection h with h3 h4
      injection h3 with _ h5
      rw [h5, zip_inj (by simpa using h1) (by simpa using h2) h4]
end
end R

/-! ## R9: dicts, lists that are changed, kinds of values, texts of values -/
namespace R
open PySem PySem.Spec PyProof.Rows L2 G
/-! ### tables -/
section
variable {κ α : Type} [DecidableEq κ]
def dval (ks : List κ) (ws : List α) (k : κ) : Option α := ((ks.zip ws).find? fun p => decide (p.1 = k)).map (·.2)
def dput (ks : List κ) (ws : List α) (k : κ) (w : α) : List κ × List α := if k ∈ ks then (ks, List.zipWith (fun k' w' => if k' = k then w else w') ks ws) else (ks ++ [k], ws ++ [w])
theorem dval_nil (k : κ) : dval [] ([] : List α) k = none := rfl
theorem dval_cons (k' : κ) (ks : List κ) (w : α) (ws : List α) (k : κ) : dval (k' :: ks) (w :: ws) k = if k' = k then some w else dval ks ws k := by
  unfold dval
  rw [List.zip_cons_cons, List.find?_cons]
  by_cases h : k' = k
  · rw [if_pos h]; simp [h]
  · rw [if_neg h]; simp [h]
theorem dval_none {ks : List κ} {ws : List α} {k : κ} (hl : ws.length = ks.length) : dval ks ws k = none ↔ k ∉ ks := by
  induction ks generalizing ws with
  | nil => cases ws with | nil => simp [dval] | cons => simp at hl
  | cons a ks ih =>
    cases ws with
    | nil => simp at hl
    | cons w ws =>
      rw [dval_cons]
      by_cases h : a = k
      · rw [if_pos h]; simp [h]
      · rw [if_neg h, ih (by simpa using hl)]; simp [Ne.symm h]
theorem dput_len {ks : List κ} {ws : List α} {k : κ} {w : α} (hl : ws.length = ks.length) : (dput ks ws k w).2.length = (dput ks ws k w).1.length := by
  unfold dput
  split
  · simp [hl]
  · simp [hl]
theorem zw_same {ks : List κ} {ws : List α} {k : κ} {w : α} (hl : ws.length = ks.length) (hk : k ∉ ks) : List.zipWith (fun k' w' => if k' = k then w else w') ks ws = ws := by
  induction ks generalizing ws with
  | nil => cases ws with | nil => rfl | cons => simp at hl
  | cons b ks ih =>
    cases ws with
    | nil => rfl
    | cons v ws =>
      rw [List.zipWith_cons_cons, if_neg (fun z => hk (by rw [z]; exact List.mem_cons_self)), ih (by simpa using hl) (fun z => hk (List.mem_cons_of_mem _ z))]
theorem dput_val {ks : List κ} {ws : List α} {k j : κ} {w : α} (hl : ws.length = ks.length) : dval (dput ks ws k w).1 (dput ks ws k w).2 j = if j = k then some w else dval ks ws j := by
  unfold dput
  split
  next h =>
    induction ks generalizing ws with
    | nil => cases h
    | cons a ks ih =>
      cases ws with
      | nil => simp at hl
      | cons u ws =>
        rw [List.zipWith_cons_cons, dval_cons, dval_cons]
        by_cases hj : a = j
        · subst hj
          rw [if_pos rfl, if_pos rfl]
          by_cases hk : a = k
          · rw [if_pos hk, if_pos hk]
          · rw [if_neg hk, if_neg hk]
        · rw [if_neg hj, if_neg hj]
          by_cases hk : k ∈ ks
          · exact ih (by simpa using hl) hk
          · have hak : a = k := by
              rcases List.mem_cons.mp h with e | e
              · exact e.symm
              · exact absurd e hk
            rw [if_neg (fun z => hj (hak.trans z.symm))]
            rw [zw_same (by simpa using hl) hk]
  next h =>
    induction ks generalizing ws with
    | nil =>
      cases ws with
      | nil =>
        show dval [k] [w] j = _
        rw [dval_cons]
        by_cases e : k = j
        · rw [if_pos e, if_pos e.symm]
        · rw [if_neg e, if_neg (Ne.symm e)]
      | cons => simp at hl
    | cons a ks ih =>
      cases ws with
      | nil => simp at hl
      | cons u ws =>
        rw [List.cons_append, List.cons_append, dval_cons, dval_cons]
        by_cases hj : a = j
        · rw [if_pos hj, if_pos hj, if_neg (fun z => h (by rw [← z, ← hj]; exact List.mem_cons_self))]
        · rw [if_neg hj, if_neg hj]
          exact ih (by simpa using hl) (fun z => h (List.mem_cons_of_mem _ z))
end
section
variable {K : PySem.W.Frag} {c : Cx K}
theorem valV_zip {κ : Type} [DecidableEq κ] {b : Addr} {F : Hp} {ks : List κ} {us : List V} {ws : List W} (r : RepL K b F us ws) (k : κ) : (∀ w, dval ks ws k = some w → ∃ v, valV (ks.zip us) k = some v ∧ Rep K b F v w) ∧ (dval ks ws k = none → valV (ks.zip us) k = none) := by
  induction ks generalizing us ws with
  | nil => exact ⟨(fun w h => nomatch h), fun _ => rfl⟩
  | cons a ks ih =>
    cases r with
    | nil => exact ⟨(fun w h => nomatch h), fun _ => rfl⟩
    | @cons v w vs ws x r =>
      rw [List.zip_cons_cons]
      refine ⟨fun w' h => ?_, fun h => ?_⟩
      · rw [dval_cons] at h
        by_cases e : a = k
        · rw [if_pos e] at h; cases h; exact ⟨v, valV_pos e, x⟩
        · rw [if_neg e] at h; rw [valV_neg e]; exact (ih r).1 w' h
      · rw [dval_cons] at h
        by_cases e : a = k
        · rw [if_pos e] at h; cases h
        · rw [if_neg e] at h; rw [valV_neg e]; exact (ih r).2 h
theorem putK_zip {κ : Type} [DecidableEq κ] {ks : List κ} {us : List V} {k : κ} {v : V} (hl : us.length = ks.length) : putK (ks.zip us) k v = (dput ks us k v).1.zip (dput ks us k v).2 := by
  have any : ∀ (ks : List κ) (us : List V), us.length = ks.length → ((ks.zip us).any fun kv => decide (kv.1 = k)) = decide (k ∈ ks) := fun ks => by
    induction ks with
    | nil => intro us _; rfl
    | cons a ks ih =>
      intro us hl
      cases us with
      | nil => simp at hl
      | cons u us =>
        rw [List.zip_cons_cons, List.any_cons, ih us (by simpa using hl)]
        by_cases e : a = k
        · subst e; simp
        · have e2 : (k ∈ a :: ks) = (k ∈ ks) := by simp [Ne.symm e]
          simp only [e2, decide_eq_false e, Bool.false_or]
  unfold putK dput
  rw [any ks us hl]
  by_cases h : k ∈ ks
  · rw [if_pos (decide_eq_true h), if_pos h]
    clear any h
    induction ks generalizing us with
    | nil => rfl
    | cons a ks ih =>
      cases us with
      | nil => simp at hl
      | cons u us =>
        rw [List.zip_cons_cons, List.map_cons, List.zipWith_cons_cons, List.zip_cons_cons, ih (by simpa using hl)]
        by_cases e : a = k
        · rw [if_pos e, if_pos e]
        · rw [if_neg e, if_neg e]
  · rw [if_neg (by simpa using h), if_neg h, List.zip_append hl.symm]
    rfl
theorem RepL.zw {κ : Type} [DecidableEq κ] {b : Addr} {F : Hp} {k : κ} {v : V} {w : W} (q : Rep K b F v w) : ∀ {ks : List κ} {us : List V} {ws : List W}, RepL K b F us ws → RepL K b F (List.zipWith (fun k' w' => if k' = k then v else w') ks us) (List.zipWith (fun k' w' => if k' = k then w else w') ks ws)
  | [], _, _, _ => by simp only [List.zipWith_nil_left]; exact .nil
  | a :: ks, _, _, .nil => by simp only [List.zipWith_nil_right]; exact .nil
  | a :: ks, _, _, .cons x r => by
    rw [List.zipWith_cons_cons, List.zipWith_cons_cons]
    refine .cons ?_ (RepL.zw q r)
    by_cases e : a = k
    · rw [if_pos e, if_pos e]; exact q
    · rw [if_neg e, if_neg e]; exact x
theorem RepL.dput {κ : Type} [DecidableEq κ] {b : Addr} {F : Hp} {ks : List κ} {us : List V} {ws : List W} {k : κ} {v : V} {w : W} (r : RepL K b F us ws) (q : Rep K b F v w) : (R.dput ks us k v).1 = (R.dput ks ws k w).1 ∧ RepL K b F (R.dput ks us k v).2 (R.dput ks ws k w).2 := by
  unfold R.dput
  split
  · exact ⟨rfl, RepL.zw q r⟩
  · exact ⟨rfl, r.app (.cons q .nil)⟩
/-- a key: an int, a text; a tuple of such -/
def keyW : W → Option Key
  | .v (.int i) => some (.inl i)
  | .v (.str s) => some (.inr s)
  | _ => none
def keysW : List W → Option (List Key)
  | [] => some []
  | w :: ws => (keyW w).bind fun k => (keysW ws).map fun ks => k :: ks
theorem keyW_of {b : Addr} {F : Hp} {v : V} {w : W} {k : Key} (h : keyW w = some k) (r : Rep K b F v w) : v = kV k := by
  unfold keyW at h
  split at h
  next => cases h; exact r.flat
  next => cases h; exact r.flat
  next => cases h
theorem keysW_of {b : Addr} {F : Hp} : ∀ {vs : List V} {ws : List W} {ks : List Key}, keysW ws = some ks → RepL K b F vs ws → vs = ks.map kV
  | _, [], ks, h, r => by cases h; cases r; rfl
  | _, w :: ws, ks, h, r => by
    cases r with
    | cons a r =>
      unfold keysW at h
      cases e : keyW w with
      | none => rw [e] at h; cases h
      | some k =>
        rw [e] at h
        cases e2 : keysW ws with
        | none => rw [e2] at h; cases h
        | some ks' =>
          rw [e2] at h
          cases h
          rw [keyW_of e a, keysW_of e2 r]
          rfl
/-- d.get(k), d[k], k in d -/
def getW (d k : W) (Q : Option W → Prop) : Prop := match d, k with
  | .dit ks ws, .tup us => match keysW us with
    | some key => ws.length = ks.length ∧ Q (dval ks ws key)
    | none => False
  | .dic ks ws, k => match keyW k with
    | some key => ws.length = ks.length ∧ Q (dval ks ws key)
    | none => False
  | _, _ => False
theorem getW_of {F H : Hp} {v u : V} {d k : W} {Q : Option W → Prop} (h : getW d k Q) (e : Same F H) (hd : Vw c F H v d) (hk : Rep K c.b F u k) : ∃ a o r, v = .ref a ∧ IsD H a ∧ DGet H a u o ∧ Q r ∧ (r = none → o = none) ∧ (∀ w, r = some w → ∃ x, o = some x ∧ Rep K c.b F x w) := by
  unfold getW at h
  split at h
  next ks ws us =>
    split at h
    next key hkey =>
      obtain ⟨a, zs, rfl, h1, l, r⟩ := hd.dit e
      cases hk with
      | @tup t xs _ et rt =>
        obtain ⟨q1, q2⟩ := valV_zip (ks := ks) r key
        have ex := keysW_of hkey rt
        rw [ex] at et
        exact ⟨a, _, _, rfl, .inr ⟨_, .inl h1⟩, DGet.t h1 (e _ _ et), h.2, q2, q1⟩
    next => exact h.elim
  next k ks ws =>
    split at h
    next key hkey =>
      obtain ⟨a, zs, rfl, h1, l, r⟩ := hd.dic e
      obtain ⟨q1, q2⟩ := valV_zip (ks := ks) r key
      rw [keyW_of hkey hk]
      exact ⟨a, _, _, rfl, .inl ⟨_, .inl h1⟩, DGet.k h1, h.2, q2, q1⟩
    next => exact h.elim
  next => exact h.elim
theorem isD_of {F H : Hp} {v : V} {d k : W} {Q : Option W → Prop} (h : getW d k Q) (e : Same F H) (hd : Vw c F H v d) : ∃ a, v = .ref a ∧ IsD H a := by
  unfold getW at h
  split at h
  next ks ws us =>
    obtain ⟨a, zs, rfl, h1, l, r⟩ := hd.dit e
    exact ⟨a, rfl, .inr ⟨_, .inl h1⟩⟩
  next ks ws k =>
    obtain ⟨a, zs, rfl, h1, l, r⟩ := hd.dic e
    exact ⟨a, rfl, .inl ⟨_, .inl h1⟩⟩
  next => exact h.elim
/-- what may be a dict -/
def isDic : W → Bool
  | .dic _ _ => true
  | .dit _ _ => true
  | _ => false
theorem isDic_of {F H : Hp} {v : V} {d : W} (h : isDic d = true) (e : Same F H) (hd : Vw c F H v d) : ∃ a, v = .ref a ∧ IsD H a := by
  cases d with
  | dic ks ws => obtain ⟨a, zs, rfl, h1, l, r⟩ := hd.dic e; exact ⟨a, rfl, .inl ⟨_, .inl h1⟩⟩
  | dit ks ws => obtain ⟨a, zs, rfl, h1, l, r⟩ := hd.dit e; exact ⟨a, rfl, .inr ⟨_, .inl h1⟩⟩
  | _ => cases h
def qDGet1 (td : TVQ) (tk : TQ) : TQ := fun ρ Q => td ρ fun ρ1 p => look ρ1 p fun d0 => isDic d0 = true ∧ tk ρ1 fun ρ2 dk => lookD dk fun k => look ρ2 p fun d => getW d k fun o => Q ρ2 (match o with | some w => .sh w | none => .non)
instance {td ty : TE} {τd : TVQ} {τk : TQ} [SV c td τd] [SE c ty τk] : SE c (tDGet1 td ty) (qDGet1 τd τk) where
  sim {F H σ ρ ts Q Qp} rl h k := SV.sim (t := td) rl h fun v p ρ1 F1 H1 ts1 p1 r1 q1 => by
    obtain ⟨d0, hv, q1⟩ := r1.see p1.has.1 q1
    obtain ⟨a, rfl, hD⟩ := isDic_of q1.1 r1.fr.fh hv
    refine ⟨a, rfl, hD, SE.simW (t := ty) r1 q1.2 fun u w ρ2 F2 H2 r2 q2 => ?_⟩
    obtain ⟨d, hv2, q3⟩ := r2.see (p1.has.1.up (fun t h => List.mem_cons_of_mem _ h)) q2
    obtain ⟨a', o, r, e, _, hg, hq, n1, n2⟩ := getW_of q3 r2.fr.fh hv2 r2.topS
    cases e
    refine ⟨o, hg, ?_⟩
    cases r with
    | none => rw [n1 rfl]; exact k _ _ _ _ _ (p1.back (r2.pop.pushS (.v .non))) hq
    | some w' =>
      obtain ⟨x, rfl, rx⟩ := n2 w' rfl
      exact k _ _ _ _ _ (p1.back (r2.pop.pushS rx)) hq
def qDGet (td : TVQ) (tk : TQ) : TQ := fun ρ Q => td ρ fun ρ1 p => tk ρ1 fun ρ2 dk => lookD dk fun k => look ρ2 p fun d => getW d k fun o => match o with | some w => Q ρ2 (.sh w) | none => False
instance {td ty : TE} {τd : TVQ} {τk : TQ} [SV c td τd] [SE c ty τk] : SE c (tDGet td ty) (qDGet τd τk) where
  sim {F H σ ρ ts Q Qp} rl h k := SV.sim (t := td) rl h fun v p ρ1 F1 H1 ts1 p1 r1 q1 => SE.simW (t := ty) r1 q1 fun u w ρ2 F2 H2 r2 q2 => by
    obtain ⟨d, hv2, q3⟩ := r2.see (p1.has.1.up (fun t h => List.mem_cons_of_mem _ h)) q2
    obtain ⟨a', o, r, e, _, hg, hq, n1, n2⟩ := getW_of q3 r2.fr.fh hv2 r2.topS
    cases r with
    | none => exact hq.elim
    | some w' =>
      obtain ⟨x, rfl, rx⟩ := n2 w' rfl
      exact ⟨a', x, e, hg, k _ _ _ _ _ (p1.back (r2.pop.pushS rx)) hq⟩
def qDIn (neg : Bool) (tk : TQ) (td : TVQ) : TQ := fun ρ Q => tk ρ fun ρ1 dk => lookD dk fun k => td ρ1 fun ρ2 p => look ρ2 p fun d => getW d k fun o => Q ρ2 (.bl (neg != o.isSome))
instance {td ty : TE} {τd : TVQ} {τk : TQ} [SV c td τd] [SE c ty τk] : SE c (tDIn ty td) (qDIn false τk τd) where
  sim {F H σ ρ ts Q Qp} rl h k := SE.simW (t := ty) rl h fun u w ρ1 F1 H1 r1 q1 => SV.sim (t := td) r1 q1 fun v p ρ2 F2 H2 ts2 p2 r2 q2 => by
    obtain ⟨d, hv2, q3⟩ := r2.see p2.has.1 q2
    have hu := r2.mem (p2.has.2 _ List.mem_cons_self)
    obtain ⟨a', o, r, e, _, hg, hq, n1, n2⟩ := getW_of q3 r2.fr.fh hv2 hu
    have eo : o.isSome = r.isSome := by
      cases r with
      | none => rw [n1 rfl]; rfl
      | some w' => obtain ⟨x, rfl, _⟩ := n2 w' rfl; rfl
    refine ⟨a', o, e, hg, k _ _ _ _ _ (p2.back (r2.pushS (.v _))).pop2 ?_⟩
    rw [Bool.false_bne] at hq
    rw [eo]; exact hq
instance {td ty : TE} {τd : TVQ} {τk : TQ} [SV c td τd] [SE c ty τk] : SE c (tDNotIn ty td) (qDIn true τk τd) where
  sim {F H σ ρ ts Q Qp} rl h k := SE.simW (t := ty) rl h fun u w ρ1 F1 H1 r1 q1 => SV.sim (t := td) r1 q1 fun v p ρ2 F2 H2 ts2 p2 r2 q2 => by
    obtain ⟨d, hv2, q3⟩ := r2.see p2.has.1 q2
    have hu := r2.mem (p2.has.2 _ List.mem_cons_self)
    obtain ⟨a', o, r, e, _, hg, hq, n1, n2⟩ := getW_of q3 r2.fr.fh hv2 hu
    have eo : o.isSome = r.isSome := by
      cases r with
      | none => rw [n1 rfl]; rfl
      | some w' => obtain ⟨x, rfl, _⟩ := n2 w' rfl; rfl
    refine ⟨a', o, e, hg, k _ _ _ _ _ (p2.back (r2.pushS (.v _))).pop2 ?_⟩
    rw [Bool.true_bne] at hq
    rw [eo]; exact hq
/-! ### {key: val for ..}, the keys tuples -/
def qDcL (g : TGQ) (tt : TTQ) (tk tv : TQ) (vs : List Nat) (k : List D → List (List Key) → List W → Prop) : List W → List D → List (List Key) → List W → Prop
  | [], ρ, ks, acc => k ρ ks acc
  | w :: ws, ρ, ks, acc => g (.sh w) ρ fun ρ1 => tt ρ1 fun ρ2 b => if b = true then tk ρ2 fun ρ3 dk => lookD dk fun wk => tv ρ3 fun ρ4 d => lookD d fun w => match wk with
      | .tup us => match keysW us with
        | some key => qDcL g tt tk tv vs k ws (wipeD ρ4 vs) (dput ks acc key w).1 (dput ks acc key w).2
        | none => False
      | _ => False
    else qDcL g tt tk tv vs k ws (wipeD ρ2 vs) ks acc
def qDc (it : TIQ) (g : TGQ) (tt : TTQ) (tk tv : TQ) (vs : List Nat) : TQ := fun ρ Q => it ρ fun ρ1 ws => ws.length ≤ 100000 ∧ qDcL g tt tk tv vs (fun ρ2 ks acc => Q (mrg ρ1 ρ2 vs) (.dit ks acc)) ws (wipeD ρ1 vs) [] []
theorem dcT_it {J : It} {n : Nat} {G : Hp → Prop} {Y : Nat → Hp → V → Hp → Prop} (w : Walk J n G Y) {g : TG} {tt : TT} {tk tv : TE} {vs : List Nat} {σ : L2.St} {H1 : Hp} {D : Addr} {Qd : Hp → Prop} (Pv : Nat → Hp → Prop) (h0 : Pv 0 (upd H1 D (.dT []))) (hG : ∀ i H, i ≤ n → Pv i H → G H)
    (hs : ∀ i x H H', i < n → Pv i H → Y i H x H' → g x (wipe σ vs) H' fun σ2 H2 => wipe σ2 vs = wipe σ vs ∧ tt σ2 H2 fun b H3 =>
      if b = true then tk σ2 H3 fun y H4 => tv σ2 H4 fun z H5 => ∃ (kvs : List (List Key × V)) (k : List Key) (x : Addr), y = .ref x ∧ H5 x = some (.tup (k.map kV)) ∧ H5 D = some (.dT kvs) ∧ kvs.length < sizeLine ∧ Pv (i + 1) (upd H5 D (.dT (putK kvs k z))) else Pv (i + 1) H3) (hd : ∀ H, Pv n H → Qd H) :
    ∃ W : Nat → Nat → Hp → Prop, (∃ m, W 0 m (upd H1 D (.dT []))) ∧ ∀ i m H, W i m H →
      (J.stop i H ∧ Qd H) ∨ (J.go i H ∧ ∃ Nx : Hp → Prop, (∀ H', Nx H' → ∃ m', m' < m ∧ W (i + 1) m' H') ∧ ∀ x H', J.yld i H x H' → g x (wipe σ vs) H' fun σ2 H2 => wipe σ2 vs = wipe σ vs ∧ tt σ2 H2 fun b H3 =>
        if b = true then tk σ2 H3 fun y H4 => tv σ2 H4 fun z H5 => ∃ (kvs : List (List Key × V)) (k : List Key) (x : Addr), y = .ref x ∧ H5 x = some (.tup (k.map kV)) ∧ H5 D = some (.dT kvs) ∧ kvs.length < sizeLine ∧ Nx (upd H5 D (.dT (putK kvs k z))) else Nx H3) := by
  refine ⟨fun i m H => m = n - i ∧ i ≤ n ∧ Pv i H, ⟨n, by simp, Nat.zero_le _, h0⟩, ?_⟩
  rintro i m H ⟨rfl, hi, p⟩
  have q := hG i H hi p
  by_cases hlt : i < n
  · refine .inr ⟨w.goes i H hlt q, Pv (i + 1), fun H' p' => ⟨n - (i + 1), by omega, rfl, hlt, p'⟩, fun x H' y => hs i x H H' hlt p (w.yields i H x H' hlt q y)⟩
  · have e : i = n := by omega
    subst e
    exact .inl ⟨w.stops H q, hd H p⟩
theorem wipe_wipe {σ σ2 : L2.St} {sl vs : List Nat} (o2 : Only sl (L2.wipe σ vs) σ2) (z : ∀ i ∈ sl, i ∈ vs) : L2.wipe σ2 vs = L2.wipe σ vs := by
  rw [o2 vs z]
  apply List.ext_getElem?
  intro j
  rw [wipe_get, wipe_get]
  by_cases hj : j ∈ vs
  · rw [if_pos hj, if_pos hj]
    cases σ[j]? <;> rfl
  · rw [if_neg hj, if_neg hj]
theorem dput_few {κ α : Type} [DecidableEq κ] {ks : List κ} {ws : List α} {k : κ} {w : α} : (dput ks ws k w).1.length ≤ ks.length + 1 := by
  unfold dput
  split
  · exact Nat.le_succ _
  · simp
instance {wi : TI} {g : TG} {tt : TT} {tk tv : TE} {vs : List Nat} {τi : TIQ} {sl : List Nat} {γ : TGQ} {τt : TTQ} {τk τv : TQ} [SI c wi τi] [∀ F1, SG (c.re F1) g sl γ] [∀ F1, ST (c.re F1) tt τt] [∀ F1, SE (c.re F1) tk τk] [∀ F1, SE (c.re F1) tv τv] [z : Within sl vs] : SE c (tDcT wi g tt tk tv vs) (qDc τi γ τt τk τv vs) where
  sim {F H σ ρ ts Q Qp} rl h k := SI.sim (t := wi) rl h fun J ws ρ1 F1 H1 r1 it q1 => by
    intro L hL
    obtain ⟨hz, q1⟩ := q1
    have e0 := r1.fr.ff
    have n0 := r1.fr.nw
    let kk : List D → List (List Key) → List W → Prop := fun ρ2 ks acc => Qp (mrg ρ1 ρ2 vs) (.dit ks acc)
    refine dcT_it (G := fun H => Same F1 H) it (fun i H => ∃ F ρ ks acc, Rel (c.re F1) F H (L2.wipe σ vs) ρ ((.ref L, .dit ks acc) :: ts) ∧ ks.length ≤ i ∧ qDcL γ τt τk τv vs kk (ws.drop i) ρ ks acc) ?_ (fun i H _ ⟨F, ρ, ks, acc, r, _⟩ => r.fr.ff.trans r.fr.fh) (fun i x H H' hi ⟨F, ρ, ks, acc, r, ha, q⟩ y => ?_) (fun H ⟨F, ρ, ks, acc, r, ha, q⟩ => ?_)
    · exact ⟨F1, _, [], [], (((r1.wipe vs).re (Same.refl _) e0).newO (o := .dT []) hL fun S s m => .dit (us := []) s m upd_same rfl .nil), Nat.zero_le _, q1⟩
    · obtain ⟨w, F', hw, e, r'⟩ := r.turn r.fr.ff y
      rw [drop_cons hw] at q
      refine SG.sim (c := c.re F1) (g := g) r' q fun σ2 ρ2 F2 H2 r2 o2 q2 => ?_
      have hwp := wipe_wipe o2 z.sub
      refine ⟨hwp, ST.sim (c := c.re F1) (t := tt) r2 q2 fun b ρ3 F3 H3 r3 q3 => ?_⟩
      cases b with
      | false => exact ⟨F3, _, ks, acc, by rw [← hwp]; exact r3.wipe vs, by omega, q3⟩
      | true =>
        refine SE.simW (c := c.re F1) (t := tk) r3 q3 fun v w ρ4 F4 H4 r4 q4 => SE.simW (c := c.re F1) (t := tv) r4 q4 fun u w' ρ5 F5 H5 r5 q5 => ?_
        have rk := r5.pop.topS
        split at q5
        next us0 =>
          split at q5
          next key hkey =>
            cases rk with
            | @tup xa xs _ ex rx =>
              have exs := keysW_of hkey rx
              rw [exs] at ex
              have rv := r5.topS
              have r6 := r5.pop.pop
              obtain ⟨S, o6⟩ := r6.top
              cases o6 with
              | @dit _ _ _ us _ s0 m hx l rr =>
                refine ⟨_, key, xa, rfl, r5.fr.fh _ _ ex, hx, ?_, F5, _, (dput ks acc key w').1, (dput ks acc key w').2, ?_, ?_, q5⟩
                · rw [List.length_zip, l, Nat.min_self, sizeLine_eq]; omega
                · rw [← hwp, putK_zip l]
                  obtain ⟨e1, e2⟩ := RepL.dput (ks := ks) (k := key) rr rv
                  refine Rel.wipe (Rel.mutT (d' := .dit (dput ks acc key w').1 (dput ks acc key w').2) r6 fun T o => ?_) vs
                  cases o with
                  | dit s0' m' hx' l' rr' => exact ⟨s0', .dit (us := (dput ks us key u).2) s0' m' (by rw [upd_same, e1]) (by rw [dput_len l, e1]) e2⟩
                · have := dput_few (ks := ks) (ws := acc) (k := key) (w := w')
                  omega
          next => exact q5.elim
        next => exact q5.elim
    · rw [List.drop_length] at q
      have r2 := Rel.unwipe (c := c.re F1) (r1.re (Same.refl _) e0) r.fr.ff vs r
      exact k _ _ _ _ _ (r2.unre e0 n0) q
/-! ### lists that are changed -/
def qAppend (s : Nat) (t : TQ) : TQ := fun ρ Q => match ρ[s]? with
  | some (.lst _) => t ρ fun ρ1 d => lookD d fun w => match ρ1[s]? with
    | some (.lst ws) => ws.length < 100000 ∧ Q (ρ1.set s (.lst (ws ++ [w]))) .non
    | _ => False
  | _ => False
instance {s : Nat} {t : TE} {τ : TQ} [SE c t τ] : SE c (tBM K "list" rAppend (tVar s) (tCons t tNil)) (qAppend s τ) where
  sim {F H σ ρ ts Q Qp} rl h k := by
    unfold qAppend at h
    split at h
    next ws0 es =>
      obtain ⟨x, S, h1, h2⟩ := rl.slot es (fun z => nomatch z)
      have tyx : tyV K "list" x H := by
        cases h2 with | lst s0 m hx rr => exact .inl ⟨rfl, _, SqL.of hx⟩
      refine ⟨x, h1, tyx, SE.simW (t := t) (Qp := fun ρ1 w => match ρ1[s]? with
        | some (.lst ws) => ws.length < 100000 ∧ Qp (ρ1.set s (.lst (ws ++ [w]))) .non
        | _ => False) rl h fun v w ρ1 F1 H1 r1 q1 => ?_⟩
      split at q1
      next ws es1 =>
        obtain ⟨x', S', h3, h4⟩ := r1.slot es1 (fun z => nomatch z)
        rw [h1] at h3
        cases h3
        cases h4 with
        | @lst _ a us _ s0 m ha rr =>
          refine ⟨a, us, v, rfl, rfl, ha, by rw [rr.len, sizeLine_eq]; omega, k _ _ _ _ _ (Rel.pushS (r1.pop.mutS es1 (d' := .lst (ws ++ [w])) (fun z => nomatch z) h1 fun T o => ?_) (.v .non)) q1.2⟩
          cases o with
          | lst s0' m' ha' rr' =>
            rw [ha] at ha'
            cases ha'
            exact ⟨s0', .lst s0' m' upd_same (rr'.app (.cons r1.topS .nil))⟩
      next => exact q1.elim
    next => exact h.elim
def qExtend (s : Nat) (t : TVQ) : TQ := fun ρ Q => match ρ[s]? with
  | some (.lst _) => t ρ fun ρ1 p => look ρ1 p fun w => match w, ρ1[s]? with
    | .lst xs, some (.lst ws) => ws.length + xs.length ≤ 100000 ∧ Q (ρ1.set s (.lst (ws ++ xs))) .non
    | _, _ => False
  | _ => False
instance {s : Nat} {t : TE} {τ : TVQ} [SV c t τ] : SE c (tBM K "list" rExtend (tVar s) (tCons t tNil)) (qExtend s τ) where
  sim {F H σ ρ ts Q Qp} rl h k := by
    unfold qExtend at h
    split at h
    next ws0 es =>
      obtain ⟨x, S, h1, h2⟩ := rl.slot es (fun z => nomatch z)
      have tyx : tyV K "list" x H := by
        cases h2 with | lst s0 m hx rr => exact .inl ⟨rfl, _, SqL.of hx⟩
      refine ⟨x, h1, tyx, SV.sim (t := t) rl h fun v p ρ1 F1 H1 ts1 p1 r1 q1 => ?_⟩
      obtain ⟨w, hv, q1⟩ := r1.see p1.has.1 q1
      split at q1
      next xs ws es1 =>
        obtain ⟨x', S', h3, h4⟩ := r1.slot es1 (fun z => nomatch z)
        rw [h1] at h3
        cases h3
        obtain ⟨a2, us2, rfl, e2, rr2⟩ := hv.lst r1.fr.fh
        cases h4 with
        | @lst _ a us _ s0 m ha rr =>
          refine ⟨a, a2, us, us2, rfl, rfl, ha, e2, le_line (by rw [rr.len, rr2.len]; exact q1.1) (by decide), k _ _ _ _ _ (Rel.pushS ((p1.back0 r1).mutS es1 (d' := .lst (ws ++ xs)) (fun z => nomatch z) h1 fun T o => ?_) (.v .non)) q1.2⟩
          cases o with
          | lst s0' m' ha' rr' =>
            rw [ha] at ha'
            cases ha'
            exact ⟨s0', .lst s0' m' upd_same (rr'.app rr2)⟩
      next => exact q1.elim
    next => exact h.elim
def qPop (s : Nat) : TQ := fun ρ Q => match ρ[s]? with
  | some (.lst ws) => match ws[ws.length - 1]? with
    | some w => Q (ρ.set s (.lst ws.dropLast)) (.sh w)
    | none => False
  | _ => False
theorem RepL.dropLast {b : Addr} {F : Hp} {vs : List V} {ws : List W} (r : RepL K b F vs ws) : RepL K b F vs.dropLast ws.dropLast := by
  rw [List.dropLast_eq_take, List.dropLast_eq_take, r.len]
  exact r.take _
instance {s : Nat} : SE c (tBM0 K "list" rPop (tVar s)) (qPop s) where
  sim {F H σ ρ ts Q Qp} rl h k := by
    unfold qPop at h
    split at h
    next ws es =>
      split at h
      next w hw =>
        obtain ⟨x, S, h1, h2⟩ := rl.slot es (fun z => nomatch z)
        cases h2 with
        | @lst _ a us _ s0 m ha rr =>
          obtain ⟨u, hu, ru⟩ := rr.get hw
          rw [← rr.len] at hu
          refine ⟨.ref a, h1, .inl ⟨rfl, _, SqL.of ha⟩, a, us, u, rfl, rfl, ha, hu, k _ _ _ _ _ (Rel.pushS (rl.mutS es (d' := .lst ws.dropLast) (fun z => nomatch z) h1 fun T o => ?_) ru) h⟩
          cases o with
          | lst s0' m' ha' rr' =>
            rw [ha] at ha'
            cases ha'
            exact ⟨s0', .lst s0' m' upd_same rr'.dropLast⟩
      next => exact h.elim
    next => exact h.elim
/-! ### truth -/
def truW : W → Option Bool
  | .v .non => some false
  | .v (.bl b) => some b
  | .v (.int i) => some (i != 0)
  | .lst ws => some (!ws.isEmpty)
  | .tup ws => some (!ws.isEmpty)
  | _ => none
theorem truW_of {F H : Hp} {v : V} {w : W} {k : Bool} (h : truW w = some k) (r : Vw c F H v w) (e : Same F H) : TruV K v H k := by
  cases w with
  | v x => rw [r.flat]; cases x <;> cases h <;> rfl
  | lst ws =>
    obtain ⟨a, us, rfl, h1, rr⟩ := r.lst e
    cases h
    refine .inl ⟨us, SqL.of h1, ?_⟩
    cases rr <;> rfl
  | tup ws =>
    obtain ⟨a, us, rfl, g1, h1, rr⟩ := r.tup e
    cases h
    refine .inr (.inl ⟨us, SqT.of h1, ?_⟩)
    cases rr <;> rfl
  | _ => cases h
def tTruR (K : PySem.W.Frag) (ta : TE) : TT := fun σ H Q => ta σ H fun x H' => ∃ k, TruV K x H' k ∧ Q k H'
theorem pt_tru (K : PySem.W.Frag) {X : L2.Cx} {a : Expr} {ta : TE} (ha : PE X a ta) (hK : X.K = K := by rfl) (he : ∀ whole, isTrue a X.env whole = (do let v ← whole; standAt a.pos; holding [v] (truthy v)) := by intro _; rfl) : PT X a (tTruR K ta) := by subst hK; exact pt_truth ha he
def qTru (t : TVQ) : TTQ := fun ρ Q => t ρ fun ρ1 p => look ρ1 p fun w => match truW w with
  | some k => Q ρ1 k
  | none => False
instance {t : TE} {τ : TVQ} [SV c t τ] : ST c (tTruR K t) (qTru τ) where
  sim {F H σ ρ ts Q Qp} rl h k := SV.sim (t := t) rl h fun v p ρ1 F1 H1 ts1 p1 r1 q1 => by
    obtain ⟨w, hv, q1⟩ := r1.see p1.has.1 q1
    split at q1
    next b hb => exact ⟨b, truW_of hb hv r1.fr.fh, k _ _ _ _ (p1.back0 r1) q1⟩
    next => exact q1.elim
/-- x or y, x a list of one's own (or shared) -/
def qOrT (ta tb : TQ) : TQ := fun ρ Q => ta ρ fun ρ1 d => lookD d fun w => match truW w with
  | some true => Q ρ1 d
  | some false => tb ρ1 Q
  | none => False
instance {ta tb : TE} {τa τb : TQ} [SE c ta τa] [SE c tb τb] : SE c (tOrT K ta tb) (qOrT τa τb) where
  sim {F H σ ρ ts Q Qp} rl h k := SE.sim (t := ta) (τ := τa) rl h fun v d ρ1 F1 H1 r1 q1 => by
    obtain ⟨w, hw, q1⟩ := lookD_ex q1
    obtain ⟨S, o⟩ := r1.top
    have tv : ∀ k, truW w = some k → TruV K v H1 k := fun k hk => truW_of hk ⟨S, d, o, hw⟩ r1.fr.fh
    split at q1
    next e => exact ⟨true, tv _ e, by rw [if_pos rfl]; exact k _ _ _ _ _ r1 q1⟩
    next e => exact ⟨false, tv _ e, by rw [if_neg (fun z => nomatch z)]; exact SE.sim (t := tb) r1.pop q1 k⟩
    next => exact q1.elim
/-! ### isinstance, repr -/
def tyW : W → Option String
  | .v .non => some "NoneType"
  | .v (.bl _) => some "bool"
  | .v (.int _) => some "int"
  | .v (.str _) => some "str"
  | .lst _ => some "list"
  | .tup _ => some "tuple"
  | .dic _ _ => some "dict"
  | .dit _ _ => some "dict"
  | .set _ _ => some "set"
  | _ => none
theorem tyW_of {F H : Hp} {v : V} {w : W} {T : String} (h : tyW w = some T) (r : Vw c F H v w) (e : Same F H) : TyX K H v (.type T) := by
  cases w with
  | v x =>
    rw [r.flat]
    cases x with
    | non => cases h; exact .base .non
    | bl b => cases h; exact .base (.bl b)
    | int i => cases h; exact .base (.int i)
    | str z => cases h; exact .base (.str z)
    | _ => cases h
  | lst ws => obtain ⟨a, us, rfl, h1, rr⟩ := r.lst e; cases h; exact .base (.lst h1)
  | tup ws => obtain ⟨a, us, rfl, g1, h1, rr⟩ := r.tup e; cases h; exact .base (.tup h1)
  | dic ks ws => obtain ⟨a, us, rfl, h1, l, rr⟩ := r.dic e; cases h; exact .base (.dK h1)
  | dit ks ws => obtain ⟨a, us, rfl, h1, l, rr⟩ := r.dit e; cases h; exact .base (.dT h1)
  | set T n => obtain ⟨a, rfl, h1⟩ := r.set e; cases h; exact .set h1
  | _ => cases h
def tys : List String := ["NoneType", "bool", "int", "str", "list", "tuple", "dict", "set"]
/-- isinstance(x, T) -/
def isA (w : W) (T : String) : Bool := match tyW w with
  | some t => (t == T) || (t == "bool" && T == "int")
  | none => false
def bIsi : List W → (D → Prop) → Prop := fun xs k => match xs with
  | [x, .v (.ty T)] => (tyW x).isSome = true ∧ tys.contains T = true ∧ k (.bl (isA x T))
  | _ => False
theorem kit_tys : (tys.all fun t => tys.all fun T => decide (kitB t T = some ((t == T) || (t == "bool" && T == "int")))) = true := by decide +kernel
theorem kit_any {K : PySem.W.Frag} {t T : String} (h1 : t ∈ tys) (h2 : T ∈ tys) : PySem.W.kitOne K (.type t) (.type T) = some ((t == T) || (t == "bool" && T == "int")) := by
  have h := kit_tys
  rw [List.all_eq_true] at h
  have h3 := h t h1
  rw [List.all_eq_true] at h3
  exact kit_ty (of_decide_eq_true (h3 T h2))
theorem tyW_mem {w : W} {t : String} (h : tyW w = some t) : t ∈ tys := by
  unfold tyW at h
  split at h <;> cases h <;> decide
instance : SC c (rIsi K) bIsi where
  sim {F H σ ρ ts xs ws Q Qp} rl hx h k := by
    unfold bIsi at h
    split at h
    next x T =>
      obtain ⟨v, u, rfl, hv, hu⟩ := hx.two
      obtain ⟨h1, h2, h3⟩ := h
      cases e : tyW x with
      | none => rw [e] at h1; cases h1
      | some t =>
        have hq : isA x T = ((t == T) || (t == "bool" && T == "int")) := by unfold isA; rw [e]
        rw [hq] at h3
        rw [hu.flat]
        exact ⟨v, .ty T, .type t, .type T, _, rfl, .ty T, tyW_of e hv rl.fr.fh, kit_any (tyW_mem e) (List.contains_iff_mem.mp h2), k _ _ _ _ (rl.pushS (.v _)) h3⟩
    next => exact h.elim
end
end R

/-! ## R10: texts of values; len of a set of tuples -/
namespace R
open PySem PySem.Spec PyProof.Rows L2 G
mutual
theorem Dp.da {K : PySem.W.Frag} {H : Hp} : ∀ {d : PyData} {v : V}, Dp K H v d → Da K H v d
  | _, _, .non => .non
  | _, _, .bl b => .bl b
  | _, _, .int i => .int i
  | _, _, .str x => .str x
  | _, _, .lst a r => .lst a (DpAll.da r)
  | _, _, .tup a r => .tup a (DpAll.da r)
theorem DpAll.da {K : PySem.W.Frag} {H : Hp} : ∀ {d : List PyData} {v : List V}, DpAll K H v d → DaL K H v d
  | _, _, .nil => .nil
  | _, _, .cons a r => .cons (Dp.da a) (DpAll.da r)
end
/-- data that may be shown -/
def shows (w : W) : Prop := w.ok 20 = true ∧ Sm 60 1000000 w.dat
section
variable {K : PySem.W.Frag} {c : Cx K}
def bRepr : List W → (D → Prop) → Prop := fun xs k => match xs with
  | [w] => shows w ∧ k (.str w.dat.shown)
  | _ => False
instance : SC c (rRepr K) bRepr where
  sim {F H σ ρ ts xs ws Q Qp} rl hx h k := by
    unfold bRepr at h
    split at h
    next w =>
      obtain ⟨v, rfl, hv⟩ := hx.one
      obtain ⟨⟨h1, h2⟩, h3⟩ := h
      exact ⟨v, w.dat, rfl, Dp.da (hv.dp rl.fr.fh h1), h2.sh, h2.dp, Nat.le_trans h2.ln (by rw [sizeLine_eq]; decide), k _ _ _ _ (rl.pushS (.v _)) h3⟩
    next => exact h.elim
theorem eq_refl {w : W} {n : Nat} (h : w.ok n = true) : W.eq w w = true := SeqAt.eqv_refl _ (W.lay w n h).1
/-! ### len({tuple for ..}) -/
def rLenT (P : Program) (K : PySem.W.Frag) (w : World) : List V → Hp → VK → Prop := fun xs H Q => ∃ (a : Addr) (L : List (Addr × List Int)), xs = [.ref a] ∧ H a = some (SetTO P w a L) ∧ (∀ p ∈ L, SqT K H p.1 (p.2.map V.int)) ∧ Q (.int (L.length : Int)) H
theorem klenT (K : PySem.W.Frag) {X : L2.Cx} (h : X.K = K := by rfl) : CallR X (.builtin "len") (rLenT X.prog K X.w) := call_lenT K h
def intsW : List W → Option (List Int)
  | [] => some []
  | .v (.int i) :: ws => (intsW ws).map fun is => i :: is
  | _ :: _ => none
theorem intsW_of {b : Addr} {F : Hp} : ∀ {vs : List V} {ws : List W} {ks : List Int}, intsW ws = some ks → RepL K b F vs ws → vs = ks.map V.int
  | _, [], ks, h, r => by cases h; cases r; rfl
  | _, .v (.int i) :: ws, ks, h, r => by
    cases r with
    | cons a r =>
      unfold intsW at h
      cases e : intsW ws with
      | none => rw [e] at h; cases h
      | some k =>
        rw [e] at h
        cases h
        rw [a.flat, intsW_of e r]
        rfl
  | _, .v .non :: ws, ks, h, r => by cases h
  | _, .v (.bl _) :: ws, ks, h, r => by cases h
  | _, .v (.str _) :: ws, ks, h, r => by cases h
  | _, .v (.byt _) :: ws, ks, h, r => by cases h
  | _, .v (.flt _) :: ws, ks, h, r => by cases h
  | _, .v (.ref _) :: ws, ks, h, r => by cases h
  | _, .v (.ty _) :: ws, ks, h, r => by cases h
  | _, .lst _ :: ws, ks, h, r => by cases h
  | _, .tup _ :: ws, ks, h, r => by cases h
  | _, .dic _ _ :: ws, ks, h, r => by cases h
  | _, .dit _ _ :: ws, ks, h, r => by cases h
  | _, .obj _ _ _ :: ws, ks, h, r => by cases h
  | _, .set _ _ :: ws, ks, h, r => by cases h
  | _, .bag :: ws, ks, h, r => by cases h
def qScL (g : TGQ) (tt : TTQ) (te : TQ) (vs : List Nat) (k : List D → List (List Int) → Prop) : List W → List D → List (List Int) → Prop
  | [], ρ, acc => k ρ acc
  | w :: ws, ρ, acc => g (.sh w) ρ fun ρ1 => tt ρ1 fun ρ2 b => if b = true then te ρ2 fun ρ3 d => lookD d fun w => match w with
      | .tup us => match intsW us with
        | some key => qScL g tt te vs k ws (wipeD ρ3 vs) (acc ++ [key])
        | none => False
      | _ => False
    else qScL g tt te vs k ws (wipeD ρ2 vs) acc
/-- how many different ones -/
def ndiff : List (List Int) → Nat
  | [] => 0
  | k :: ks => if k ∈ ks then ndiff ks else ndiff ks + 1
theorem ndiff_le : ∀ ks : List (List Int), ndiff ks ≤ ks.length
  | [] => Nat.le_refl _
  | k :: ks => by
    have := ndiff_le ks
    rw [ndiff, List.length_cons]
    split <;> omega
theorem ndiff_eq : ∀ ks : List (List Int), ndiff ks = ks.length ↔ ks.Nodup
  | [] => by simp [ndiff]
  | k :: ks => by
    have h1 := ndiff_le ks
    have h2 := ndiff_eq ks
    rw [ndiff, List.length_cons, List.nodup_cons]
    split
    next h => exact ⟨fun z => by omega, fun z => absurd h z.1⟩
    next h => exact ⟨fun z => ⟨h, h2.mp (by omega)⟩, fun z => by rw [h2.mpr z.2]⟩
/-- a list of different ones, just those of ks -/
theorem ndiff_of : ∀ {ks ls : List (List Int)}, ls.Nodup → (∀ x, x ∈ ls ↔ x ∈ ks) → ls.length = ndiff ks
  | [], ls, _, h => by
    have e : ls = [] := List.eq_nil_iff_forall_not_mem.mpr fun x hx => nomatch (h x).mp hx
    rw [e]; rfl
  | k :: ks, ls, nd, h => by
    rw [ndiff]
    by_cases hk : k ∈ ks
    · rw [if_pos hk]
      exact ndiff_of nd fun x => by
        rw [h x]
        constructor
        · intro m
          rcases List.mem_cons.mp m with e | m
          · rw [e]; exact hk
          · exact m
        · exact fun m => List.mem_cons_of_mem _ m
    · rw [if_neg hk]
      have hm : k ∈ ls := (h k).mpr List.mem_cons_self
      have h2 := ndiff_of (ks := ks) (ls := ls.erase k) (nd.erase k) fun x => by
        rw [nd.mem_erase_iff, h x]
        constructor
        · rintro ⟨n, m⟩
          rcases List.mem_cons.mp m with e | m
          · exact absurd e n
          · exact m
        · exact fun m => ⟨fun e => hk (by rw [← e]; exact m), List.mem_cons_of_mem _ m⟩
      rw [← h2, List.length_erase_of_mem hm]
      have := List.length_pos_of_mem hm
      omega
def qLenSc (it : TIQ) (g : TGQ) (tt : TTQ) (te : TQ) (vs : List Nat) : TQ := fun ρ Q => it ρ fun ρ1 ws => ws.length ≤ 62 ∧ qScL g tt te vs (fun ρ2 acc => Q (mrg ρ1 ρ2 vs) (.int (ndiff acc : Int))) ws (wipeD ρ1 vs) []
theorem scT_it {P : Program} {w : World} {J : It} {n : Nat} {G : Hp → Prop} {Y : Nat → Hp → V → Hp → Prop} (wk : Walk J n G Y) {g : TG} {tt : TT} {te : TE} {vs : List Nat} {σ : L2.St} {H1 : Hp} {D : Addr} {Qd : Hp → Prop} (Pv : Nat → Hp → Prop) (h0 : Pv 0 (upd H1 D (SetTO P w D []))) (hG : ∀ i H, i ≤ n → Pv i H → G H)
    (hs : ∀ i x H H', i < n → Pv i H → Y i H x H' → g x (wipe σ vs) H' fun σ2 H2 => wipe σ2 vs = wipe σ vs ∧ tt σ2 H2 fun b H3 =>
      if b = true then te σ2 H3 fun y H4 => ∃ (x : Addr) (k : List Int) (L : List (Addr × List Int)), y = .ref x ∧ SqT K H4 x (k.map V.int) ∧ H4 D = some (SetTO P w D L) ∧ (∀ p ∈ L, SqT K H4 p.1 (p.2.map V.int)) ∧ L.length + 1 < 64 ∧
        ∀ L', (k ∈ L.map (·.2) → L' = L) → (k ∉ L.map (·.2) → L'.Perm ((x, k) :: L)) → Pv (i + 1) (upd H4 D (SetTO P w D L')) else Pv (i + 1) H3) (hd : ∀ H, Pv n H → Qd H) :
    ∃ W : Nat → Nat → Hp → Prop, (∃ m, W 0 m (upd H1 D (SetTO P w D []))) ∧ ∀ i m H, W i m H →
      (J.stop i H ∧ Qd H) ∨ (J.go i H ∧ ∃ Nx : Hp → Prop, (∀ H', Nx H' → ∃ m', m' < m ∧ W (i + 1) m' H') ∧ ∀ x H', J.yld i H x H' → g x (wipe σ vs) H' fun σ2 H2 => wipe σ2 vs = wipe σ vs ∧ tt σ2 H2 fun b H3 =>
        if b = true then te σ2 H3 fun y H4 => ∃ (x : Addr) (k : List Int) (L : List (Addr × List Int)), y = .ref x ∧ SqT K H4 x (k.map V.int) ∧ H4 D = some (SetTO P w D L) ∧ (∀ p ∈ L, SqT K H4 p.1 (p.2.map V.int)) ∧ L.length + 1 < 64 ∧
          ∀ L', (k ∈ L.map (·.2) → L' = L) → (k ∉ L.map (·.2) → L'.Perm ((x, k) :: L)) → Nx (upd H4 D (SetTO P w D L')) else Nx H3) := by
  refine ⟨fun i m H => m = n - i ∧ i ≤ n ∧ Pv i H, ⟨n, by simp, Nat.zero_le _, h0⟩, ?_⟩
  rintro i m H ⟨rfl, hi, p⟩
  have q := hG i H hi p
  by_cases hlt : i < n
  · refine .inr ⟨wk.goes i H hlt q, Pv (i + 1), fun H' p' => ⟨n - (i + 1), by omega, rfl, hlt, p'⟩, fun x H' y => hs i x H H' hlt p (wk.yields i H x H' hlt q y)⟩
  · have e : i = n := by omega
    subst e
    exact .inl ⟨wk.stops H q, hd H p⟩
theorem sqt_frozen {F H : Hp} {a : Addr} {xs : List V} (e : F a = some (.tup xs)) (h : Same F H) : SqT K H a xs := SqT.of (h _ _ e)
/-- the set so far: its members are shared tuples -/
structure SetIs (F : Hp) (L : List (Addr × List Int)) (acc : List (List Int)) : Prop where
  at_ : ∀ p ∈ L, F p.1 = some (.tup (p.2.map V.int))
  nd : (L.map (·.2)).Nodup
  mem : ∀ x, x ∈ L.map (·.2) ↔ x ∈ acc
theorem SetIs.up {F F' : Hp} {L : List (Addr × List Int)} {acc : List (List Int)} (h : SetIs F L acc) (e : Same F F') : SetIs F' L acc := ⟨fun p hp => e _ _ (h.at_ p hp), h.nd, h.mem⟩
theorem SetIs.add {F : Hp} {L L' : List (Addr × List Int)} {acc : List (List Int)} {x : Addr} {k : List Int} (h : SetIs F L acc) (hx : F x = some (.tup (k.map V.int))) (c1 : k ∈ L.map (·.2) → L' = L) (c2 : k ∉ L.map (·.2) → L'.Perm ((x, k) :: L)) : SetIs F L' (acc ++ [k]) := by
  by_cases hk : k ∈ L.map (·.2)
  · rw [c1 hk]
    exact ⟨h.at_, h.nd, fun y => by
      rw [h.mem y, List.mem_append, List.mem_singleton]
      exact ⟨.inl, fun z => z.elim id fun e => by rw [e]; exact (h.mem k).mp hk⟩⟩
  · have p := c2 hk
    have pm := p.map (·.2)
    refine ⟨fun q hq => ?_, ?_, fun y => ?_⟩
    · rcases List.mem_cons.mp (p.mem_iff.mp hq) with e | e
      · rw [e]; exact hx
      · exact h.at_ q e
    · rw [pm.nodup_iff]
      exact List.nodup_cons.mpr ⟨hk, h.nd⟩
    · rw [pm.mem_iff, List.map_cons, List.mem_cons, h.mem y, List.mem_append, List.mem_singleton]
      exact ⟨fun z => z.elim .inr .inl, fun z => z.elim .inr .inl⟩
instance (priority := 3000) {P : Program} {w : World} {wi : TI} {g : TG} {tt : TT} {te : TE} {vs : List Nat} {τi : TIQ} {sl : List Nat} {γ : TGQ} {τt : TTQ} {τe : TQ} [SI c wi τi] [∀ F1, SG (c.re F1) g sl γ] [∀ F1, ST (c.re F1) tt τt] [∀ F1, SE (c.re F1) te τe] [z : Within sl vs] : SE c (tCB (rLenT P K w) (tCons (tScT P K w wi g tt te vs) tNil)) (qLenSc τi γ τt τe vs) where
  sim {F H σ ρ ts Q Qp} rl h k := SI.sim (t := wi) rl h fun J ws ρ1 F1 H1 r1 it q1 => by
    intro L hL
    obtain ⟨hz, q1⟩ := q1
    have e0 := r1.fr.ff
    have n0 := r1.fr.nw
    let kk : List D → List (List Int) → Prop := fun ρ2 acc => Qp (mrg ρ1 ρ2 vs) (.int (ndiff acc : Int))
    refine scT_it (K := K) (P := P) (w := w) (G := fun H => Same F1 H) it (fun i H => ∃ F ρ S acc, Rel (c.re F1) F H (L2.wipe σ vs) ρ ((.ref L, .raw (SetTO P w L S)) :: ts) ∧ SetIs F S acc ∧ S.length ≤ i ∧ qScL γ τt τe vs kk (ws.drop i) ρ acc) ?_ (fun i H _ ⟨F, ρ, S, acc, r, _⟩ => r.fr.ff.trans r.fr.fh) (fun i x H H' hi ⟨F, ρ, S, acc, r, si, hs, q⟩ y => ?_) (fun H ⟨F, ρ, S, acc, r, si, hs, q⟩ => ?_)
    · exact ⟨F1, _, [], [], (((r1.wipe vs).re (Same.refl _) e0).newO (o := SetTO P w L []) hL fun S s m => .raw s m upd_same), ⟨fun p hp => (nomatch hp), List.nodup_nil, fun x => Iff.rfl⟩, Nat.zero_le _, q1⟩
    · obtain ⟨w0, F', hw, e, r'⟩ := r.turn r.fr.ff y
      rw [drop_cons hw] at q
      have f1 := r'.fr.ff
      have f2 := r'.fr.nw
      refine SG.sim (c := c.re F') (g := g) (Rel.re (c := c.re F1) r' (Same.refl _) f1) q fun σ2 ρ2 F2 H2 r2 o2 q2 => ?_
      have hwp := wipe_wipe o2 z.sub
      refine ⟨hwp, ST.sim (c := c.re F') (t := tt) r2 q2 fun b ρ3 F3 H3 r3 q3 => ?_⟩
      cases b with
      | false =>
        have r5 : Rel (c.re F1) F3 H3 σ2 ρ3 ((.ref L, .raw (SetTO P w L S)) :: ts) := Rel.unre (c := c.re F1) (F1 := F') r3 f1 f2
        exact ⟨F3, _, S, acc, by rw [← hwp]; exact r5.wipe vs, si.up (e.trans r3.fr.ff), by omega, q3⟩
      | true =>
        refine SE.simW (c := c.re F') (t := te) r3 q3 fun v w1 ρ4 F4 H4 r4 q4 => ?_
        split at q4
        next us0 =>
          split at q4
          next key hkey =>
            have rk := r4.topS
            cases rk with
            | @tup xa xs _ ex rx =>
              have exs := intsW_of hkey rx
              rw [exs] at ex
              have si4 := si.up (e.trans r4.fr.ff)
              have fh4 := r4.fr.fh
              have r5 : Rel (c.re F1) F4 H4 σ2 ρ4 ((.ref L, .raw (SetTO P w L S)) :: ts) := Rel.unre (c := c.re F1) (F1 := F') r4.pop f1 f2
              obtain ⟨T, o5⟩ := r5.top
              cases o5 with
              | raw s0 m hx =>
                refine ⟨xa, key, S, rfl, sqt_frozen ex fh4, hx, fun p hp => sqt_frozen (si4.at_ p hp) fh4, by omega, fun L' c1 c2 => ⟨F4, _, L', acc ++ [key], ?_, si4.add ex c1 c2, ?_, q4⟩⟩
                · rw [← hwp]
                  refine Rel.wipe (Rel.mutT (d' := .raw (SetTO P w L L')) r5 fun T o => ?_) vs
                  cases o with
                  | raw s0' m' hx' => exact ⟨s0', .raw s0' m' upd_same⟩
                · by_cases hk : key ∈ S.map (·.2)
                  · rw [c1 hk]; omega
                  · rw [(c2 hk).length_eq, List.length_cons]; omega
          next => exact q4.elim
        next => exact q4.elim
    · rw [List.drop_length] at q
      have r2 := Rel.unwipe (c := c.re F1) (r1.re (Same.refl _) e0) r.fr.ff vs r
      obtain ⟨T, o⟩ := r.top
      cases o with
      | raw s0 m hx =>
        refine ⟨L, S, rfl, hx, fun p hp => sqt_frozen (si.at_ p hp) r.fr.fh, k _ _ _ _ _ ((r2.unre e0 n0).pop.pushS (.v _)) ?_⟩
        have en : S.length = ndiff acc := by rw [← List.length_map (as := S) (·.2)]; exact ndiff_of si.nd si.mem
        rw [en]
        exact q
end
end R

/-! ## R11: the rules with the written part as a letter; where the classes stand -/
namespace R
open PySem PySem.Spec PyProof.Rows L2 G
structure Ad where
  (Cluster LeadError Wrong NotLegal Stopped NoBundle Frozen NotValid NotLed Impossible TooMany Nothing NoText NoCommand Net Flow Mover Book Desk : Addr)
section
variable (K : PySem.W.Frag) {X : L2.Cx}
theorem kfld (C : Addr) {e : Expr} {ta : TE} {f : Str} {pos : Pos} (he : PE X e ta) (hK : X.K = K := by rfl) (hb : attributeBase e f X.env (eval e X.env) = eval e X.env := by rfl) : PE X (.Attribute e f pos) (tFldC C K ta f) := by subst hK; exact pe_fld he hb
theorem ksfld (C : Addr) {o value : Expr} {ta tv : TE} {f : Str} {pos pos' : Pos} (ha : PE X o ta) (hv : PE X value tv) (hK : X.K = K := by rfl) (hs : swapsWith value (some (.Attribute o f pos')) pos.line X.env = pure false := by rfl) : PS X (.Assign [.Attribute o f pos'] value pos) (sFldC C K ta tv f) := by subst hK; exact ps_fld ha hv hs
theorem kgtup {es : List Expr} {k : Nat} {t : TGs} {n : Nat} {pos : Pos} (h : PGs X es t) (hK : X.K = K := by rfl) (hc : X.calm = true := by rfl) (hn : (assignEach es X.env).length = n := by rfl) (hst : (assignEach es X.env).findIdx? (·.1) = none := by rfl) : PG X (.Tuple es k pos) (gTup K n t) := by subst hK; exact pg_tup hc h hn hst
theorem kget (hK : X.K = K := by rfl) : PGet X (rGetN K) := by subst hK; exact get_list
theorem krevL {e : Expr} {te : TE} {k : Nat} {p1 p2 p3 pos : Pos} (he : PE X e te) (hK : X.K = K := by rfl) : PE X (.Subscript e (.Slice none none (some (.UnaryOp .USub (.Constant (.int 1) k p1) p2)) p3) pos) (tRevL K te) := by subst hK; exact pe_revL he
theorem korT {a b : Expr} {ta tb : TE} {rest : List Expr} {pos : Pos} (ha : PE X a ta) (hb : PE X (.BoolOp .Or (b :: rest) pos) tb) (hK : X.K = K := by rfl) : PE X (.BoolOp .Or (a :: b :: rest) pos) (tOrT K ta tb) := by subst hK; exact pe_orT ha hb
theorem kbm0 {o : Expr} {to : TE} {name : Str} {apos cpos : Pos} {T id : String} {r : V → List V → Hp → VK → Prop} (pa : PlainAttrs T) (slot : Slot T name id) (hty : typeOf (.builtin id) = pure (.type "method_descriptor")) (hm : MtR X id r) (ho : PE X o to) (hK : X.K = K := by rfl)
    (hbase : attributeBase o name X.env (eval o X.env) = eval o X.env := by rfl) (hline : (apos.endLine == cpos.line) = true := by rfl) : PE X (.Call (.Attribute o name apos) [] [] cpos) (tBM0 K T r to) := by subst hK; exact pe_bm0 pa slot hty hm ho hbase hline
theorem krev {tg e : Expr} {ta : TA} {p pos : Pos} (hg : Gl X "reversed") (hm : X.mg "reversed" = none) (ha : PA X [e] ta) (hK : X.K = K := by rfl) (hs : starEach [e] X.env = [(false, eval e X.env)] := by rfl) : PI X tg (.Call (.Name "reversed" p) [e] [] pos) (iRev K ta) := by subst hK; exact pi_reversed hg hm ha hs
theorem kenu {e : Expr} {ta : TA} {p pos tpos : Pos} {elts : List Expr} {kk : Nat} (hg : Gl X "enumerate") (hm : X.mg "enumerate" = none) (ha : PA X [e] ta) (hK : X.K = K := by rfl) (hs : starEach [e] X.env = [(false, eval e X.env)] := by rfl) : PI X (.Tuple elts kk tpos) (.Call (.Name "enumerate" p) [e] [] pos) (iEnum K ta) := by subst hK; exact pi_enum hg hm ha hs
theorem kix (hK : X.K = K := by rfl) : IxR X (rIx K) := kixS K hK
end
section
variable {X : L2.Cx} {elt kx vx tg iter : Expr} {ifs : List Expr} {scope : Scope} {own : List (PySem.Str × Nat)} {pos : Pos} {wi : TI} {g : TG} {tt : TT} {te tk tv : TE} {vs : List Nat}
theorem klc (hN : X.N.Nodup) (hi : PI X tg iter wi) (ok : BlkOk X.N X.env.scope scope own)
    (hg : ∀ (s : Shared) (H : Hp) (C : Addr) (cl : List (PySem.Str × Addr)) (fp : List Addr), PG (X.blk s H scope (compEnvC scope cl C X.env) fp) tg g) (ht : ∀ (s : Shared) (H : Hp) (C : Addr) (cl : List (PySem.Str × Addr)) (fp : List Addr), PTs (X.blk s H scope (compEnvC scope cl C X.env) fp) ifs tt)
    (he : ∀ (s : Shared) (H : Hp) (C : Addr) (cl : List (PySem.Str × Addr)) (fp : List Addr), PE (X.blk s H scope (compEnvC scope cl C X.env) fp) elt te) (hv : own.map (·.2) = vs := by rfl) (hc : X.calm = true := by rfl) (hs : ∀ x, foldedSetIterable iter X.env x = pure x := by intro _; rfl) :
    PE X (.ListComp elt [⟨tg, iter, ifs, 0⟩] scope pos) (tLc wi g tt te vs) := by subst hv; exact pe_lc hc hN hi ok hg ht he hs
theorem kslc {i : Nat} {y : PySem.Str} {py spos : Pos} (hN : X.N.Nodup) (hy : X.N[i]? = some y) (hyl : X.env.scope.names.lookup y = some .local)
    (hsw : swapsWith (.ListComp elt [⟨tg, iter, ifs, 0⟩] scope pos) (some (.Name y py)) spos.line X.env = pure true) (hi : PI X tg iter wi) (ok : BlkOk X.N X.env.scope scope own)
    (hg : ∀ (s : Shared) (H : Hp) (C : Addr) (cl : List (PySem.Str × Addr)) (fp : List Addr), PG (X.blk s H scope (compEnvC scope cl C X.env) fp) tg g) (ht : ∀ (s : Shared) (H : Hp) (C : Addr) (cl : List (PySem.Str × Addr)) (fp : List Addr), PTs (X.blk s H scope (compEnvC scope cl C X.env) fp) ifs tt)
    (he : ∀ (s : Shared) (H : Hp) (C : Addr) (cl : List (PySem.Str × Addr)) (fp : List Addr), PE (X.blk s H scope (compEnvC scope cl C X.env) fp) elt te) (hv : own.map (·.2) = vs := by rfl) (hc : X.calm = true := by rfl) (hs : ∀ x, foldedSetIterable iter X.env x = pure x := by intro _; rfl) :
    PS X (.Assign [.Name y py] (.ListComp elt [⟨tg, iter, ifs, 0⟩] scope pos) spos) (tAsg (tLc wi g tt te vs) (gName i)) := by subst hv; exact ps_setLc hc hN hy hyl hsw hi ok hg ht he hs
theorem kdc (hu : X.A.units + 8 < cLine) (nodup : X.N.Nodup) (hi : PI X tg iter wi) (ok : BlkOk X.N X.env.scope scope own)
    (hg : ∀ (z : Shared) (H : Hp) (C : Addr) (cl : List (PySem.Str × Addr)) (fp : List Addr), PG (X.blk z H scope (compEnvC scope cl C X.env) fp) tg g) (ht : ∀ (z : Shared) (H : Hp) (C : Addr) (cl : List (PySem.Str × Addr)) (fp : List Addr), PTs (X.blk z H scope (compEnvC scope cl C X.env) fp) ifs tt)
    (hk : ∀ (z : Shared) (H : Hp) (C : Addr) (cl : List (PySem.Str × Addr)) (fp : List Addr), PE (X.blk z H scope (compEnvC scope cl C X.env) fp) kx tk) (he : ∀ (z : Shared) (H : Hp) (C : Addr) (cl : List (PySem.Str × Addr)) (fp : List Addr), PE (X.blk z H scope (compEnvC scope cl C X.env) fp) vx tv) (hv : own.map (·.2) = vs := by rfl) (calm : X.calm = true := by rfl) (fold : ∀ x, foldedSetIterable iter X.env x = pure x := by intro _; rfl) :
    PE X (.DictComp kx vx [⟨tg, iter, ifs, 0⟩] scope pos) (tDcT wi g tt tk tv vs) := by subst hv; exact pe_dcT hu calm nodup hi ok hg ht hk he fold
theorem ksc (K : PySem.W.Frag) (P : Program) (w : World) (hu : X.A.units + 8 < cLine) (nodup : X.N.Nodup) (hi : PI X tg iter wi) (ok : BlkOk X.N X.env.scope scope own)
    (hg : ∀ (z : Shared) (H : Hp) (C : Addr) (cl : List (PySem.Str × Addr)) (fp : List Addr), PG (X.blk z H scope (compEnvC scope cl C X.env) fp) tg g) (ht : ∀ (z : Shared) (H : Hp) (C : Addr) (cl : List (PySem.Str × Addr)) (fp : List Addr), PTs (X.blk z H scope (compEnvC scope cl C X.env) fp) ifs tt)
    (he : ∀ (z : Shared) (H : Hp) (C : Addr) (cl : List (PySem.Str × Addr)) (fp : List Addr), PE (X.blk z H scope (compEnvC scope cl C X.env) fp) elt te) (hv : own.map (·.2) = vs := by rfl) (hK : X.K = K := by rfl) (hP : X.prog = P := by rfl) (hw : X.w = w := by rfl) (calm : X.calm = true := by rfl) (fold : ∀ x, foldedSetIterable iter X.env x = pure x := by intro _; rfl) :
    PE X (.SetComp elt [⟨tg, iter, ifs, 0⟩] scope pos) (tScT P K w wi g tt te vs) := by subst hv hK hP hw; exact pe_scT hu calm nodup hi ok hg ht he fold
theorem klenS (K : PySem.W.Frag) (P : Program) (w : World) {X : L2.Cx} (hK : X.K = K := by rfl) (hP : X.prog = P := by rfl) (hw : X.w = w := by rfl) : CallR X (.builtin "len") (rLenT P K w) := by subst hK hP hw; exact klenT X.K
end
end R

/-! ## R12: the bag of draws; the law itself -/
namespace R
open PySem PySem.Spec PyProof.Rows L2 G
theorem Cal.imp {P : Program} {w : World} {K : PySem.W.Frag} {mg : Str → Option Value} {base : Heap} {cx : CXT} {k : Nat} {x : Str} {ps : List Str} {sp sp' : Sp} (c : Cal P w K mg base cx k x ps sp) (h : ∀ vs H Q E, sp' vs H Q E → sp vs H Q E) : Cal P w K mg base cx k x ps sp' := by
  obtain ⟨f, fd, F, r⟩ := c
  exact ⟨f, fd, F.imp h, r⟩
/-- _law_take(bag, many) -/
def f_take : PF := fun ws Q => match ws with
  | [.bag, .v (.int m)] => (0 < m ∧ m < 2 ^ 200) ∧ ∀ v : Int, 0 ≤ v → v < m → Q (.int v)
  | _ => False
section
variable {K : PySem.W.Frag}
theorem Rel.of_go {b : Addr} {F H H' : Hp} {v : V} {w : W} (fb : F b = none) (fh : Same F H) (g : Go b H H') (r : Rep K b F v w) : Rel (cx0 (K := K) b F H) F H' [] [] [(v, .sh w)] := by
  have kp : ∀ a o, H a = some o → a ≠ b → H' a = some o := fun a o h n => by
    have q := g.sm a o (by rw [hid_ne n]; exact h)
    rwa [hid_ne n] at q
  obtain ⟨x, b0, b1⟩ := g.bg
  refine ⟨⟨⟨x, b0, b1, fun z => z⟩, fb, Same.refl _, fun a o e => kp a o (fh _ _ e) (fun z => by rw [z, fb] at e; cases e), fun a h _ => h, fun a o h n _ => kp a o h n, fun a h => ?_, fun _ z => z⟩, rfl, fun _ => none, ⟨(fun a i h => nomatch h), (fun a i h => nomatch h), (fun a i h => nomatch h), (fun a i h => nomatch h)⟩, (fun i d h => nomatch h), .sh r, trivial⟩
  by_cases e : a = b
  · obtain ⟨_, _, _, _, h1, _⟩ := b1
    rw [e, h1]; exact fun z => nomatch z
  · cases q : H a with
    | none => exact absurd q h
    | some o => rw [kp a o q e]; exact fun z => nomatch z
theorem sp_take_of {vs : List V} {H : Hp} {Q : VK} {E : XK} (h : SpP K 2 f_take vs H Q E) : sp_take vs H Q E := by
  obtain ⟨b, F, ws, Qp, hb, fb, fh, rs, l, q, k⟩ := h
  unfold f_take at q
  split at q
  next m =>
    cases rs with
    | cons a rs =>
      cases rs with
      | cons c rs =>
        cases rs
        cases a
        cases c
        exact ⟨b, m, rfl, hb, q.1.1, q.1.2, fun v H' h0 h1 g => k _ _ _ _ _ _ (Rel.of_go fb fh g (.v _)) (q.2 v h0 h1)⟩
  next => exact q.elim
/-- what the law's def begins with, and what it says at its end -/
def runL (τ : TSQ) (n i : Nat) : Prop := τ { nx := fun _ => False, rt := fun d => d = .bl true } ((List.replicate n D.un).set i (.sh .bag))
theorem lawR {P : Program} {w : World} {mg : Str → Option Value} {base : Heap} {k n i : Nat} {x p : Str} {N : List Str} {st : Stmt} {τ : TSQ} (dd : Def K mg x st [p]) (S : FnScope N [p] (defScope st)) (hn : N.length = n) (hi : i < n) (hq : runL τ n i)
    (bd : ∀ (f : Addr) (cdv : Value) (A : Around) (out : List Env) (s : Shared) (H : Hp) (E : XK), A.guards = some [] → Room k (A.deeper (envOfC x (defScope st) s.heap.objs.size f cdv)) →
      ∃ t, PSs (cxOf CX0 P w K mg base N x (defScope st) f cdv A out s H E).nox (defBody st) (tSeq (tAsg (tCall (sp_bag K) [] (fun _ _ _ => False) (tCons (tVar 0) tNil)) (gName i)) t) ∧ ∀ c : Cx K, SS c t τ) : CalG P w K mg base CX0 (k + 1) x [p] (sp_law K) := by
  refine dd.okG S (fun vs H Q E h => by obtain ⟨a, ns, rfl, _⟩ := h; rfl) fun f cdv A out s H vs Q E hg hr h => ?_
  obtain ⟨t, ht, hs⟩ := bd f cdv A out s H E hg hr
  obtain ⟨a, ns, rfl, hS, hl, hQ⟩ := h
  refine ⟨_, ht, .ref a, ?_, a, ns, rfl, hS, by omega, fun b H' hb e hbag => ?_⟩
  · show (L2.start N [V.ref a])[0]? = _
    unfold L2.start
    rfl
  have hlen : (L2.start N [V.ref a]).length = n := by
    unfold L2.start
    have : 1 ≤ N.length := by omega
    simp only [List.length_append, List.length_map, List.length_cons, List.length_nil, List.length_replicate]
    omega
  obtain ⟨y, hy⟩ := hbag
  have r : Rel (cx0 (K := K) b (fun _ => none) H') (fun _ => none) H' ((L2.start N [V.ref a]).set i (some (.ref b))) ((List.replicate n D.un).set i (.sh .bag)) [] := by
    refine ⟨⟨⟨y, hy, hy, fun z => z⟩, rfl, Same.refl _, (fun a o z => nomatch z), fun a h _ => h, fun a o h _ _ => h, fun a h => h, fun _ z => z⟩, by rw [List.length_set, List.length_set, hlen, List.length_replicate], fun _ => none, ⟨(fun a i h => nomatch h), (fun a i h => nomatch h), (fun a i h => nomatch h), (fun a i h => nomatch h)⟩, fun j d h => ?_, trivial⟩
    by_cases hj : i = j
    · subst hj
      rw [List.getElem?_set_self (by rw [List.length_replicate]; exact hi)] at h
      cases h
      exact .inr ⟨.ref b, List.getElem?_set_self (by rw [hlen]; exact hi), .sh .bag⟩
    · rw [List.getElem?_set_ne hj] at h
      have := List.mem_of_getElem? h
      rw [List.mem_replicate] at this
      exact .inl this.2
  refine (hs _).sim (Eq := { nx := fun _ => False, rt := fun d => d = .bl true }) r hq ⟨fun _ z => z.elim, fun r z => ?_, fun _ z => z, fun _ z => z⟩
  subst z
  have e := r.topS.flat
  subst e
  exact hQ _
end
end R

/-! ## R13: facts of a class; __init__ as a def -/
namespace R
open PySem PySem.Spec PyProof.Rows L2 G
instance {a b vs : List Nat} [h : Within a vs] [k : Within b vs] : Within (a ++ b) vs := ⟨fun i hi => (List.mem_append.mp hi).elim (h.sub i) (k.sub i)⟩
structure ClsR (K : PySem.W.Frag) (mg : Str → Option Value) (C : Addr) (x : Str) : Prop where
  cl : Cls K C
  mgC : mg x = some (.ref C)
  mks : PySem.W.makesIn K C = true
  kc : PySem.W.keepIn K (.ref C) = true
theorem mdefI {P : Program} {w : World} {K : PySem.W.Frag} {mg : Str → Option Value} {base : Heap} {k n : Nat} {ps N : List Str} {st : Stmt} {τ : TSQ} {C : Addr} {x q : Str} (dd : MDef K C x q st ps) (S : FnScope N ps (defScope st)) (m : Nat) (hn : ps.length = n + 1) (hm : N.length = (n + 1) + m)
    (bd : ∀ (f : Addr) (cdv : Value) (A : Around) (out : List Env) (s : Shared) (H : Hp) (E : XK), Room k (A.deeper (envOfC q (defScope st) s.heap.objs.size f cdv)) →
      ∃ t, PSs (cxOf CX0 P w K mg base N q (defScope st) f cdv A out s H E).nox (defBody st) t ∧ ∀ c : Cx K, SS c t τ) : MCal P w K mg base CX0 (k + 1) C x ps (SpI K C n (runI C τ m)) :=
  dd.ok S (fun vs H Q E h => by rw [h.len, hn]) fun f cdv A out s H vs Q E hr h => by
    obtain ⟨t, ht, hs⟩ := bd f cdv A out s H E hr
    exact ⟨t, ht, h.run hm hs⟩
end R

/-! ## R14: == and != of flat things; isinstance(x, own class); == and != by an own __eq__ -/
namespace R
open PySem PySem.Spec PyProof.Rows L2 G
section
variable {K : PySem.W.Frag} {c : Cx K}
def oEqF (neg : Bool) : W → W → (D → Prop) → Prop := fun x y k => match x, y with
  | .v a, .v b => scal a b = true ∧ k (.bl (neg != decide (a = b)))
  | _, _ => False
instance : SOp c rEq (oEqF false) where
  sim {F H σ ρ ts x y w u Q Qp} rl hx hy h k := by
    unfold oEqF at h
    split at h
    next a b =>
      rw [hx.flat, hy.flat]
      exact ⟨h.1, k _ _ _ _ (rl.pushS (.v _)) (by have q := h.2; rwa [Bool.false_bne] at q)⟩
    next => exact h.elim
instance : SOp c rNe (oEqF true) where
  sim {F H σ ρ ts x y w u Q Qp} rl hx hy h k := by
    unfold oEqF at h
    split at h
    next a b =>
      rw [hx.flat, hy.flat]
      exact ⟨h.1, k _ _ _ _ (rl.pushS (.v _)) (by have q := h.2; rwa [Bool.true_bne] at q)⟩
    next => exact h.elim
/-! ### isinstance(x, C), C a class of the program's -/
def rIsC (K : PySem.W.Frag) (C : Addr) : List V → Hp → VK → Prop := fun xs H Q => ∃ x, xs = [x, .ref C] ∧ ((∃ a dx fs, x = .ref a ∧ H a = some (.ins C dx fs) ∧ Q (.bl true) H) ∨ (∃ T, T ∈ tys ∧ TyX K H x (.type T) ∧ Q (.bl false) H))
/-- what is asked of a class for isinstance -/
structure ClsI (K : PySem.W.Frag) (C : Addr) : Prop where
  ins : C8.InsC K C
  ty : ((PySem.W.clsIn K C).isSome && PySem.W.typeIn K (.ref C) == some (.type "type")) = true
theorem mro_no {C : Addr} : ∀ T ∈ tys, (fastBuiltinMro T).map (·.contains (Value.ref C)) = some false := by
  have : ∀ T ∈ tys, ∃ l : List String, fastBuiltinMro T = some (l.map Value.type) := by
    intro T h
    simp only [tys, List.mem_cons, List.not_mem_nil, or_false] at h
    rcases h with rfl | rfl | rfl | rfl | rfl | rfl | rfl | rfl
    · exact ⟨["NoneType", "object"], by decide +kernel⟩
    · exact ⟨["bool", "int", "object"], by decide +kernel⟩
    · exact ⟨["int", "object"], by decide +kernel⟩
    · exact ⟨["str", "object"], by decide +kernel⟩
    · exact ⟨["list", "object"], by decide +kernel⟩
    · exact ⟨["tuple", "object"], by decide +kernel⟩
    · exact ⟨["dict", "object"], by decide +kernel⟩
    · exact ⟨["set", "object"], by decide +kernel⟩
  intro T h
  obtain ⟨l, e⟩ := this T h
  rw [e]
  simp
theorem kitC {K : PySem.W.Frag} {C : Addr} {T : String} (cI : ClsI K C) (h : T ∈ tys) : PySem.W.kitOne K (.type T) (.ref C) = some false := by
  unfold PySem.W.kitOne
  rw [if_neg (by simp)]
  unfold PySem.W.kitCls
  show (if _ then _ else _) = _
  rw [if_pos cI.ty]
  exact mro_no T h
theorem kisC (K : PySem.W.Frag) {C : Addr} {X : L2.Cx} (cI : ClsI K C) (h : X.K = K := by rfl) : CallR X (.builtin "isinstance") (rIsC K C) := by
  subst h
  intro pins s σ H xs us Q I r h
  obtain ⟨x, rfl, h⟩ := h
  rcases h with ⟨a, dx, fs, rfl, ha, q⟩ | ⟨T, hT, ty, q⟩
  · exact C8.call_isC cI.ins pins s σ H _ us Q I r ⟨a, dx, fs, rfl, ha, q⟩
  · exact call_isi pins s σ H _ us Q I r ⟨x, .ref C, .type T, .ref C, false, rfl, .own C, ty, kitC cI hT, q⟩
def bIsC (C : Addr) : List W → (D → Prop) → Prop := fun xs k => match xs with
  | [x, .v (.ref C')] => C' = C ∧ match x with
    | .obj C1 _ _ => C1 = C ∧ k (.bl true)
    | x => (tyW x).isSome = true ∧ k (.bl false)
  | _ => False
instance {C : Addr} : SC c (rIsC K C) (bIsC C) where
  sim {F H σ ρ ts xs ws Q Qp} rl hx h k := by
    unfold bIsC at h
    split at h
    next x C' =>
      obtain ⟨v, u, rfl, hv, hu⟩ := hx.two
      obtain ⟨rfl, h⟩ := h
      rw [hu.flat]
      refine ⟨v, rfl, ?_⟩
      split at h
      next C1 fs us =>
        obtain ⟨rfl, h⟩ := h
        obtain ⟨a, dx, vs, rfl, h1, _⟩ := hv.obj rl.fr.fh
        exact .inl ⟨a, dx, _, rfl, h1, k _ _ _ _ (rl.pushS (.v _)) h⟩
      next =>
        cases e : tyW x with
        | none => rw [e] at h; cases h.1
        | some t => exact .inr ⟨t, tyW_mem e, tyW_of e hv rl.fr.fh, k _ _ _ _ (rl.pushS (.v _)) h.2⟩
    next => exact h.elim
end
/-! ### x == y, x != y by the class's own __eq__ -/
section
variable {M : Model} {prog : Program} {w : World} {A : Around} {E : Value → Shared → Prop} {s : Shared} {K : PySem.W.Frag} {x y C f : Addr} {ox oy : Obj} {od od' : Option Obj}
theorem ifBound_objNe {args : List Value} {Q : Option Value → Shared → Prop} (X : K.In s.heap) (I : PySem.W.InstAt s.heap x ox C od) (hs : PySem.W.findIn K (.ref C) "__ne__" = some (some (.builtin "object.__ne__")))
    (h : wpAny M A (call (.builtin "object.__ne__") (.ref x :: args)) (fun v => Q (some v)) E s) : wpAny M A (callSpecialIfBound? (.ref x) "__ne__" args) Q E s := by
  simp only [callSpecialIfBound?, bindSpecialIfBound?]
  refine wpAny_holding (wpAny_bind (wpAny_bind (wpAny_bind (I.type.here ((PySem.W.looks_findIn X hs).here ?_)))))
  refine wpAny_bind (wpAny_askSetting (wpAny_ite ?_))
  have fin : wpAny M A (call (.builtin "object.__ne__") ([.ref x] ++ args) >>= fun v => pure (some v)) Q E s := wpAny_bind (wpAny_mono h (fun v s' h' => wpAny_pure h') fun _ _ h' => h')
  split
  · exact wpAny_bind (wpAny_of_eq (F.cmp_object.ne.bind _) (wpAny_pure (by exact fin)))
  · exact wpAny_tryCatch (wpAny_bind (wpAny_of_eq (F.cmp_object.ne.bind _) (wpAny_pure (by exact fin))))
theorem objNe_own {b : Value} (X : K.In s.heap) (I : PySem.W.InstAt s.heap x ox C od) (hs : PySem.W.findIn K (.ref C) "__eq__" = some (some (.ref f))) (hf : PySem.W.isFn K (.ref f) = true) (hu : A.units < cLine) {Q : Fin → Shared → Prop}
    (hcall : wpAny M A (call (.ref f) [.ref x, b]) (fun v s' => ∃ r, v = .bool r ∧ Q (.done (.ret (.bool (!r)))) s') E s) :
    wpAny M A (Builtin.«object.__ne__» ⟨[.ref x, b], []⟩) Q E s := by
  unfold Builtin.«object.__ne__»
  repeat (first
    | with_reducible refine wpAny_cRoomFor hu ?_
    | (refine wpAny_bind (m := callSpecialIfBound? (.ref x) (Str.ofString "__eq__") [b])
        (PySem.W.ifBound_K X I hs hf (wpAny_mono hcall (fun r s' hr => by
          obtain ⟨b, rfl, hq⟩ := hr
          repeat (first | exact hq | exact wpAny_pure hq | exact wpAny_truthy_bool hq | (refine wpAny_bind (m := truthy (.bool _)) (wpAny_truthy_bool ?_)) | wp_step)) fun _ _ e => e)))
    | wp_step)
theorem cmpNe_own (hu : A.units + 1 < cLine) (X : K.In s.heap) (I : PySem.W.InstAt s.heap x ox C od) (J : PySem.W.InstAt s.heap y oy C od') (hm : PySem.W.mroIn K C (.type "object") = some true)
    (hs : PySem.W.findIn K (.ref C) "__eq__" = some (some (.ref f))) (hf : PySem.W.isFn K (.ref f) = true) (hn : PySem.W.findIn K (.ref C) "__ne__" = some (some (.builtin "object.__ne__"))) {Q : Value → Shared → Prop}
    (hcall : wpAny (model prog w) A.in1 (call (.ref f) [.ref x, .ref y]) (fun v s' => ∃ r, v = .bool r ∧ Q (.bool (!r)) s') E s) :
    wpAny (model prog w) A (richCompare .NotEq (.ref x) (.ref y)) Q E s := by
  have one : wpAny (model prog w) A (tryCompare (.ref x) "__ne__" (.ref y)) (fun r s' => ∃ v, r = some v ∧ Q v s') E s := by
    unfold tryCompare
    refine wpAny_bind (ifBound_objNe X I hn (wpAny_call (codeAny_call_builtin F.cmp_object.ne.plain F.cmpEntry_ne (PySem.W.check_slot F.cmpKind_ne F.cmpSplit_ne (I.type.andThen (PySem.W.looks_mroIn X hm)) (F.cmpArgs_ne _ _) (objNe_own (A := A.in1) X I hs hf hu (wpAny_mono hcall (fun v s' hv => ?_) fun _ _ e => e))))))
    obtain ⟨r, rfl, q⟩ := hv
    first | exact ⟨r, rfl, wpAny_pure ⟨_, rfl, q⟩⟩ | exact ⟨r, rfl, _, rfl, q⟩ | skip
  unfold richCompare
  simp only [oneThing_ref]
  refine wpAny_holding (wpAny_bind (wpAny_cRoomFor (Nat.lt_of_succ_lt hu) ?_))
  rw [cmpInfo_NotEq]
  dsimp only
  refine wpAny_bind (I.type.here (wpAny_bind (J.type.here ?_)))
  rw [show (Value.ref C != Value.ref C) = false from by simp]
  simp only [Bool.false_eq_true, if_false]
  refine wpAny_bind (wpAny_pure ?_)
  simp only [Bool.false_eq_true, if_false]
  refine wpAny_bind (wpAny_mono one (fun r s' z => ?_) fun _ _ e => e)
  obtain ⟨v, rfl, hq⟩ := z
  exact wpAny_pure hq
end
/-- what is asked of a class for isinstance and != -/
structure ClsE (K : PySem.W.Frag) (C : Addr) : Prop where
  isi : ClsI K C
  ne : PySem.W.findIn K (.ref C) "__ne__" = some (some (.builtin "object.__ne__"))
section
/-- x == y (x != y): both of class C, by the promise of __eq__ -/
def rCmpO (neg : Bool) (C : Addr) (sp : Sp) (E : XK) : R2 := fun x y H Q => ∃ a b dx fs dy gs, x = .ref a ∧ y = .ref b ∧ H a = some (.ins C dx fs) ∧ H b = some (.ins C dy gs) ∧ sp [.ref a, .ref b] H (fun v H' => ∃ r : Bool, v = .bl r ∧ Q (.bl (neg != r)) H') E
variable {X : L2.Cx} {cx : CXT} {k : Nat} {C : Addr} {ps : List Str} {sp : Sp} {E : XK}
theorem runEq {f : Addr} {fd : FuncData} {A : Around} {H : Hp} {s : Shared} {σ : L2.St} {pins : List (Addr × Obj)} {a b : Addr} {Q : Value → Shared → Prop} {R : V → Hp → Prop} (F : FnOk X.prog X.w X.K X.mg X.base cx k f fd ps sp) (bd : Binds X.K fd ps []) (I : Inv X pins σ H s) (e0 : Env0 X.prog X.w X.K X.mg X.base A X.stack s H) (hr : Room k A) (hx : Passes cx X E)
    (q : sp [.ref a, .ref b] H R E) (kk : ∀ v H' s', Inv X pins σ H' s' → R v H' → ∀ u, RelV v u → Q u s') : wpAny (model X.prog X.w) A (call (.ref f) [.ref a, .ref b]) Q X.xe s := by
  have r2 : Vals [V.ref a, V.ref b] [Value.ref a, Value.ref b] := .cons rfl (.cons rfl .nil)
  have hl : [Value.ref a, Value.ref b].length = ps.length := by rw [← r2.length]; exact F.len _ _ _ _ q
  refine wpAny_call (codeAny_mono (F.run A X.stack s H ⟨[.ref a, .ref b], []⟩ [.ref a, .ref b] [.ref a, .ref b] _ E hr e0 (bd s [.ref a, .ref b] I.kIn hl) r2 q) fun rr s' hq => ?_)
  cases rr with
  | error e => exact hx pins σ H s e s' I hq
  | ok fl =>
    cases fl with
    | ret u =>
      obtain ⟨v, H', I3, rv, q3⟩ := I.after hq
      exact kk v H' s' I3 q3 u rv
    | next => exact False.elim hq
    | brk => exact False.elim hq
    | cont => exact False.elim hq
theorem keqO (c : MCal X.prog X.w X.K X.mg X.base cx k C "__eq__" ps sp) (hr : Room k X.A) (hx : Passes cx X E) : OpR X (compareOp .Eq) (rCmpO false C sp E) := by
  obtain ⟨f, fd, F, mt, bd⟩ := c
  intro pins s σ H x y v u Q I rx ry h
  obtain ⟨a, b, dx, fs, dy, gs, rfl, rfl, ha, hb, q⟩ := h
  cases rx
  cases ry
  obtain ⟨mA, J, _⟩ := ins_get I.hok ha
  obtain ⟨mB, J', _⟩ := ins_get I.hok hb
  obtain ⟨od, J, _⟩ := J.look
  obtain ⟨od', J', _⟩ := J'.look
  obtain ⟨m, hF⟩ := I.fr
  show wpAny (model X.prog X.w) X.A (richCompare .Eq (.ref a) (.ref b)) (EP X pins σ Q) X.xe s
  refine PySem.W.cmp_K (op := .Eq) (tb := .ref C) hr.units0 hF I.ok.mod.kin J J'.type (by simp [PySem.W.notFirst]) mt.at_ mt.fn ?_
  refine runEq F bd I I.env0 hr hx q fun v H' s' I3 z u ru => ?_
  obtain ⟨r, rfl, z⟩ := z
  cases ru
  rw [Bool.false_bne] at z
  exact ⟨.bl r, H', I3, rfl, z⟩
theorem kneO (c : MCal X.prog X.w X.K X.mg X.base cx k C "__eq__" ps sp) (hm : PySem.W.mroIn X.K C (.type "object") = some true) (hn : PySem.W.findIn X.K (.ref C) "__ne__" = some (some (.builtin "object.__ne__"))) (hr : Room (k + 1) X.A) (hx : Passes cx X E) : OpR X (compareOp .NotEq) (rCmpO true C sp E) := by
  obtain ⟨f, fd, F, mt, bd⟩ := c
  intro pins s σ H x y v u Q I rx ry h
  obtain ⟨a, b, dx, fs, dy, gs, rfl, rfl, ha, hb, q⟩ := h
  cases rx
  cases ry
  obtain ⟨mA, J, _⟩ := ins_get I.hok ha
  obtain ⟨mB, J', _⟩ := ins_get I.hok hb
  obtain ⟨od, J, _⟩ := J.look
  obtain ⟨od', J', _⟩ := J'.look
  show wpAny (model X.prog X.w) X.A (richCompare .NotEq (.ref a) (.ref b)) (EP X pins σ Q) X.xe s
  refine cmpNe_own hr.in1.units0 I.kIn J J' hm mt.at_ mt.fn hn ?_
  refine runEq F bd I I.env0.in1 hr.in1 hx q fun v H' s' I3 z u ru => ?_
  obtain ⟨r, rfl, z⟩ := z
  cases ru
  rw [Bool.true_bne] at z
  exact ⟨r, rfl, .bl (!r), H', I3, rfl, z⟩
end
section
variable {K : PySem.W.Frag} {c : Cx K}
def isIns (C : Addr) (w : W) (k : Prop) : Prop := match w with
  | .obj C' _ _ => C' = C ∧ k
  | _ => False
def asBo (d : D) (k : Bool → Prop) : Prop := match d with
  | .sh (.v (.bl r)) => k r
  | _ => False
def qCmpO (neg : Bool) (C : Addr) (f : PF) (ta tb : TQ) : TQ := fun ρ Q => ta ρ fun ρ1 d => lookD d fun w => tb ρ1 fun ρ2 d2 => lookD d2 fun u => isIns C w (isIns C u (f [w, u] fun d => asBo d fun r => Q ρ2 (.bl (neg != r))))
theorem isIns_of {C : Addr} {w : W} {k : Prop} {F H : Hp} {v : V} (h : isIns C w k) (r : Rep K c.b F v w) (e : Same F H) : ∃ a dx fs, v = .ref a ∧ H a = some (.ins C dx fs) ∧ k := by
  unfold isIns at h
  split at h
  next C' fs us =>
    obtain ⟨rfl, h⟩ := h
    cases r with
    | obj a l r => exact ⟨_, _, _, rfl, e _ _ a, h⟩
  next => exact h.elim
instance (priority := 2000) {neg : Bool} {C : Addr} {f : PF} {E : XK} {ta tb : TE} {τa τb : TQ} [SE c ta τa] [SE c tb τb] : SE c (tOp (rCmpO neg C (SpP K 2 f) E) ta tb) (qCmpO neg C f τa τb) where
  sim {F H σ ρ ts Q Qp} rl h k := SE.simW (t := ta) (Qp := fun ρ1 w => τb ρ1 fun ρ2 d2 => lookD d2 fun u => isIns C w (isIns C u (f [w, u] fun d => asBo d fun r => Qp ρ2 (.bl (neg != r))))) rl h fun v w ρ1 F1 H1 r1 q1 => SE.simW (t := tb) (Qp := fun ρ2 u => isIns C w (isIns C u (f [w, u] fun d => asBo d fun r => Qp ρ2 (.bl (neg != r))))) r1 q1 fun v2 w2 ρ2 F2 H2 r2 q2 => by
    have t2 := r2.topS
    have t1 := r2.pop.topS
    obtain ⟨a, dx, fs, rfl, h1, q3⟩ := isIns_of q2 t1 r2.fr.fh
    obtain ⟨b, dy, gs, rfl, h2, q4⟩ := isIns_of q3 t2 r2.fr.fh
    refine ⟨a, b, dx, fs, dy, gs, rfl, rfl, h1, h2, c.b, F2, [w, w2], fun d => asBo d fun r => Qp ρ2 (.bl (neg != r)), r2.fr.bag, r2.fr.fb, r2.fr.fh, .cons t1 (.cons t2 .nil), rfl, q4, fun v d F' H' σ' ρ' r3 q5 => ?_⟩
    replace q5 : asBo d (fun r => Qp ρ2 (.bl (neg != r))) := q5
    unfold asBo at q5
    split at q5
    next r =>
      have r4 := r2.pop.pop.ret r3
      exact ⟨r, r4.topS.flat, k _ _ _ _ _ (r4.pop.pushS (.v _)) q5⟩
    next => exact q5.elim
end
end R

/-! ## R15: a call that is lent what a name stands for, and answers a flat thing -/
namespace R
open PySem PySem.Spec PyProof.Rows L2 G
section
variable {K : PySem.W.Frag} {c : Cx K}
theorem fz_set {ρ : List D} {i : Nat} {d : D} {w : W} (hi : ρ[i]? = some d) (hw : d.fz = some w) {p : PV} {k : W → Prop} (q : look ρ p k) : look (ρ.set i (.sh w)) p k := by
  cases p with
  | inr u => exact q
  | inl j =>
    unfold look at q ⊢
    dsimp only at q ⊢
    by_cases e : i = j
    · subst e
      rw [hi] at q
      rw [List.getElem?_set_self (get_lt hi)]
      obtain ⟨u, hu, q⟩ := lookD_ex q
      rw [hw] at hu
      cases hu
      show lookD (D.sh w) k
      unfold lookD
      rw [show (D.sh w).fz = some w from by rw [D.fz]]
      exact q
    · rw [List.getElem?_set_ne e]
      exact q
theorem fz_setL {ρ : List D} {i : Nat} {d : D} {w : W} (hi : ρ[i]? = some d) (hw : d.fz = some w) : ∀ {ps : List PV} {k : List W → Prop}, lookL ρ ps k → lookL (ρ.set i (.sh w)) ps k
  | [], k, q => q
  | p :: ps, k, q => by
    have q' : look ρ p fun w => lookL ρ ps fun ws => k (w :: ws) := q
    have mono : ∀ {p : PV} {k1 k2 : W → Prop}, (∀ w, k1 w → k2 w) → look ρ p k1 → look ρ p k2 := fun {p k1 k2} hk h => by
      cases p with
      | inr u => exact hk _ h
      | inl j =>
        unfold look at h ⊢
        dsimp only at h ⊢
        split at h
        next d e =>
          unfold lookD at h ⊢
          split at h
          next => exact hk _ h
          next => exact h.elim
        next => exact h.elim
    exact fz_set hi hw (mono (fun u q => fz_setL hi hw q) q')
theorem Rel.frzP {F H : Hp} {σ : L2.St} {ρ : List D} {ts : List (V × D)} (r : Rel c F H σ ρ ts) {v : V} {p : PV} {k : W → Prop} (h : Has1 σ ts v p) (q : look ρ p k) : ∃ F' ρ' w, Same F F' ∧ Rep K c.b F' v w ∧ Rel c F' H σ ρ' ts ∧ k w ∧ ∀ {ps : List PV} {k : List W → Prop}, lookL ρ ps k → lookL ρ' ps k := by
  cases p with
  | inr w => exact ⟨F, ρ, w, Same.refl _, r.mem h, r, q, fun z => z⟩
  | inl i =>
    unfold look at q
    dsimp only at q
    split at q
    next d e =>
      obtain ⟨w, hw, q⟩ := lookD_ex q
      obtain ⟨F', v', s, h1, h2, r'⟩ := r.frzS e hw
      rw [show σ[i]? = some (some v) from h] at h1
      cases h1
      exact ⟨F', _, w, s, h2, r', q, fun z => fz_setL e hw z⟩
    next => exact q.elim
theorem Rel.frzL : ∀ {F H : Hp} {σ : L2.St} {ρ : List D} {ts ts' : List (V × D)} {vs : List V} {ps : List PV} {k : List W → Prop}, Rel c F H σ ρ ts' → PvsOk σ ts vs ps ts' → lookL ρ ps k → ∃ F' ρ' ws, Same F F' ∧ RepL K c.b F' vs ws ∧ Rel c F' H σ ρ' ts' ∧ k ws
  | F, _, _, ρ, _, _, _, _, _, r, .nil, q => ⟨F, ρ, [], Same.refl _, .nil, r, q⟩
  | _, _, _, _, _, _, _, _, _, r, .cons a b, q => by
    obtain ⟨F1, ρ1, w, s1, h1, r1, q1, up⟩ := r.frzP (a.has.1.up b.sub) q
    obtain ⟨F2, ρ2, ws, s2, h2, r2, q2⟩ := r1.frzL b (up q1)
    exact ⟨F2, ρ2, w :: ws, s1.trans s2, .cons (Rep.up s2 _ _ h1) h2, r2, q2⟩
theorem Rel.lent {b : Addr} {F F1 H F' H' : Hp} {σ' : L2.St} {ρ' : List D} {ts' : List (V × D)} {v : V} {w : W} (fb : F b = none) (fh : Same F H) (q : Rel (cx0 (K := K) b F1 H) F' H' σ' ρ' ts') (r : Rep K b F v w) : Rel (cx0 (K := K) b F H) F H' [] [] [(v, .sh w)] := by
  obtain ⟨x, b0, b1, _⟩ := q.fr.bg
  have kp : ∀ a o, H a = some o → a ≠ b → H' a = some o := fun a o h n => q.fr.kp a o h n (fun z => z)
  exact ⟨⟨⟨x, b0, b1, fun z => z⟩, fb, Same.refl _, fun a o e => kp a o (fh _ _ e) (fun z => by rw [z, fb] at e; cases e), fun a h _ => h, fun a o h n _ => kp a o h n, fun a h => q.fr.al a h, fun _ z => z⟩, rfl, fun _ => none, ⟨(fun a i h => nomatch h), (fun a i h => nomatch h), (fun a i h => nomatch h), (fun a i h => nomatch h)⟩, (fun i d h => nomatch h), .sh r, trivial⟩
/-- flat -/
def flatD (d : D) (k : D → Prop) : Prop := match d with
  | .sh (.v x) => k (.sh (.v x))
  | _ => False
def bF (n : Nat) (f : PF) : List W → (D → Prop) → Prop := fun ws k => ws.length = n ∧ f ws fun d => flatD d k
def tCallV (sp : Sp) (E : XK) (t : TA) : TE := tCall sp [] E t
instance {n : Nat} {f : PF} {E : XK} {t : TA} {τ : TVAQ} [SVA c t τ] : SE c (tCallV (SpP K n f) E t) (qCB (bF n f) τ) where
  sim {F H σ ρ ts Q Qp} rl h k := SVA.sim (t := t) rl h fun vs ps ρ1 F1 H1 ts1 p1 r1 q1 => by
    obtain ⟨F2, ρ2, ws, s, rs, r2, l, q⟩ := r1.frzL p1 q1
    refine ⟨c.b, F2, ws, fun d => flatD d fun d => Qp ρ1 d, r2.fr.bag, r2.fr.fb, r2.fr.fh, by rw [List.append_nil]; exact rs, l, q, fun v d F' H' σ' ρ' r3 q3 => ?_⟩
    replace q3 : flatD d fun d => Qp ρ1 d := q3
    unfold flatD at q3
    split at q3
    next x =>
      have e := r3.topS.flat
      subst e
      exact k _ _ _ _ _ (p1.back (r1.ret (Rel.lent r1.fr.fb r1.fr.fh r3 (.v _)))) q3
    next => exact q3.elim
theorem pe_cV {X : L2.Cx} {e : Expr} {es : List Expr} {t : TA} {cx : CXT} {k : Nat} {x : Str} {ps : List Str} {sp : Sp} {E : XK} {p pos : Pos} (c : Cal X.prog X.w X.K X.mg X.base cx k x ps sp) (hr : Room k X.A) (hx : Passes cx X E) (ha : PA X (e :: es) t) (hg : Gl X x := by rfl) (hdb : (x == ("__debug__" : Str)) = false := by decide)
    (he : starEach (e :: es) X.env = (false, eval e X.env) :: starEach es X.env := by rfl) (hpl : (backTo pos (starEach es X.env)).any (·.1) = false := by rfl) : PE X (.Call (.Name x p) (e :: es) [] pos) (tCallV sp E t) := pe_c c hr hx ha hg hdb he hpl
theorem pe_cGV {X : L2.Cx} {e : Expr} {es : List Expr} {t : TA} {cx : CXT} {k : Nat} {x : Str} {ps : List Str} {sp : Sp} {E : XK} {p pos : Pos} (c : CalG X.prog X.w X.K X.mg X.base cx k x ps sp) (hgu : X.A.guards = some []) (hr : Room k X.A) (hx : Passes cx X E) (ha : PA X (e :: es) t) (hg : Gl X x := by rfl) (hdb : (x == ("__debug__" : Str)) = false := by decide)
    (he : starEach (e :: es) X.env = (false, eval e X.env) :: starEach es X.env := by rfl) (hpl : (backTo pos (starEach es X.env)).any (·.1) = false := by rfl) : PE X (.Call (.Name x p) (e :: es) [] pos) (tCallV sp E t) := pe_cG c hgu hr hx ha hg hdb he hpl
end
end R

/-! ## R16: errors of the program's own classes: made, raised, caught, looked at (over the heap) -/
namespace R
open PySem PySem.Spec PyProof.Rows L2 G
/-- what is asked of the class under which the errors stand -/
structure BaseC (K : PySem.W.Frag) (L : Addr) : Prop where
  ga : PySem.W.specialIn K (.ref L) "__getattribute__" = some (some (.builtin "type.__getattribute__"))
  rd : PySem.W.readsIn K L (.type "type") = true
  vi : PySem.W.findCls K (.ref L) (.type "type") "__init__" = some (.val (.builtin "ValueError.__init__"))
section
variable {X : L2.Cx} {e : Expr} {es : List Expr} {ta : TA} {p1 p2 pos : Pos} {n : Str} {L : Addr}
/-- LeadError.__init__(self, ..) -/
theorem pe_leinit {pl : Sem Bool} (hm : X.mg n = some (.ref L)) (B : BaseC X.K L) (ha : PA X (e :: es) ta) (hg : Gl X n := by rfl) (hdb : (n == ("__debug__" : Str)) = false := by decide)
    (hc : eval (.Call (.Attribute (.Name n p1) "__init__" p2) (e :: es) [] pos) X.env = (do
      let ov ← eval (.Name n p1) X.env
      standAt p2.atName
      let (f, fst) ← holding [ov] (getMethod ov "__init__" pl)
      callWith pos f fst (backTo pos (starEach (e :: es) X.env)) (backToKw pos (keywordEach [] X.env))) := by rfl)
    (he : starEach (e :: es) X.env = (false, eval e X.env) :: starEach es X.env := by rfl) (hpl : (backTo pos (starEach es X.env)).any (·.1) = false := by rfl) :
    PE X (.Call (.Attribute (.Name n p1) "__init__" p2) (e :: es) [] pos) (tVeI X.K ta) := by
  refine ⟨fun pins s σ H Q I h => ?_⟩
  refine PySem.W.methodCall_KW (ld_glob I hg hm ?_ hdb) hc
  refine PySem.W.method_cls I.kIn B.ga ?_
  refine PySem.W.cls_value I.kIn B.rd B.vi (by decide +kernel) ?_
  show wpAny _ _ (callWith pos (Value.builtin "ValueError.__init__") [] (backTo pos (starEach (e :: es) X.env)) []) _ _ _
  refine PyProof.Rows.callWith_method1 (thn (ha.run pos pins _ σ H _ (I.tok _) h) fun us s1 ⟨vs, H1, I1, r1, a, C, ws, ev, hl, T, ea, q⟩ => ?_) he hpl
  subst ev
  cases r1 with
  | @cons _ u0 _ ur ra rw' =>
    obtain rfl : u0 = Value.ref a := ra
    exact oinit_ok T I1 ea (by rw [← Paired.length rw', sizeLine_eq]; omega) fun s2 J => ⟨.non, H1, J, rfl, q⟩
end
/-! ### C() -/
/-- C(), C's own __init__ keeping sp and storing nothing -/
def tMkN (C : Addr) (sp : Sp) : L2.St → Hp → XK → Prop := fun σ H Q => ∀ a, H a = none → sp [.ref a] (upd H a (exo a C none)) (fun v H2 => v = .non ∧ H2 a = some (exo a C none) ∧ Q (.ref C) none (del H2 a)) (fun _ _ _ => False)
section
variable {X : L2.Cx}
theorem mk_endN {pins : List (Addr × Obj)} {σ : L2.St} {H1 H2 : Hp} {hp hp2 h2 : Heap} {g1 g2 : Array GenState} {d1 d2 : Drawn} {t1 t2 : Nat} {os1 os2 : OsState} {a C : Addr} {Q : XK} (T : Raises X (.ref C)) (I1 : Inv X pins σ H1 ⟨hp, g1, d1, t1, os1⟩)
    (ha : hp.objs.size ≤ a) (k : ∀ b o, hp.get? b = some o → hp2.get? b = some o) (un : Un (frs X.stack) [] (upd H1 a (exo a C none)) H2 hp2 h2) (hok : HOk X.prog X.w H2 h2) (ho : os2 = os1) (hb : AllBare g2)
    (ea : H2 a = some (exo a C none)) (q : Q (.ref C) none (del H2 a)) : MkP X pins σ Q (.ref a) ⟨h2, g2, d2, t2, os2⟩ := by
  obtain ⟨t0, hoe⟩ := exo_at hok ea
  have hn : H1 a = none := I1.hok.fresh ha
  obtain ⟨B, b1, b2⟩ := restrict h2 fun b => decide (b ≠ a)
  have bk : ∀ b, b ≠ a → B.get? b = h2.get? b := fun b nb => b1 b (decide_eq_true nb)
  have be : B.get? a = none := b2 a (by simp)
  have old : ∀ {b : Addr} {o : Obj}, hp.get? b = some o → b ≠ a := fun {b o} z => Nat.ne_of_lt (Nat.lt_of_lt_of_le (Heap.lt_size z) ha)
  have up : ∀ {b : Addr}, b ≠ a → H1 b = none → upd H1 a (exo a C none) b = none := fun {b} nb n => by rw [upd_ne nb]; exact n
  have U : Un (frs X.stack) [] H1 (del H2 a) hp B := {
    keep := fun b o z n hf hx => (bk b (old z)).trans (un.keep b o (k b o z) (up (old z) n) hf hx)
    slot := fun b o z n hf hx => by
      obtain ⟨sl, y⟩ := un.slot b o (k b o z) (up (old z) n) hf hx
      exact ⟨sl, (bk b (old z)).trans y⟩
    free := fun b o z n hx => (del_ne (old z)).trans (un.free b o (k b o z) (up (old z) n) hx)
    there := fun b o z hx => by
      obtain ⟨o', y⟩ := un.there b o (k b o z) hx
      exact ⟨o', (bk b (old z)).trans y⟩
    tups := fun b xs z => (del_ne (ne_of_none z hn)).trans (un.tups b xs ((upd_ne (ne_of_none z hn)).trans z))
    frzs := fun b o v z => (del_ne (ne_of_none z hn)).trans (un.frzs b o v ((upd_ne (ne_of_none z hn)).trans z))
    tbls := fun b ps z => by
      obtain ⟨qs, y⟩ := un.tbls b ps ((upd_ne (ne_of_none z hn)).trans z)
      exact ⟨qs, (del_ne (ne_of_none z hn)).trans y⟩ }
  have hok3 : HOk X.prog X.w (del H2 a) B := fun b o z => by
    have nb : b ≠ a := fun e => by
      rw [e, del_same] at z
      cases z
    rw [del_ne nb] at z
    refine (hok b o z).stay (fun c v hc y => ?_) (fun c hc => (del_ne (at_ne ea hc exo_own)).trans hc) fun c xs hc => (del_ne (at_ne ea hc exo_tup)).trans hc
    rcases hc with hc | hc
    · rw [hc] at y ⊢; exact (bk b nb).trans y
    · exact (bk c (at_ne ea hc exo_own)).trans y
  have J : Inv X pins σ (del H2 a) ⟨B, g2, d2, t2, os2⟩ := I1.call' (ch := []) ho U hok3 hb (fun b z => absurd z (by simp))
  refine ⟨a, _, _, ⟨B, g2, d2, t2, os2⟩, _, .ref C, none, rfl, J, fun b o z => ?_, be, hoe, ⟨rfl, rfl⟩, rfl, rfl, del_same, rfl, hb, T, q⟩
  by_cases nb : b = a
  · rw [nb, be] at z; cases z
  · exact (bk b nb).symm.trans z
theorem pmk_N {x : Str} {C fI : Addr} {k : Nat} {fd : FuncData} {ps : List Str} {sp : Sp} {p pos : Pos} (T : OexC X.K C) (iC : PySem.W.findIn X.K (.ref C) "__init__" = some (some (.ref fI))) (tI : PySem.W.typeIn X.K (.ref fI) = some (.type "function"))
    (F1 : FnOk X.prog X.w X.K X.mg X.base CX0 k fI fd ps sp) (hr : Room (k + 1) X.A) (hb : Binds X.K fd ps []) (hm : X.mg x = some (.ref C)) (hg : Gl X x := by rfl)
    (hdb : (x == ("__debug__" : Str)) = false := by decide) : PMk X (.Call (.Name x p) [] [] pos) (tMkN C sp) := by
  intro pins s σ H Q I h
  obtain ⟨nm, q, N, bs, bm, sn, sub, ab, col, dd, k0, k1, k2, k3, k5, hC, hbm⟩ := T.cls
  refine wpAny_Call_Name_kw (ld_glob I hg hm ?_ hdb)
  refine PySem.W.callWith_K0 I.kIn T.kC ?_
  obtain ⟨hp, g, dr, tk, os⟩ := s
  have hsz : hp.objs.size ≤ hp.objs.size + 1 := Nat.le_succ _
  have hq := h (hp.objs.size + 1) (I.hok.fresh hsz)
  have kk : ∀ b o, hp.get? b = some o → ((hp.push (PySem.W.kdv_tup [])).push (PySem.HandSPX.excO C hp.objs.size)).get? b = some o := fun b o z => Heap.get?_push_of_some _ (Heap.get?_push_of_some _ z)
  have hget : ((hp.push (PySem.W.kdv_tup [])).push (PySem.HandSPX.excO C hp.objs.size)).get? (hp.objs.size + 1) = some (PySem.HandSPX.excO C hp.objs.size) := by heap_get
  have I2 : Inv X pins σ (upd H (hp.objs.size + 1) (exo (hp.objs.size + 1) C none)) ⟨(hp.push (PySem.W.kdv_tup [])).push (PySem.HandSPX.excO C hp.objs.size), g, dr, tk, os⟩ := I.laid (t' := tk) kk hsz (exo_ok hget)
  have r2 : Vals [V.ref (hp.objs.size + 1)] [Value.ref (hp.objs.size + 1)] := .cons rfl .nil
  have hl : ([Value.ref (hp.objs.size + 1)] ++ []).length = ps.length := by
    have z := r2.length
    rw [F1.len _ _ _ _ hq] at z
    exact z.symm
  have rm := hr.make C [] []
  have em := I2.env0.make C [] []
  refine wpAny_call (PySem.HandSPX.call_own F.excBase_ValueError (fun Y => PySem.HandSPX.refsVE_contains Y bm hbm) (I.kIn _ _ hC) (PySem.W.looks_findIn I.kIn iC) (fun self => PySem.W.bind_fn I.kIn self tI) (by rw [sizeLine_eq]; decide)
    (codeAny_mono (F1.run _ X.stack _ _ ⟨[Value.ref (hp.objs.size + 1)], []⟩ [Value.ref (hp.objs.size + 1)] _ _ (fun _ _ _ => False) rm em (hb _ [Value.ref (hp.objs.size + 1)] I2.kIn hl) r2 hq) fun r s' z => ?_))
  cases r with
  | error er => exact z.elim
  | ok fl =>
    cases fl with
    | ret u =>
      obtain ⟨v, H2, os2, bare2, un2, hok2, rv, ev, ea, q2⟩ := z
      subst ev
      obtain ⟨h2, g2, d2, t2, os'⟩ := s'
      exact ⟨rv, mk_endN (raises_own T.exC T.tyC) I hsz kk un2 hok2 os2 bare2 ea q2⟩
    | next => exact z.elim
    | brk => exact z.elim
    | cont => exact z.elim
end
end R

/-! ## R17: errors without a heap -/
namespace R
open PySem PySem.Spec PyProof.Rows L2 G
/-- the classes of errors -/
inductive Ek where
  | leadError | wrong | notLegal | stopped | noBundle | frozen | notValid | notLed | impossible | tooMany | nothing | noText | noCommand
  deriving DecidableEq
def Ek.flds : Ek → List Str
  | .wrong => ["place"]
  | .stopped => ["block", "turn", "run"]
  | .noBundle => ["one", "other"]
  | .frozen => ["bundle"]
  | .notValid => ["broker"]
  | .notLed => ["broker"]
  | .impossible => ["at"]
  | .tooMany => ["limit"]
  | _ => []
def Ad.ex (A : Ad) : Ek → Addr
  | .leadError => A.LeadError
  | .wrong => A.Wrong
  | .notLegal => A.NotLegal
  | .stopped => A.Stopped
  | .noBundle => A.NoBundle
  | .frozen => A.Frozen
  | .notValid => A.NotValid
  | .notLed => A.NotLed
  | .impossible => A.Impossible
  | .tooMany => A.TooMany
  | .nothing => A.Nothing
  | .noText => A.NoText
  | .noCommand => A.NoCommand
/-- k is k' or below it -/
def Ek.sub (k k' : Ek) : Bool := decide (k' = .leadError) || decide (k = k')
/-- an error: its class and its fields -/
structure XW where
  k : Ek
  ws : List W
/-- what the written part says of the class k -/
structure ExC (K : PySem.W.Frag) (A : Ad) (k : Ek) : Prop where
  ox : OexC K (A.ex k)
  nf : ∀ f ∈ k.flds, PySem.W.findIn K (.ref (A.ex k)) f = some none
  ga : PySem.W.findIn K (.ref (A.ex k)) "__getattribute__" = some (some (.builtin "BaseException.__getattribute__"))
  gg : PySem.W.findIn K (.ref (A.ex k)) "__getattr__" = some none
  hd : PySem.W.hasDictIn K (A.ex k) = true
  cl : PySem.W.isClsIn K (A.ex k) = true
  ha : PySem.W.findIn K (.ref (A.ex k)) "__class__" = some (some (.builtin "object.__class__"))
  hn : PySem.W.specialIn K (.builtin "object.__class__") "__get__" = some (some (.builtin "getset_descriptor.__get__"))
  ht : PySem.W.takesIn K (.builtin "object.__class__") = some true
  hm : PySem.W.mroIn K (A.ex k) (.type "object") = some true
  ve : PySem.W.subIn K (.ref (A.ex k)) (.type "ValueError") = some true
/-- .. of the classes ks, and which stands below which -/
class ExF (K : PySem.W.Frag) (A : Ad) (ks : outParam (List Ek)) : Prop where
  c : ∀ k ∈ ks, ExC K A k
  s : ∀ k ∈ ks, ∀ k' ∈ ks, PySem.W.subIn K (.ref (A.ex k)) (.ref (A.ex k')) = some (k.sub k')
theorem ExC.xf {K : PySem.W.Frag} {A : Ad} {k : Ek} (h : ExC K A k) : XfC K (A.ex k) := ⟨h.ga, h.gg, h.ox.exC, h.hd⟩
theorem kit_own {K : PySem.W.Frag} {t : Value} {C : Addr} {b : Bool} (cl : PySem.W.isClsIn K C = true) (ty : PySem.W.typeIn K (.ref C) = some (.type "type")) (s : PySem.W.subIn K t (.ref C) = some b) : PySem.W.kitCls K t (.ref C) = some b := by
  unfold PySem.W.kitCls
  show (if _ then _ else _) = _
  unfold PySem.W.isClsIn at cl
  rw [if_pos (by rw [cl, ty]; simp)]
  exact s
theorem ExF.exm {K : PySem.W.Frag} {A : Ad} {ks : List Ek} (h : ExF K A ks) {k k' : Ek} (m : k ∈ ks) (m' : k' ∈ ks) : PySem.W.exmOne K (.ref (A.ex k)) (.ref (A.ex k')) = some (k.sub k') := by
  unfold PySem.W.exmOne
  have c := h.c k' m'
  rw [if_pos (by rw [c.ox.exC]; simp)]
  exact kit_own c.cl c.ox.tyC (h.s k m k' m')
/-! ### the __init__ of an error -/
def SpE (A : Ad) (k : Ek) : Sp := fun vs H Q _ => ∃ a us, vs = .ref a :: us ∧ us.length = k.flds.length ∧ H a = some (exo a (A.ex k) none) ∧ (k.flds = [] → Q .non H) ∧
  ∀ dx H', k.flds ≠ [] → H dx = none → dx ≠ a → H' a = some (exo a (A.ex k) (some dx)) → H' dx = some (exd dx (k.flds.zip us).reverse) → (∀ b, b ≠ a → b ≠ dx → H' b = H b) → Q .non H'
section
variable {K : PySem.W.Frag} {A : Ad} {k : Ek} {vs : List V} {H : Hp} {Q : VK} {E : XK} {m : Str}
theorem SpE.len (h : SpE A k vs H Q E) : vs.length = k.flds.length + 1 := by
  obtain ⟨a, us, rfl, hl, _⟩ := h
  rw [List.length_cons, hl]
theorem ex0 {N : List Str} (hN : N.length = 1) (T : ExC K A k) (hk : k.flds = []) (h : SpE A k vs H Q E) : tDrop (tVeI K (tCons (tVar 0) (tCons (tC (.str m)) tNil))) { nx := fun _ H' => Q .non H', rt := Q } (L2.start N vs) H := by
  obtain ⟨a, us, rfl, hl, ha, q, _⟩ := h
  refine ⟨.ref a, ?_, a, _, [.str m], rfl, by simp, T.ox, ha, q hk⟩
  unfold L2.start
  rfl
theorem ex1 {N : List Str} {f : Str} (hN : N.length = 2) (T : ExC K A k) (hk : k.flds = [f]) (h : SpE A k vs H Q E) : tSeq (tDrop (tVeI K (tCons (tVar 0) (tCons (tC (.str m)) tNil)))) (tOst K f (tVar 0) (tVar 1)) { nx := fun _ H' => Q .non H', rt := Q } (L2.start N vs) H := by
  obtain ⟨a, us, rfl, hl, ha, _, q⟩ := h
  rw [hk] at hl
  match us, hl with
  | [u], _ =>
    refine ⟨.ref a, by unfold L2.start; rfl, a, _, [.str m], rfl, by simp, T.ox, ha, u, by unfold L2.start; rfl, .ref a, by unfold L2.start; rfl, a, _, rfl, T.ox, T.nf f (by rw [hk]; simp), .inl ⟨ha, fun dx h1 h2 => ?_⟩⟩
    refine q dx _ (by rw [hk]; simp) h1 h2 upd_same ?_ fun b n1 n2 => ?_
    · rw [upd_ne h2, upd_same, hk]; rfl
    · rw [upd_ne n1, upd_ne n2]
theorem ex2 {N : List Str} {f g : Str} (hN : N.length = 3) (T : ExC K A k) (hk : k.flds = [f, g]) (h : SpE A k vs H Q E) : tSeq (tDrop (tVeI K (tCons (tVar 0) (tCons (tC (.str m)) tNil)))) (tSeq (tOst K f (tVar 0) (tVar 1)) (tOst K g (tVar 0) (tVar 2))) { nx := fun _ H' => Q .non H', rt := Q } (L2.start N vs) H := by
  obtain ⟨a, us, rfl, hl, ha, _, q⟩ := h
  rw [hk] at hl
  match us, hl with
  | [u, v], _ =>
    refine ⟨.ref a, by unfold L2.start; rfl, a, _, [.str m], rfl, by simp, T.ox, ha, u, by unfold L2.start; rfl, .ref a, by unfold L2.start; rfl, a, _, rfl, T.ox, T.nf f (by rw [hk]; simp), .inl ⟨ha, fun dx h1 h2 => ?_⟩⟩
    refine ⟨v, by unfold L2.start; rfl, .ref a, by unfold L2.start; rfl, a, _, rfl, T.ox, T.nf g (by rw [hk]; simp), .inr ⟨dx, _, upd_same, by rw [upd_ne h2, upd_same], by simp, ?_⟩⟩
    refine q dx _ (by rw [hk]; simp) h1 h2 (by rw [upd_ne h2.symm, upd_same]) ?_ fun b n1 n2 => ?_
    · rw [upd_same, hk]; rfl
    · rw [upd_ne n2, upd_ne n1, upd_ne n2]
theorem ex3 {N : List Str} {f g i : Str} (hN : N.length = 4) (T : ExC K A k) (hk : k.flds = [f, g, i]) (h : SpE A k vs H Q E) : tSeq (tDrop (tVeI K (tCons (tVar 0) (tCons (tC (.str m)) tNil)))) (tSeq (tOst K f (tVar 0) (tVar 1)) (tSeq (tOst K g (tVar 0) (tVar 2)) (tOst K i (tVar 0) (tVar 3)))) { nx := fun _ H' => Q .non H', rt := Q } (L2.start N vs) H := by
  obtain ⟨a, us, rfl, hl, ha, _, q⟩ := h
  rw [hk] at hl
  match us, hl with
  | [u, v, z], _ =>
    refine ⟨.ref a, by unfold L2.start; rfl, a, _, [.str m], rfl, by simp, T.ox, ha, u, by unfold L2.start; rfl, .ref a, by unfold L2.start; rfl, a, _, rfl, T.ox, T.nf f (by rw [hk]; simp), .inl ⟨ha, fun dx h1 h2 => ?_⟩⟩
    refine ⟨v, by unfold L2.start; rfl, .ref a, by unfold L2.start; rfl, a, _, rfl, T.ox, T.nf g (by rw [hk]; simp), .inr ⟨dx, _, upd_same, by rw [upd_ne h2, upd_same], by simp, ?_⟩⟩
    refine ⟨z, by unfold L2.start; rfl, .ref a, by unfold L2.start; rfl, a, _, rfl, T.ox, T.nf i (by rw [hk]; simp), .inr ⟨dx, _, by rw [upd_ne h2.symm, upd_same], upd_same, by simp, ?_⟩⟩
    refine q dx _ (by rw [hk]; simp) h1 h2 (by rw [upd_ne h2.symm, upd_ne h2.symm, upd_same]) ?_ fun b n1 n2 => ?_
    · rw [upd_same, hk]; rfl
    · rw [upd_ne n2, upd_ne n2, upd_ne n1, upd_ne n2]
end
/-! ### an error that is under way -/
abbrev XQ := List D → XW → Prop
/-- x's fields lie at d -/
def XRep (K : PySem.W.Frag) (b : Addr) (F : Hp) (x : XW) (d : Option Addr) : Prop := x.ws.length = x.k.flds.length ∧ ((x.k.flds = [] ∧ d = none) ∨ (x.k.flds ≠ [] ∧ ∃ dd us, d = some dd ∧ F dd = some (.xd (x.k.flds.zip us).reverse) ∧ RepL K b F us x.ws))
theorem XRep.mono {K : PySem.W.Frag} {b : Addr} {F F' : Hp} {x : XW} {d : Option Addr} (h : XRep K b F x d) (e : Same F F') : XRep K b F' x d := by
  obtain ⟨l, h | ⟨n, dd, us, e1, e2, r⟩⟩ := h
  · exact ⟨l, .inl h⟩
  · exact ⟨l, .inr ⟨n, dd, us, e1, e _ _ e2, r.mono e⟩⟩
class SX {K : PySem.W.Frag} (c : Cx K) (A : Ad) (W : WX) (X : outParam XQ) : Prop where
  sim : ∀ {F H : Hp} {σ : L2.St} {ρ : List D} {x : XW} {d : Option Addr}, Rel c F H σ ρ [] → XRep K c.b F x d → X ρ x → W (.ref (A.ex x.k)) d σ H
abbrev PFX := List W → (D → Prop) → (XW → Prop) → Prop
/-- the promise of a def that may raise, without a heap -/
def SpX (K : PySem.W.Frag) (A : Ad) (n : Nat) (f : PFX) : Sp := fun vs H Q E => ∃ (b : Addr) (F : Hp) (ws : List W) (Qp : D → Prop) (Xp : XW → Prop), BagOk b H ∧ F b = none ∧ Same F H ∧ RepL K b F vs ws ∧ ws.length = n ∧ f ws Qp Xp ∧
  (∀ v d F' H' σ ρ, Rel (cx0 (K := K) b F H) F' H' σ ρ [(v, d)] → Qp d → Q v H') ∧
  ∀ x d F' H' σ ρ, Rel (cx0 (K := K) b F H) F' H' σ ρ [] → XRep K b F' x d → Xp x → E (.ref (A.ex x.k)) d H'
def runX (τ : XQ → TSQ) (m : Nat) : PFX := fun ws Q Ex => τ (fun _ x => Ex x) { nx := fun _ => Q .non, rt := Q } (ws.map D.sh ++ List.replicate m .un)
section
variable {K : PySem.W.Frag} {c : Cx K} {A : Ad}
instance {F1 : Hp} {W : WX} {X : XQ} [h : SX c A W X] [r : ReOk c F1] : SX (c.re F1) A W X where
  sim rl xr hx := h.sim (rl.unre r.e0 r.n0) xr hx
theorem Rel.popAll : ∀ {ts : List (V × D)} {F H : Hp} {σ : L2.St} {ρ : List D}, Rel c F H σ ρ ts → Rel c F H σ ρ []
  | [], _, _, _, _, r => r
  | _ :: _, _, _, _, _, r => r.pop.popAll
/-- raise C(e, ..) -/
def tRaise (W : WX) (t : L2.St → Hp → XK → Prop) : TS := fun _ σ H => t σ H fun cls d H' => W cls d σ H'
def sRaise (k : Ek) (t : TAQ) (X : XQ) : TSQ := fun _ ρ => t ρ fun ρ1 ws => ws.length = k.flds.length ∧ X ρ1 ⟨k, ws⟩
class ExI (k : Ek) : Prop where
  ne : k.flds ≠ []
instance : ExI .wrong := ⟨by simp [Ek.flds]⟩
instance : ExI .stopped := ⟨by simp [Ek.flds]⟩
instance : ExI .noBundle := ⟨by simp [Ek.flds]⟩
instance : ExI .frozen := ⟨by simp [Ek.flds]⟩
instance : ExI .notValid := ⟨by simp [Ek.flds]⟩
instance : ExI .notLed := ⟨by simp [Ek.flds]⟩
instance : ExI .impossible := ⟨by simp [Ek.flds]⟩
instance : ExI .tooMany := ⟨by simp [Ek.flds]⟩
theorem del_upd {H H2 : Hp} {a d : Addr} {o : HO} (ha : H a = none) (hd : H d = none) (ne : d ≠ a) (k : ∀ b, b ≠ a → b ≠ d → H2 b = H b) : upd (del H2 a) d o = upd H d o := by
  funext b
  by_cases e : b = d
  · rw [e, upd_same, upd_same]
  · rw [upd_ne e, upd_ne e]
    by_cases e2 : b = a
    · rw [e2, del_same, ha]
    · rw [del_ne e2, k b e2 e]
instance {W : WX} {X : XQ} {k : Ek} {ta : TA} {n : Nat} {τ : TAQ} [SA c ta n τ] [z : SmN 60 n] [sx : SX c A W X] [ne : ExI k] : SS c (tRaise W (tMkO (A.ex k) (SpE A k) [] ta)) (sRaise k τ X) where
  sim {F H σ ρ E Eq} rl h _ := SA.sim (t := ta) rl h fun vs ws ρ1 F1 H1 hl r1 rs q1 => by
    refine ⟨by have := z.le; omega, fun a ha => ⟨a, vs, by rw [List.append_nil], by rw [rs.len, q1.1], upd_same, fun q => absurd q ne.ne, fun dx H' _ hd nd h1 h2 h3 => ⟨rfl, dx, _, h1, h2, ?_, ?_⟩⟩⟩
    · rw [upd_ne nd] at hd; exact hd
    · have hd' : H1 dx = none := by rw [upd_ne nd] at hd; exact hd
      rw [del_upd ha hd' nd fun b n1 n2 => by rw [h3 b n1 n2, upd_ne n1]]
      refine sx.sim (x := ⟨k, ws⟩) (r1.newS (o := .xd (k.flds.zip vs).reverse) hd') ⟨q1.1, .inr ⟨ne.ne, dx, vs, rfl, upd_same, rs.mono (same_new (r1.fr.fh.free hd'))⟩⟩ q1.2
def sRaise0 (k : Ek) (X : XQ) : TSQ := fun _ ρ => k.flds = [] ∧ X ρ ⟨k, []⟩
instance {W : WX} {X : XQ} {k : Ek} [sx : SX c A W X] : SS c (tRaise W (tMkN (A.ex k) (SpE A k))) (sRaise0 k X) where
  sim {F H σ ρ E Eq} rl h _ := fun a ha => by
    refine ⟨a, [], rfl, by rw [h.1]; rfl, upd_same, fun _ => ⟨rfl, upd_same, ?_⟩, fun dx H' q => absurd h.1 q⟩
    have e : del (upd H a (exo a (A.ex k) none)) a = H := by
      funext b
      by_cases e : b = a
      · rw [e, del_same, ha]
      · rw [del_ne e, upd_ne e]
    rw [e]
    exact sx.sim (x := ⟨k, []⟩) rl ⟨by rw [h.1]; rfl, .inl ⟨h.1, rfl⟩⟩ h.2
/-! ### calls of what may raise -/
def qCallX (f : PFX) (n : Nat) (t : TAQ) (X : XQ) : TQ := fun ρ Q => t ρ fun ρ1 ws => f ws (fun d => Q ρ1 d) fun x => X ρ1 x
theorem Rel.retX {F H F' H' : Hp} {σ σ' : L2.St} {ρ ρ' : List D} {ts : List (V × D)} (r : Rel c F H σ ρ ts) (q : Rel (cx0 (K := K) c.b F H) F' H' σ' ρ' []) : Rel c F' H' σ ρ [] := (r.ret (q.pushS (.v .non))).pop.popAll
instance {W : WX} {X : XQ} {f : PFX} {t : TA} {n : Nat} {τ : TAQ} [SA c t n τ] [sx : SX c A W X] : SE c (tCallS (SpX K A n f) (WE W) t) (qCallX f n τ X) where
  sim {F H σ ρ ts Q Qp} rl h k := SA.sim (t := t) rl h fun vs ws ρ1 F1 H1 hl r1 rs q1 => ⟨c.b, F1, ws, fun d => Qp ρ1 d, fun x => X ρ1 x, r1.fr.bag, r1.fr.fb, r1.fr.fh, rs, by rw [← rs.len]; exact hl, q1, fun v d F' H' σ' ρ' r2 q2 => k _ _ _ _ _ (r1.ret r2) q2, fun x d F' H' σ' ρ' r2 xr q2 => sx.sim (r1.retX r2) xr q2⟩
/-- .. where it does not -/
def noX (f : PFX) : PF := fun ws Q => f ws Q fun _ => False
instance {f : PFX} {t : TA} {n : Nat} {τ : TAQ} [SA c t n τ] : SE c (tCall (SpX K A n f) [] (fun _ _ _ => False) t) (qCall (noX f) n τ) where
  sim {F H σ ρ ts Q Qp} rl h k := SA.sim (t := t) rl h fun vs ws ρ1 F1 H1 hl r1 rs q1 => ⟨c.b, F1, ws, fun d => Qp ρ1 d, fun x => False, r1.fr.bag, r1.fr.fb, r1.fr.fh, by rw [List.append_nil]; exact rs, by rw [← rs.len]; exact hl, q1, fun v d F' H' σ' ρ' r2 q2 => k _ _ _ _ _ (r1.ret r2) q2, fun x d F' H' σ' ρ' r2 xr q2 => q2⟩
theorem pass1 {X : L2.Cx} : Passes (L2.CX X.prog X.w) X (fun _ _ _ => False) := fun _ _ _ _ _ _ _ h => by
  obtain ⟨_, _, _, _, _, _, _, _, _, _, _, _, z⟩ := h
  exact z.elim
/-! ### the start of a def that may raise -/
theorem SpX.len {n : Nat} {f : PFX} {vs : List V} {H : Hp} {Q : VK} {E : XK} (h : SpX K A n f vs H Q E) : vs.length = n := by
  obtain ⟨b, F, ws, Qp, Xp, _, _, _, r, l, _⟩ := h
  rw [r.len, l]
theorem SpX.run {n m : Nat} {τ : XQ → TSQ} {N : List Str} {vs : List V} {H : Hp} {Q : VK} {E : XK} {t : TS} (hm : N.length = n + m) (h : SpX K A n (runX τ m) vs H Q E) (s : ∀ (c : Cx K) (X : XQ) [SX c A (fun cls d _ H => E cls d H) X], SS c t (τ X)) : t { nx := fun _ H' => Q .non H', rt := Q } (L2.start N vs) H := by
  have hl := h.len
  obtain ⟨b, F, ws, Qp, Xp, hb, fb, fh, rs, l, q, k, kx⟩ := h
  rw [start_eq (m := m) (by rw [hl]; exact hm)]
  haveI : SX (cx0 (K := K) b F H) A (fun cls d _ H => E cls d H) (fun _ x => Xp x) := ⟨fun {F' H' σ ρ x d} r xr hx => kx x d F' H' σ ρ r xr hx⟩
  exact (s (cx0 (K := K) b F H) (fun _ x => Xp x)).sim (Rel.start hb fb fh rs) q ⟨fun r z => k _ _ _ _ _ _ (r.pushS (.v .non)) z, fun r z => k _ _ _ _ _ _ r z, fun _ z => z, fun _ z => z⟩
end
section
variable {P : Program} {w : World} {K : PySem.W.Frag} {mg : Str → Option Value} {base : Heap} {k : Nat} {x : Str} {ps N : List Str} {st : Stmt} {A : Ad}
theorem defX {n : Nat} {τ : XQ → TSQ} (D : Def K mg x st ps) (S : FnScope N ps (defScope st)) (m : Nat) (hn : ps.length = n) (hm : N.length = n + m)
    (bd : ∀ (f : Addr) (cdv : Value) (Ar : Around) (out : List Env) (s : Shared) (H : Hp) (E : XK), Room k (Ar.deeper (envOfC x (defScope st) s.heap.objs.size f cdv)) →
      ∃ t, PSs (cxOf (L2.CX P w) P w K mg base N x (defScope st) f cdv Ar out s H E) (defBody st) t ∧ ∀ (c : Cx K) (X : XQ) [SX c A (fun cls d _ H => E cls d H) X], SS c t (τ X)) : Cal P w K mg base (L2.CX P w) (k + 1) x ps (SpX K A n (runX τ m)) :=
  D.okX S (fun vs H Q E h => by rw [h.len, hn]) fun f cdv Ar out s H vs Q E hr h => by
    obtain ⟨t, ht, hs⟩ := bd f cdv Ar out s H E hr
    exact ⟨t, ht, h.run hm hs⟩
end
end R

/-! ## R18: try and except; what a suite asks of its error -/
namespace R
open PySem PySem.Spec PyProof.Rows L2 G
/-! ### over the heap -/
theorem ExF.kit {K : PySem.W.Frag} {A : Ad} {ks : List Ek} (h : ExF K A ks) {k k' : Ek} (m : k ∈ ks) (m' : k' ∈ ks) : PySem.W.kitOne K (.ref (A.ex k)) (.ref (A.ex k')) = some (k.sub k') := by
  unfold PySem.W.kitOne
  split
  next e =>
    have e' : A.ex k = A.ex k' := Value.ref.inj (beq_iff_eq.mp e)
    have h1 := h.s k m k' m'
    have h2 := h.s k m k m
    rw [← e', h2] at h1
    rw [← Option.some.inj h1]
    unfold Ek.sub
    simp
  next e => exact kit_own (h.c k' m').cl (h.c k' m').ox.tyC (h.s k m k' m')
theorem ExF.kitVE {K : PySem.W.Frag} {A : Ad} {ks : List Ek} (h : ExF K A ks) {k : Ek} (m : k ∈ ks) : PySem.W.kitOne K (.ref (A.ex k)) (.type "ValueError") = some true := by
  unfold PySem.W.kitOne
  rw [if_neg (by simp)]
  unfold PySem.W.kitCls
  show (if _ then _ else _) = _
  rw [if_pos (by decide +kernel)]
  exact (h.c k m).ve
theorem ExF.kitL {K : PySem.W.Frag} {A : Ad} {ks : List Ek} (h : ExF K A ks) {k : Ek} (m : k ∈ ks) : ∀ {l : List Ek}, (∀ k' ∈ l, k' ∈ ks) → PySem.W.kitAny K (.ref (A.ex k)) (l.map fun k' => Value.ref (A.ex k')) = some (l.any fun k' => k.sub k')
  | [], _ => rfl
  | k' :: l, hl => by
    rw [List.map_cons]
    unfold PySem.W.kitAny
    rw [h.kit m (hl k' List.mem_cons_self), List.any_cons]
    cases e : k.sub k' with
    | true => rfl
    | false =>
      rw [Bool.false_or]
      exact h.kitL m fun k2 h2 => hl k2 (List.mem_cons_of_mem _ h2)
/-- e.f in a suite, e the error at a, of the class cls, its dict at d -/
def tXfA (K : PySem.W.Frag) (a : Addr) (cls : Value) (d : Option Addr) (f : Str) (te : TE) : TE := fun σ H Q => te σ H fun x H1 => x = .ref a ∧ ∃ C, cls = .ref C ∧ XfC K C ∧ PySem.W.findIn K (.ref C) f = some none ∧ ∃ (dd : Addr) (fs : List (Str × V)) (v : V), d = some dd ∧ H1 dd = some (.xd fs) ∧ fs.lookup f = some v ∧ Q v H1
theorem pe_xfA (K : PySem.W.Frag) {X : L2.Cx} {a : Addr} {oe : Obj} {cls : Value} {d : Option Addr} {pn : List (Addr × Obj)} {e : Expr} {te : TE} {pos : Pos} {n : Str} (hz : Zc cls d oe) (hf : ∃ vs, oe.data = .fields vs) (he : PE (X.suite a ((a, oe) :: pn)) e te) (hK : X.K = K := by rfl)
    (hb : attributeBase e n X.env (eval e X.env) = eval e X.env := by rfl) : PE (X.suite a ((a, oe) :: pn)) (.Attribute e n pos) (tXfA K a cls d n te) := by
  subst hK
  refine ⟨fun pins s σ H Q I h => ?_⟩
  refine attr_of hb (thn (he.run pins s σ H _ I h) fun u s1 hh => ?_)
  obtain ⟨x, H1, I1, rx, ex, C, ec, T, hno, dd, fs, v, ed, ea, l, q⟩ := hh
  subst ex
  cases (show u = Value.ref a from rx)
  subst ec
  subst ed
  obtain ⟨ha, _⟩ := I1.pin (a, oe) (List.mem_append_left _ List.mem_cons_self)
  obtain ⟨vs, hd⟩ := hf
  obtain ⟨mA, hns, hr⟩ := (show ObjOk X.prog X.w H1 s1.heap dd (.xd fs) from I1.hok dd _ ea)
  obtain ⟨od, ho, hl⟩ := lookIn_ns hns
  obtain ⟨u, hu, ru⟩ := RelO.some_of (v := v) (o := mA n) (by rw [← l]; exact hr n)
  have J : PySem.W.InstAt s1.heap a oe C (some od) := ⟨ha, hz.1, by unfold PySem.W.notCls; rw [hd] <;> rfl, by rw [hz.2]; exact ho⟩
  exact HandSPX.exc_get I1.kIn J T.ga T.gg T.exC (PySem.W.findObj_own T.hdC hno rfl (by rw [hl, hu])) (handed_of ru) ⟨v, H1, I1.tok _, ru, q⟩
/-- what isinstance asks of the class of an error -/
structure IsC (K : PySem.W.Frag) (C : Addr) : Prop where
  cl : PySem.W.isClsIn K C = true
  ga : PySem.W.findIn K (.ref C) "__getattribute__" = some (some (.builtin "BaseException.__getattribute__"))
  gg : PySem.W.findIn K (.ref C) "__getattr__" = some none
  sb : PySem.W.subIn K (.ref C) (.type "BaseException") = some true
  ha : PySem.W.findIn K (.ref C) "__class__" = some (some (.builtin "object.__class__"))
  hn : PySem.W.specialIn K (.builtin "object.__class__") "__get__" = some (some (.builtin "getset_descriptor.__get__"))
  ht : PySem.W.takesIn K (.builtin "object.__class__") = some true
  hm : PySem.W.mroIn K C (.type "object") = some true
theorem ExC.is {K : PySem.W.Frag} {A : Ad} {k : Ek} (h : ExC K A k) : IsC K (A.ex k) := ⟨h.cl, h.ga, h.gg, h.ox.exC, h.ha, h.hn, h.ht, h.hm⟩
/-- isinstance(e, c), e the error that the suite holds -/
def rIsX (K : PySem.W.Frag) (a : Addr) (cls : Value) (d : Option Addr) : List V → Hp → VK → Prop := fun xs H Q => ∃ (D : Addr) (b : Bool), cls = .ref D ∧ IsC K D ∧ (d = none ∨ ∃ dd fs, d = some dd ∧ H dd = some (.xd fs)) ∧
  ((∃ (c : V) (cv : Value), xs = [.ref a, c] ∧ (∀ u, RelV c u → u = cv) ∧ PySem.W.kitOne K (.ref D) cv = some b) ∨ (∃ (tp : Addr) (cs : List Addr), xs = [.ref a, .ref tp] ∧ H tp = some (.tup (cs.map V.ref)) ∧ PySem.W.kitAny K (.ref D) (cs.map Value.ref) = some b)) ∧ Q (.bl b) H
theorem refs_of : ∀ {cs : List Addr} {its : List Value}, Vals (cs.map V.ref) its → its = cs.map Value.ref
  | [], _, h => by cases h; rfl
  | c :: cs, _, h => by
    cases h with
    | cons a b => cases a; rw [List.map_cons, refs_of b]
theorem call_isX (K : PySem.W.Frag) {X : L2.Cx} {a : Addr} {oe : Obj} {cls : Value} {d : Option Addr} {pn : List (Addr × Obj)} (hz : Zc cls d oe) (hf : ∃ vs, oe.data = .fields vs) (hK : X.K = K := by rfl) : CallR (X.suite a ((a, oe) :: pn)) (.builtin "isinstance") (rIsX K a cls d) := by
  subst hK
  intro pins s σ H xs us Q I r h
  obtain ⟨D, b, ec, T, hd, h, q⟩ := h
  subst ec
  obtain ⟨hget, _⟩ := I.pin (a, oe) (List.mem_append_left _ List.mem_cons_self)
  obtain ⟨vs, hv⟩ := hf
  have J : ∃ od, PySem.W.InstAt s.heap a oe D od := by
    rcases hd with rfl | ⟨dd, fs, rfl, hdd⟩
    · exact ⟨none, hget, hz.1, by unfold PySem.W.notCls; rw [hv] <;> rfl, by rw [hz.2]; trivial⟩
    · obtain ⟨mA, ⟨o, es, ep, ho, _⟩, _⟩ := (show ObjOk X.prog X.w H s.heap dd (.xd fs) from I.hok dd _ hdd)
      exact ⟨some o, hget, hz.1, by unfold PySem.W.notCls; rw [hv] <;> rfl, by rw [hz.2]; exact ho⟩
  obtain ⟨od, J⟩ := J
  have Z := PySem.W.kitx_exc (x := a) (ox := oe) (od := od) T.cl T.ga T.gg T.sb T.ha T.hn T.ht T.hm
  have fin : ∀ tk, EP (X.suite a ((a, oe) :: pn)) pins σ Q (.bool b) { s with toks := tk } := fun tk => ⟨.bl b, H, I.kept (t' := tk) fun _ _ z => z, rfl, q⟩
  rcases h with ⟨c, cv, rfl, hcv, e⟩ | ⟨tp, cs, rfl, ht, e⟩
  · obtain ⟨u1, u2, rfl, r1, r2⟩ := vals2 r
    cases (show u1 = Value.ref a from r1)
    cases hcv _ r2
    exact PySem.W.kia_one Z I.kIn J e (fun z => nomatch z) fin
  · obtain ⟨u1, u2, rfl, r1, r2⟩ := vals2 r
    cases (show u1 = Value.ref a from r1)
    cases (show u2 = Value.ref tp from r2)
    obtain ⟨_, its, rv, o, h1, h2, n, h3⟩ := (show ObjOk X.prog X.w H s.heap tp (.tup (cs.map V.ref)) from I.hok tp _ ht)
    have e3 : its = cs.map Value.ref := refs_of rv
    subst e3
    obtain ⟨oc, od', dt, sl⟩ := o
    simp only at h2 h3
    subst h2 h3
    exact PySem.W.kia_tup Z I.kIn J h1 e (fun z => nomatch z) fin
/-! ### try -/
def tTryAs (K : PySem.W.Frag) (cv : Value) (i : Nat) (tb : WX → TS) (ts : Addr → Value → Option Addr → TS) (Wout : WX) : TS := fun D σ H => tb (wAs K cv i ts Wout D) D σ H
def tTryO (K : PySem.W.Frag) (cv : Value) (tb : WX → TS) (ts : Addr → Value → Option Addr → TS) (Wout : WX) : TS := fun D σ H => tb (wOnly K cv ts Wout D) D σ H
def noW : WX := fun _ _ _ _ => False
theorem takesN {X : L2.Cx} : Takes X noW := fun u s' ⟨a, B, sI, pins, σ, H, cls, d, e, I, nb, up, sky, na, os, ag, w⟩ => w.elim
section
variable (K : PySem.W.Frag) {X : L2.Cx} {x n : Str} {c : Value} {i : Nat} {body suite : List Stmt} {b₀ : Stmt} {np pos pos' : Pos} {tb : WX → TS} {ts : Addr → Value → Option Addr → TS} {Wout : WX}
theorem ktry_as (hN : X.N.Nodup) (hi : X.N[i]? = some n) (hln : X.env.kindOf n = some .local) (hc : Names X x c) (tk : Takes X Wout)
    (hb : ∀ (W : WX) (pn : List (Addr × Obj)) (xe : Value → Shared → Prop), Takes (X.tr pn xe) W → PassesOwn (model X.prog X.w) X.A X.env xe → PSs (X.tr pn xe) body (tb W))
    (hsu : ∀ (a : Addr) (oe : Obj) (cls : Value) (d : Option Addr) (pn : List (Addr × Obj)), Zc cls d oe → (∃ vs, oe.data = .fields vs) → PSs (X.suite a ((a, oe) :: pn)) (b₀ :: suite) (ts a cls d)) (hs : X.stack = X.env :: X.outer := by rfl) (hf : X.env.frame = some X.env.locals := by rfl) (hK : X.K = K := by rfl) :
    PS X (.Try body [.ExceptHandler (some (.Name x np)) (some n) (b₀ :: suite) pos'] [] [] pos) (tTryAs K c i tb ts Wout) := by
  subst hK
  exact ps_try_as hs hf hN hi hln hc tk hb hsu
theorem ktry_o (hc : Names X x c) (tk : Takes X Wout)
    (hb : ∀ (W : WX) (pn : List (Addr × Obj)) (xe : Value → Shared → Prop), Takes (X.tr pn xe) W → PassesOwn (model X.prog X.w) X.A X.env xe → PSs (X.tr pn xe) body (tb W))
    (hsu : ∀ (a : Addr) (oe : Obj) (cls : Value) (d : Option Addr) (pn : List (Addr × Obj)), Zc cls d oe → (∃ vs, oe.data = .fields vs) → PSs (X.suite a ((a, oe) :: pn)) (b₀ :: suite) (ts a cls d)) (hs : X.stack = X.env :: X.outer := by rfl) (hf : X.env.frame = some X.env.locals := by rfl) (hK : X.K = K := by rfl) :
    PS X (.Try body [.ExceptHandler (some (.Name x np)) none (b₀ :: suite) pos'] [] [] pos) (tTryO K c tb ts Wout) := by
  subst hK
  exact ps_try_only hs hf hc tk hb hsu
end
/-! ### without a heap -/
class XOk {K : PySem.W.Frag} (c : Cx K) (d : Option Addr) (x : outParam XW) : Prop where
  r : XRep K c.b c.F0 x d
class MemK (k : Ek) (ks : List Ek) : Prop where
  m : k ∈ ks
instance (priority := 2000) {k : Ek} {ks : List Ek} : MemK k (k :: ks) := ⟨List.mem_cons_self⟩
instance (priority := 100) {k k' : Ek} {ks : List Ek} [h : MemK k ks] : MemK k (k' :: ks) := ⟨List.mem_cons_of_mem _ h.m⟩
def sTryAs (kc : Ek) (ks : List Ek) (i : Nat) (b : XQ → TSQ) (h : Addr → XW → TSQ) (X : XQ) : TSQ := fun E ρ => b (fun ρ' x => x.k ∈ ks ∧ if x.k.sub kc = true then ∀ a, h a x { nx := fun ρ => E.nx (ρ.set i .un), rt := E.rt, bk := fun ρ => E.bk (ρ.set i .un), ct := fun ρ => E.ct (ρ.set i .un) } (ρ'.set i (.sh (.v (.ref a)))) else X ρ' x) E ρ
def sTryO (kc : Ek) (ks : List Ek) (b : XQ → TSQ) (h : Addr → XW → TSQ) (X : XQ) : TSQ := fun E ρ => b (fun ρ' x => x.k ∈ ks ∧ if x.k.sub kc = true then ∀ a, h a x E ρ' else X ρ' x) E ρ
def noXQ : XQ := fun _ _ => False
section
variable {K : PySem.W.Frag} {c : Cx K} {A : Ad}
instance : SX c A noW noXQ := ⟨fun _ _ h => h⟩
instance {F1 : Hp} {d : Option Addr} {x : XW} [h : XOk c d x] [r : ReOk c F1] : XOk (c.re F1) d x := ⟨h.r.mono r.e0⟩
instance tryAsI {kc : Ek} {ks : List Ek} {i : Nat} {tb : WX → TS} {ts : Addr → Value → Option Addr → TS} {Wout : WX} {Xo : XQ} {τb : XQ → TSQ} {τh : Addr → XW → TSQ} [f : ExF K A ks] [hm : MemK kc ks] [so : SX c A Wout Xo] [hb : ∀ (W : WX) (X : XQ) [SX c A W X], SS c (tb W) (τb X)]
    [hh : ∀ (F1 : Hp) [ReOk c F1] (a : Addr) (x : XW) (d : Option Addr) [XOk (c.re F1) d x], SS (c.re F1) (ts a (.ref (A.ex x.k)) d) (τh a x)] : SS c (tTryAs K (.ref (A.ex kc)) i tb ts Wout) (sTryAs kc ks i τb τh Xo) where
  sim {F H σ ρ E Eq} rl h k := by
    haveI : SX c A (wAs K (.ref (A.ex kc)) i ts Wout E) (fun ρ' x => x.k ∈ ks ∧ if x.k.sub kc = true then ∀ a, τh a x { nx := fun ρ => Eq.nx (ρ.set i .un), rt := Eq.rt, bk := fun ρ => Eq.bk (ρ.set i .un), ct := fun ρ => Eq.ct (ρ.set i .un) } (ρ'.set i (.sh (.v (.ref a)))) else Xo ρ' x) := ⟨fun {F1 H1 σ1 ρ1 x d} r xr q => by
      obtain ⟨m, q⟩ := q
      refine ⟨_, f.exm m hm.m, fun e a ha => ?_, fun e => ?_⟩
      · rw [if_pos e] at q
        haveI : ReOk c F1 := ⟨r.fr.ff, r.fr.nw⟩
        haveI : XOk (c.re F1) d x := ⟨xr⟩
        have r2 := ((r.re (Same.refl _) r.fr.ff).pushS (c := c.re F1) (.v (.ref a))).store i
        exact (hh F1 a x d).sim r2 (q a) ⟨fun r3 z => k.nx ((r3.unre r.fr.ff r.fr.nw).forget i none) z, fun r3 z => k.rt (r3.unre r.fr.ff r.fr.nw) z, fun r3 z => k.bk ((r3.unre r.fr.ff r.fr.nw).forget i none) z, fun r3 z => k.ct ((r3.unre r.fr.ff r.fr.nw).forget i none) z⟩
      · rw [if_neg (by rw [e]; simp)] at q
        exact so.sim r xr q⟩
    exact (hb _ _).sim rl h k
instance tryOI {kc : Ek} {ks : List Ek} {tb : WX → TS} {ts : Addr → Value → Option Addr → TS} {Wout : WX} {Xo : XQ} {τb : XQ → TSQ} {τh : Addr → XW → TSQ} [f : ExF K A ks] [hm : MemK kc ks] [so : SX c A Wout Xo] [hb : ∀ (W : WX) (X : XQ) [SX c A W X], SS c (tb W) (τb X)]
    [hh : ∀ (F1 : Hp) [ReOk c F1] (a : Addr) (x : XW) (d : Option Addr) [XOk (c.re F1) d x], SS (c.re F1) (ts a (.ref (A.ex x.k)) d) (τh a x)] : SS c (tTryO K (.ref (A.ex kc)) tb ts Wout) (sTryO kc ks τb τh Xo) where
  sim {F H σ ρ E Eq} rl h k := by
    haveI : SX c A (wOnly K (.ref (A.ex kc)) ts Wout E) (fun ρ' x => x.k ∈ ks ∧ if x.k.sub kc = true then ∀ a, τh a x Eq ρ' else Xo ρ' x) := ⟨fun {F1 H1 σ1 ρ1 x d} r xr q => by
      obtain ⟨m, q⟩ := q
      refine ⟨_, f.exm m hm.m, fun e a ha => ?_, fun e => ?_⟩
      · rw [if_pos e] at q
        haveI : ReOk c F1 := ⟨r.fr.ff, r.fr.nw⟩
        haveI : XOk (c.re F1) d x := ⟨xr⟩
        exact (hh F1 a x d).sim (r.re (Same.refl _) r.fr.ff) (q a) (k.re r.fr.ff r.fr.nw)
      · rw [if_neg (by rw [e]; simp)] at q
        exact so.sim r xr q⟩
    exact (hb _ _).sim rl h k
/-! ### e.f, isinstance(e, C) -/
def XW.fld (x : XW) (f : Str) : Option W := (x.k.flds.zip x.ws).lookup f
theorem fld_of {b : Addr} {F : Hp} {x : XW} {us : List V} {f : Str} {w : W} (l : x.ws.length = x.k.flds.length) (r : RepL K b F us x.ws) (h : x.fld f = some w) : f ∈ x.k.flds ∧ ∃ v, (x.k.flds.zip us).reverse.lookup f = some v ∧ Rep K b F v w := by
  obtain ⟨k, ws⟩ := x
  have two : ∀ {f1 f2 : Str}, f1 ≠ f2 → (f1 == f2) = false := fun h => by simpa using h
  unfold XW.fld at h
  have nil : k.flds = [] → False := fun e => by
    rw [e] at h; cases h
  have one : ∀ f1, k.flds = [f1] → f ∈ k.flds ∧ ∃ v, (k.flds.zip us).reverse.lookup f = some v ∧ Rep K b F v w := fun f1 e => by
    rw [e] at h l ⊢
    match ws, l with
    | [w1], _ =>
      cases r with
      | cons a r =>
        cases r
        simp only [List.zip_cons_cons, List.zip_nil_right, List.lookup_cons, List.lookup_nil] at h
        split at h
        next q =>
          cases h
          have : f = f1 := by simpa using q
          subst this
          exact ⟨by simp, _, by simp [List.lookup], a⟩
        next => cases h
  cases k with
  | leadError => exact (nil rfl).elim
  | notLegal => exact (nil rfl).elim
  | nothing => exact (nil rfl).elim
  | noText => exact (nil rfl).elim
  | noCommand => exact (nil rfl).elim
  | wrong => exact one _ rfl
  | frozen => exact one _ rfl
  | notValid => exact one _ rfl
  | notLed => exact one _ rfl
  | impossible => exact one _ rfl
  | tooMany => exact one _ rfl
  | noBundle =>
    match ws, l with
    | [w1, w2], _ =>
      cases r with
      | cons a r =>
        cases r with
        | cons a2 r =>
          cases r
          simp only [Ek.flds, List.zip_cons_cons, List.zip_nil_right, List.lookup_cons, List.lookup_nil] at h
          split at h
          next q =>
            cases h
            have : f = "one" := by simpa using q
            subst this
            exact ⟨by simp [Ek.flds], _, rfl, a⟩
          next =>
            split at h
            next q =>
              cases h
              have : f = "other" := by simpa using q
              subst this
              exact ⟨by simp [Ek.flds], _, rfl, a2⟩
            next => cases h
  | stopped =>
    match ws, l with
    | [w1, w2, w3], _ =>
      cases r with
      | cons a r =>
        cases r with
        | cons a2 r =>
          cases r with
          | cons a3 r =>
            cases r
            simp only [Ek.flds, List.zip_cons_cons, List.zip_nil_right, List.lookup_cons, List.lookup_nil] at h
            split at h
            next q =>
              cases h
              have : f = "block" := by simpa using q
              subst this
              exact ⟨by simp [Ek.flds], _, rfl, a⟩
            next =>
              split at h
              next q =>
                cases h
                have : f = "turn" := by simpa using q
                subst this
                exact ⟨by simp [Ek.flds], _, rfl, a2⟩
              next =>
                split at h
                next q =>
                  cases h
                  have : f = "run" := by simpa using q
                  subst this
                  exact ⟨by simp [Ek.flds], _, rfl, a3⟩
                next => cases h
/-- it is the error at a -/
def isXd (a : Addr) (d : D) (k : Prop) : Prop := match d with
  | .sh (.v (.ref a')) => a' = a ∧ k
  | _ => False
def qXf (ks : List Ek) (a : Addr) (x : XW) (f : Str) (t : TQ) : TQ := fun ρ Q => t ρ fun ρ1 d => isXd a d (x.k ∈ ks ∧ match x.fld f with
  | some w => Q ρ1 (.sh w)
  | none => False)
theorem isXd_of {a : Addr} {F H : Hp} {σ : L2.St} {ρ : List D} {ts : List (V × D)} {v : V} {d : D} {k : Prop} (r : Rel c F H σ ρ ((v, d) :: ts)) (h : isXd a d k) : v = .ref a ∧ k := by
  unfold isXd at h
  split at h
  next a' => exact ⟨by rw [r.topS.flat, h.1], h.2⟩
  next => exact h.elim
instance {ks : List Ek} {a : Addr} {x : XW} {d : Option Addr} {f : Str} {te : TE} {τ : TQ} [ef : ExF K A ks] [xo : XOk c d x] [SE c te τ] : SE c (tXfA K a (.ref (A.ex x.k)) d f te) (qXf ks a x f τ) where
  sim {F H σ ρ ts Q Qp} rl h k := SE.sim (t := te) (τ := τ) rl h fun v d0 ρ1 F1 H1 r1 q1 => by
    obtain ⟨rfl, m, q⟩ := isXd_of r1 q1
    refine ⟨rfl, _, rfl, (ef.c _ m).xf, ?_⟩
    split at q
    next w e =>
      obtain ⟨l, hx | ⟨nx, dd, us, rfl, e2, rr⟩⟩ := xo.r
      · unfold XW.fld at e
        rw [hx.1] at e
        cases e
      · obtain ⟨mf, u, hu, ru⟩ := fld_of l rr e
        have s1 : Same c.F0 F1 := r1.fr.ff
        exact ⟨(ef.c _ m).nf f mf, dd, _, u, rfl, r1.fr.fh _ _ (s1 _ _ e2), hu, k _ _ _ _ _ (r1.pop.pushS (ru.mono s1)) q⟩
    next => exact q.elim
theorem XOk.dict {d : Option Addr} {x : XW} [xo : XOk c d x] {F H : Hp} {σ : L2.St} {ρ : List D} {ts : List (V × D)} (r : Rel c F H σ ρ ts) : d = none ∨ ∃ dd fs, d = some dd ∧ H dd = some (.xd fs) := by
  obtain ⟨l, hx | ⟨nx, dd, us, e, e2, rr⟩⟩ := xo.r
  · exact .inl hx.2
  · exact .inr ⟨dd, _, e, r.fr.fh _ _ (r.fr.ff _ _ e2)⟩
def qXis (ks : List Ek) (a : Addr) (x : XW) (k' : Ek) (t : TQ) : TQ := fun ρ Q => t ρ fun ρ1 d => isXd a d (x.k ∈ ks ∧ Q ρ1 (.bl (x.k.sub k')))
instance (priority := 2000) {ks : List Ek} {a : Addr} {x : XW} {d : Option Addr} {k' : Ek} {te : TE} {τ : TQ} [ef : ExF K A ks] [hm : MemK k' ks] [xo : XOk c d x] [SE c te τ] : SE c (tCB (rIsX K a (.ref (A.ex x.k)) d) (tCons te (tCons (tC (.ref (A.ex k'))) tNil))) (qXis ks a x k' τ) where
  sim {F H σ ρ ts Q Qp} rl h k := SE.sim (t := te) (τ := τ) rl h fun v d0 ρ1 F1 H1 r1 q1 => by
    obtain ⟨rfl, m, q⟩ := isXd_of r1 q1
    exact ⟨_, _, rfl, (ef.c _ m).is, XOk.dict (x := x) r1, .inl ⟨_, _, rfl, fun u hu => hu, ef.kit m hm.m⟩, k _ _ _ _ _ (r1.pop.pushS (.v _)) q⟩
def qXve (ks : List Ek) (a : Addr) (x : XW) (t : TQ) : TQ := fun ρ Q => t ρ fun ρ1 d => isXd a d (x.k ∈ ks ∧ Q ρ1 (.bl true))
instance (priority := 2000) {ks : List Ek} {a : Addr} {x : XW} {d : Option Addr} {te : TE} {τ : TQ} [ef : ExF K A ks] [xo : XOk c d x] [SE c te τ] : SE c (tCB (rIsX K a (.ref (A.ex x.k)) d) (tCons te (tCons (tC (.ty "ValueError")) tNil))) (qXve ks a x τ) where
  sim {F H σ ρ ts Q Qp} rl h k := SE.sim (t := te) (τ := τ) rl h fun v d0 ρ1 F1 H1 r1 q1 => by
    obtain ⟨rfl, m, q⟩ := isXd_of r1 q1
    exact ⟨_, _, rfl, (ef.c _ m).is, XOk.dict (x := x) r1, .inl ⟨_, _, rfl, fun u hu => hu, ef.kitVE m⟩, k _ _ _ _ _ (r1.pop.pushS (.v _)) q⟩
/-- a tuple of classes -/
class ClsL (A : Ad) (ks : List Ek) (t : TA) (l : outParam (List Ek)) : Prop where
  e : t = l.foldr (fun k t => tCons (tC (.ref (A.ex k))) t) tNil
  m : ∀ k ∈ l, k ∈ ks
instance {ks : List Ek} : ClsL A ks tNil [] := ⟨rfl, fun _ h => nomatch h⟩
instance {ks l : List Ek} {k : Ek} {t : TA} [h : ClsL A ks t l] [hm : MemK k ks] : ClsL A ks (tCons (tC (.ref (A.ex k))) t) (k :: l) := ⟨by rw [h.e]; rfl, fun k' hk => by
  rcases List.mem_cons.mp hk with e | hk
  · rw [e]; exact hm.m
  · exact h.m k' hk⟩
theorem clsl_run {σ : L2.St} {H : Hp} {Q : List V → Hp → Prop} : ∀ {l : List Ek}, Q (l.map fun k => V.ref (A.ex k)) H → (l.foldr (fun k t => tCons (tC (.ref (A.ex k))) t) tNil : TA) σ H Q
  | [], h => h
  | k :: l, h => clsl_run (l := l) (Q := fun xs H2 => Q (V.ref (A.ex k) :: xs) H2) h
def qXin (ks : List Ek) (a : Addr) (x : XW) (l : List Ek) (t : TQ) : TQ := fun ρ Q => t ρ fun ρ1 d => isXd a d ((x.k ∈ ks ∧ l.length ≤ 100) ∧ Q ρ1 (.bl (l.any fun k => x.k.sub k)))
instance (priority := 2000) {ks l : List Ek} {a : Addr} {x : XW} {d : Option Addr} {t : TA} {te : TE} {τ : TQ} [ef : ExF K A ks] [hl : ClsL A ks t l] [xo : XOk c d x] [SE c te τ] : SE c (tCB (rIsX K a (.ref (A.ex x.k)) d) (tCons te (tCons (tTup t) tNil))) (qXin ks a x l τ) where
  sim {F H σ ρ ts Q Qp} rl h k := SE.sim (t := te) (τ := τ) rl h fun v d0 ρ1 F1 H1 r1 q1 => by
    obtain ⟨rfl, ⟨m, hz⟩, q⟩ := isXd_of r1 q1
    show tTup t σ H1 _
    rw [hl.e]
    refine clsl_run ⟨le_line (by rw [List.length_map]; exact hz) (by decide), fun p hp => ?_⟩
    have r2 := r1.pop.newS (o := .tup (l.map fun k => V.ref (A.ex k))) hp
    refine ⟨_, _, rfl, (ef.c _ m).is, XOk.dict (x := x) r2, .inr ⟨p, l.map A.ex, rfl, by rw [upd_same, List.map_map]; rfl, ?_⟩, k _ _ _ _ _ (r2.pushS (.v _)) q⟩
    have e := ef.kitL m hl.m
    rw [List.map_map]
    exact e
end
end R

/-! ## R19: words for the printed terms of what may raise -/
namespace R
open PySem PySem.Spec PyProof.Rows L2 G
theorem ExF.sub {K : PySem.W.Frag} {A : Ad} {ks l : List Ek} (h : ExF K A ks) (s : ∀ k ∈ l, k ∈ ks) : ExF K A l := ⟨fun k m => h.c k (s k m), fun k m k' m' => h.s k (s k m) k' (s k' m')⟩
section
variable {X : L2.Cx} {W : WX} {A : Ad} {k : Nat} {ek : Ek} {x : Str} {ps : List Str} {sp : Sp} {p pos : Pos} {e : Expr} {es : List Expr} {t : TA}
theorem pe_cS (c : Cal X.prog X.w X.K X.mg X.base (L2.CX X.prog X.w) k x ps sp) (hr : Room k X.A) (tk : Takes X W) (ha : PA X (e :: es) t) (hg : Gl X x := by rfl) (hdb : (x == ("__debug__" : Str)) = false := by decide)
    (he : starEach (e :: es) X.env = (false, eval e X.env) :: starEach es X.env := by rfl) (hpl : (backTo pos (starEach es X.env)).any (·.1) = false := by rfl) : PE X (.Call (.Name x p) (e :: es) [] pos) (tCallS sp (WE W) t) := by
  obtain ⟨f, fd, F, m, kp, b, _⟩ := c
  exact pe_callS F hr hg m kp b (fun σ => passAt tk σ) ha hdb he hpl
theorem pmk_E (T : ExC X.K A ek) (c : MCal X.prog X.w X.K X.mg X.base CX0 k (A.ex ek) "__init__" ps (SpE A ek)) (hr : Room (k + 1) X.A) (hm : X.mg x = some (.ref (A.ex ek))) (ha : PA X (e :: es) t) (hg : Gl X x := by rfl) (hdb : (x == ("__debug__" : Str)) = false := by decide)
    (he : starEach (e :: es) X.env = (false, eval e X.env) :: starEach es X.env := by rfl) (hpl : (backTo pos (starEach es X.env)).any (·.1) = false := by rfl) : PMk X (.Call (.Name x p) (e :: es) [] pos) (tMkO (A.ex ek) (SpE A ek) [] t) := by
  obtain ⟨f, fd, F, mt, b⟩ := c
  exact pmk_oex T.ox mt.at_ (beq_iff_eq.mp mt.fn) F hr b .nil pass0 hg hm ha hdb he hpl
theorem pmk_E0 (T : ExC X.K A ek) (c : MCal X.prog X.w X.K X.mg X.base CX0 k (A.ex ek) "__init__" ps (SpE A ek)) (hr : Room (k + 1) X.A) (hm : X.mg x = some (.ref (A.ex ek))) (hg : Gl X x := by rfl) (hdb : (x == ("__debug__" : Str)) = false := by decide) : PMk X (.Call (.Name x p) [] [] pos) (tMkN (A.ex ek) (SpE A ek)) := by
  obtain ⟨f, fd, F, mt, b⟩ := c
  exact pmk_N T.ox mt.at_ (beq_iff_eq.mp mt.fn) F hr b hm hg hdb
theorem ps_raiseX {t : L2.St → Hp → XK → Prop} (tk : Takes X W) (he : PMk X e t) (hc : X.calm = true := by rfl) : PS X (.Raise (some e) none pos) (tRaise W t) := ps_raise hc tk he
end
section
variable {P : Program} {w : World} {K : PySem.W.Frag} {mg : Str → Option Value} {base : Heap} {k : Nat} {ps N : List Str} {st : Stmt} {A : Ad} {ek : Ek} {q : Str}
/-- the __init__ of an error -/
theorem mdefE (D : MDef K (A.ex ek) "__init__" q st ps) (S : FnScope N ps (defScope st)) (hn : ps.length = ek.flds.length + 1)
    (bd : ∀ (f : Addr) (cdv : Value) (Ar : Around) (out : List Env) (s : Shared) (H : Hp) (vs : List V) (Q : VK) (E : XK), SpE A ek vs H Q E → ∃ t, PSs (cxOf CX0 P w K mg base N q (defScope st) f cdv Ar out s H E).nox (defBody st) t ∧ t { nx := fun _ H' => Q .non H', rt := Q } (L2.start N vs) H) :
    MCal P w K mg base CX0 1 (A.ex ek) "__init__" ps (SpE A ek) :=
  D.ok (k := 0) S (fun vs H Q E h => by rw [h.len, hn]) fun f cdv Ar out s H vs Q E hr h => bd f cdv Ar out s H vs Q E h
end
end R

/-! ## R20: a new tuple of things that stay one's own -/
namespace R
open PySem PySem.Spec PyProof.Rows L2 G
def stk : List V → List D → List (V × D) → List (V × D)
  | v :: vs, d :: ds, ts => stk vs ds ((v, d) :: ts)
  | _, _, ts => ts
abbrev TDQ := List D → (List D → List D → Prop) → Prop
class SDA {K : PySem.W.Frag} (c : Cx K) (t : TA) (n : outParam Nat) (τ : outParam TDQ) : Prop where
  sim : ∀ {F H : Hp} {σ : L2.St} {ρ : List D} {ts : List (V × D)} {Q : List V → Hp → Prop} {Qp : List D → List D → Prop}, Rel c F H σ ρ ts → τ ρ Qp → (∀ vs ds ρ' F' H', vs.length = n → ds.length = n → Rel c F' H' σ ρ' (stk vs ds ts) → Qp ρ' ds → Q vs H') → t σ H Q
section
variable {K : PySem.W.Frag} {c : Cx K}
def nNil : TDQ := fun ρ Q => Q ρ []
def nCons (a : TQ) (t : TDQ) : TDQ := fun ρ Q => a ρ fun ρ1 d => t ρ1 fun ρ2 ds => Q ρ2 (d :: ds)
/-- what the name holds goes into the tuple -/
def qMove (i : Nat) : TQ := fun ρ Q => match ρ[i]? with
  | some .un => False
  | some d => Q (ρ.set i .un) d
  | none => False
instance : SDA c tNil 0 nNil where
  sim {F H σ ρ ts Q Qp} rl h k := k [] [] _ _ _ rfl rfl rl h
instance (priority := 100) {ta : TE} {t : TA} {n : Nat} {τa : TQ} {τ : TDQ} [SE c ta τa] [SDA c t n τ] : SDA c (tCons ta t) (n + 1) (nCons τa τ) where
  sim {F H σ ρ ts Q Qp} rl h k := SE.sim (t := ta) rl h fun v d ρ1 F1 H1 r1 q1 => SDA.sim (t := t) r1 q1 fun vs ds ρ2 F2 H2 l1 l2 r2 q2 => k (v :: vs) (d :: ds) _ _ _ (by rw [List.length_cons, l1]) (by rw [List.length_cons, l2]) r2 q2
instance (priority := 2000) {i : Nat} {t : TA} {n : Nat} {τ : TDQ} [SDA c t n τ] : SDA c (tCons (tVar i) t) (n + 1) (nCons (qMove i) τ) where
  sim {F H σ ρ ts Q Qp} rl h k := by
    unfold nCons qMove at h
    dsimp only at h
    split at h
    next => exact h.elim
    next d nd e =>
      obtain ⟨v, h1, r1⟩ := rl.take e (fun z => nd z)
      exact ⟨v, h1, SDA.sim (t := t) r1 h fun vs ds ρ2 F2 H2 l1 l2 r2 q2 => k (v :: vs) (d :: ds) _ _ _ (by rw [List.length_cons, l1]) (by rw [List.length_cons, l2]) r2 q2⟩
    next => exact h.elim
theorem TsOk.stk {F H : Hp} {om : Om} : ∀ {vs : List V} {ds : List D} {ts : List (V × D)}, vs.length = ds.length → TsOk c F H om (R.stk vs ds ts) → TsOk c F H om ts ∧ ∀ (j : Nat) v d, vs[j]? = some v → ds[j]? = some d → Ow c F H (fun a => om a = some (.inr (ts.length + j))) v d
  | [], [], ts, _, h => ⟨h, fun j v d e => nomatch e⟩
  | [], _ :: _, _, l, _ => nomatch l
  | _ :: _, [], _, l, _ => nomatch l
  | v :: vs, d :: ds, ts, l, h => by
    obtain ⟨h1, h2⟩ := TsOk.stk (vs := vs) (ds := ds) (ts := (v, d) :: ts) (by simpa using l) h
    refine ⟨h1.2, fun j u e q1 q2 => ?_⟩
    cases j with
    | zero => cases q1; cases q2; exact h1.1
    | succ j =>
      have := h2 j u e (by simpa using q1) (by simpa using q2)
      rw [List.length_cons] at this
      rwa [show ts.length + (j + 1) = ts.length + 1 + j by omega]
theorem Rel.pack {F H : Hp} {σ : L2.St} {ρ : List D} {ts : List (V × D)} {vs : List V} {ds : List D} {p : Addr} (r : Rel c F H σ ρ (R.stk vs ds ts)) (l : vs.length = ds.length) (hp : H p = none) : Rel c F (upd H p (.tup vs)) σ ρ ((.ref p, .ntup ds) :: ts) := by
  obtain ⟨om, k, s, t⟩ := r.ex
  obtain ⟨t1, t2⟩ := TsOk.stk l t
  have np : ∀ a i, om a = some i → a ≠ p := fun a i h z => k.th a i h (by rw [z]; exact hp)
  have nb : p ≠ c.b := by obtain ⟨x, _, b1, _⟩ := r.fr.bg; exact (BagC.ne b1 hp).1
  let cm : Addr → Nat := fun x => match om x with
    | some (.inr j) => j - ts.length
    | _ => 0
  let om' : Om := fun x => if x = p then some (.inr ts.length) else match om x with
    | some (.inl i) => some (.inl i)
    | some (.inr j) => if ts.length ≤ j then some (.inr ts.length) else some (.inr j)
    | none => none
  have from' : ∀ a i, om' a = some i → a = p ∨ ∃ i', om a = some i' := fun a i h => by
    by_cases e : a = p
    · exact .inl e
    · right
      simp only [om'] at h
      rw [if_neg e] at h
      cases q : om a with
      | none => rw [q] at h; cases h
      | some i' => exact ⟨i', rfl⟩
  refine ⟨r.fr.newO hp, r.len, om', ⟨fun a i h => ?_, fun a i h => ?_, fun a i h => ?_, fun a i h => ?_⟩, fun i d h => (s i d h).mono (Same.refl _) (fun a u _ e => same_new hp _ _ e) fun a z => ?_, ?_, t1.mono (Same.refl _) (fun a j u _ _ e => same_new hp _ _ e) fun a j lj z => ?_⟩
  · rcases from' a i h with e | ⟨i', e⟩
    · rw [e]; exact nb
    · exact k.nb a i' e
  · rcases from' a i h with e | ⟨i', e⟩
    · rw [e]; exact r.fr.fh.free hp
    · exact k.nf a i' e
  · rcases from' a i h with e | ⟨i', e⟩
    · rw [e, upd_same]; exact fun z => nomatch z
    · rw [upd_ne (np a i' e)]; exact k.th a i' e
  · rcases from' a i h with e | ⟨i', e⟩
    · rw [e]; exact .inl (r.fr.h0 hp)
    · exact k.mn a i' e
  · simp only [om']
    rw [if_neg (np a _ z), z]
  · refine .ntup cm (by simp [om']) (r.fr.nm (r.fr.h0 hp)) upd_same l fun j v d h1 h2 => (t2 j v d h1 h2).mono (Same.refl _) (fun a u _ e => same_new hp _ _ e) fun a z => ?_
    have z' : om a = some (.inr (ts.length + j)) := z
    refine ⟨?_, np a _ z', ?_⟩
    · simp only [om']
      rw [if_neg (np a _ z'), z']
      simp
    · simp only [cm]
      rw [z']
      simp
  · simp only [om']
    rw [if_neg (np a _ z), z]
    simp only
    rw [if_neg (by omega)]
def tTupN (t : TA) : TE := tTup t
def qNTup (t : TDQ) : TQ := fun ρ Q => t ρ fun ρ1 ds => Q ρ1 (.ntup ds)
instance {t : TA} {n : Nat} {τ : TDQ} [SDA c t n τ] [z : SmN 60 n] : SE c (tTupN t) (qNTup τ) where
  sim {F H σ ρ ts Q Qp} rl h k := SDA.sim (t := t) rl h fun vs ds ρ1 F1 H1 l1 l2 r1 q1 => ⟨le_line (by rw [l1]; exact z.le) (by decide), fun p hp => k _ _ _ _ _ (r1.pack (by rw [l1, l2]) hp) q1⟩
theorem pe_tupN {X : L2.Cx} {es : List Expr} {t : TA} {k : Nat} {pos : Pos} (h : PE X (.Tuple es k pos) (tTup t)) : PE X (.Tuple es k pos) (tTupN t) := h
end
end R

/-! ## R21: statements put together by hand (where an error may pass) -/
namespace R
open PySem PySem.Spec PyProof.Rows L2 G
section
variable {K : PySem.W.Frag} {c : Cx K} {A : Ad}
theorem ssSeq {t u : TS} {τ υ : TSQ} (a : SS c t τ) (b : SS c u υ) : SS c (tSeq t u) (sSeq τ υ) := inferInstance
theorem ssIf {tt : TT} {ta tb : TS} {τt : TTQ} {τa τb : TSQ} (t : ST c tt τt) (a : SS c ta τa) (b : SS c tb τb) : SS c (tIfS tt ta tb) (sIf τt τa τb) := inferInstance
theorem ssFor {wi : TI} {g : TG} {tb : TS} {τi : TIQ} {sl : List Nat} {γ : TGQ} {τb : TSQ} (i : SI c wi τi) (h : ∀ F1, SG (c.re F1) g sl γ) (b : ∀ (F1 : Hp) [ReOk c F1], SS (c.re F1) tb τb) : SS c (tFor wi g tb) (sFor τi γ τb) := @forI K c wi g tb τi sl γ τb i h b
theorem ssWhile {tt : TT} {tb : TS} {τt : TTQ} {τb : TSQ} (t : ST c tt τt) (b : SS c tb τb) : SS c (tWhile tt tb) (sWhile τt τb) := inferInstance
theorem ssTryAs {kc : Ek} {ks : List Ek} {i : Nat} {tb : WX → TS} {ts : Addr → Value → Option Addr → TS} {Wout : WX} {Xo : XQ} {τb : XQ → TSQ} {τh : Addr → XW → TSQ} (f : ExF K A ks) (hm : MemK kc ks) (so : SX c A Wout Xo) (hb : ∀ (W : WX) (X : XQ) [SX c A W X], SS c (tb W) (τb X))
    (hh : ∀ (F1 : Hp) [ReOk c F1] (a : Addr) (x : XW) (d : Option Addr) [XOk (c.re F1) d x], SS (c.re F1) (ts a (.ref (A.ex x.k)) d) (τh a x)) : SS c (tTryAs K (.ref (A.ex kc)) i tb ts Wout) (sTryAs kc ks i τb τh Xo) := @tryAsI K c A kc ks i tb ts Wout Xo τb τh f hm so hb hh
theorem ssTryO {kc : Ek} {ks : List Ek} {tb : WX → TS} {ts : Addr → Value → Option Addr → TS} {Wout : WX} {Xo : XQ} {τb : XQ → TSQ} {τh : Addr → XW → TSQ} (f : ExF K A ks) (hm : MemK kc ks) (so : SX c A Wout Xo) (hb : ∀ (W : WX) (X : XQ) [SX c A W X], SS c (tb W) (τb X))
    (hh : ∀ (F1 : Hp) [ReOk c F1] (a : Addr) (x : XW) (d : Option Addr) [XOk (c.re F1) d x], SS (c.re F1) (ts a (.ref (A.ex x.k)) d) (τh a x)) : SS c (tTryO K (.ref (A.ex kc)) tb ts Wout) (sTryO kc ks τb τh Xo) := @tryOI K c A kc ks tb ts Wout Xo τb τh f hm so hb hh
end
end R

/-! ## R22: sorted; list.insert, list.reverse, list.clear -/
namespace R
open PySem PySem.Spec PyProof.Rows L2 G
def isort (is : List Int) : List Int := is.mergeSort fun a b => decide (a ≤ b)
def lexLe (x y : Int × Int) : Bool := !SrtO.lexB y x
def psort (ps : List (Int × Int)) : List (Int × Int) := ps.mergeSort lexLe
theorem isort_uniq {qs is : List Int} (h : qs.Perm is) (s : qs.Pairwise (· ≤ ·)) : qs = isort is := by
  refine List.Perm.eq_of_pairwise (le := (· ≤ ·)) (fun a b _ _ h1 h2 => by omega) s ?_ (h.trans (List.mergeSort_perm is _).symm)
  refine (List.pairwise_mergeSort (fun a b c h1 h2 => ?_) (fun a b => ?_) is).imp fun h => of_decide_eq_true h
  · simp only [decide_eq_true_eq] at *; omega
  · simp only [Bool.or_eq_true, decide_eq_true_eq]; omega
theorem lexLe_iff {x y : Int × Int} : lexLe x y = true ↔ x.1 < y.1 ∨ (x.1 = y.1 ∧ x.2 ≤ y.2) := by
  unfold lexLe
  rw [Bool.not_eq_true', SrtO.lexB_no]
  omega
theorem psort_uniq {qs ps : List (Int × Int)} (h : qs.Perm ps) (s : qs.Pairwise fun x y => lexLe x y = true) : qs = psort ps := by
  refine List.Perm.eq_of_pairwise (le := fun x y => lexLe x y = true) (fun a b _ _ h1 h2 => ?_) s ?_ (h.trans (List.mergeSort_perm ps _).symm)
  · rw [lexLe_iff] at h1 h2
    exact Prod.ext (by omega) (by omega)
  · refine List.pairwise_mergeSort (fun a b c h1 h2 => ?_) (fun a b => ?_) ps
    · rw [lexLe_iff] at *; omega
    · rw [Bool.or_eq_true, lexLe_iff, lexLe_iff]; omega
theorem psort_perm (ps : List (Int × Int)) : (psort ps).Perm ps := List.mergeSort_perm ps _
theorem isort_perm (is : List Int) : (isort is).Perm is := List.mergeSort_perm is _
def pW (p : Int × Int) : W := .tup [.v (.int p.1), .v (.int p.2)]
def asIs : List W → Option (List Int)
  | [] => some []
  | .v (.int i) :: ws => (asIs ws).map (i :: ·)
  | _ => none
def asPs : List W → Option (List (Int × Int))
  | [] => some []
  | .tup [.v (.int i), .v (.int j)] :: ws => (asPs ws).map ((i, j) :: ·)
  | _ => none
def keyIs : List Key → Option (List Int)
  | [] => some []
  | .inl i :: ks => (keyIs ks).map (i :: ·)
  | _ => none
theorem asIs_of : ∀ {ws : List W} {is : List Int}, asIs ws = some is → ws = is.map fun i => W.v (.int i)
  | [], _, h => by cases h; rfl
  | w :: ws, is, h => by
    unfold asIs at h
    split at h
    next e => cases e
    next i ws' e =>
      cases e
      cases q : asIs ws with
      | none => rw [q] at h; cases h
      | some js => rw [q] at h; cases h; rw [List.map_cons, ← asIs_of q]
    next => cases h
theorem asPs_of : ∀ {ws : List W} {ps : List (Int × Int)}, asPs ws = some ps → ws = ps.map pW
  | [], _, h => by cases h; rfl
  | w :: ws, is, h => by
    unfold asPs at h
    split at h
    next e => cases e
    next i j ws' e =>
      cases e
      cases q : asPs ws with
      | none => rw [q] at h; cases h
      | some js => rw [q] at h; cases h; rw [List.map_cons, ← asPs_of q]; rfl
    next => cases h
theorem keyIs_of : ∀ {ks : List Key} {is : List Int}, keyIs ks = some is → ks = is.map Sum.inl
  | [], _, h => by cases h; rfl
  | w :: ws, is, h => by
    unfold keyIs at h
    split at h
    next e => cases e
    next i ws' e =>
      cases e
      cases q : keyIs ws with
      | none => rw [q] at h; cases h
      | some js => rw [q] at h; cases h; rw [List.map_cons, ← keyIs_of q]
    next => cases h
@[simp] theorem asIs_map (is : List Int) : asIs (is.map fun i => W.v (.int i)) = some is := by
  induction is with
  | nil => rfl
  | cons i is ih => rw [List.map_cons, asIs, ih]; rfl
@[simp] theorem asPs_map (ps : List (Int × Int)) : asPs (ps.map pW) = some ps := by
  induction ps with
  | nil => rfl
  | cons i is ih =>
    rw [List.map_cons]
    show (asPs (is.map pW)).map ((i.1, i.2) :: ·) = _
    rw [ih]; rfl
@[simp] theorem keyIs_map (is : List Int) : keyIs (is.map Sum.inl) = some is := by
  induction is with
  | nil => rfl
  | cons i is ih => rw [List.map_cons, keyIs, ih]; rfl
/-- a list sorted -/
def sortW (ws : List W) : Option (List W) := match asIs ws with
  | some is => some ((isort is).map fun i => W.v (.int i))
  | none => (asPs ws).map fun ps => (psort ps).map pW
theorem sortW_is (is : List Int) : sortW (is.map fun i => W.v (.int i)) = some ((isort is).map fun i => W.v (.int i)) := by unfold sortW; rw [asIs_map]
theorem sortW_ps (ps : List (Int × Int)) : sortW (ps.map pW) = some ((psort ps).map pW) := by
  cases ps with
  | nil => simp [sortW, asIs, isort, psort]
  | cons p ps =>
    unfold sortW
    rw [show asIs ((p :: ps).map pW) = none from rfl, asPs_map]
    rfl
def rSortA (K : PySem.W.Frag) : List V → Hp → VK → Prop := fun vs H Q => rSortedI K vs H Q ∨ rSortedPO K vs H Q ∨ (∃ (a : Addr) (kvs : List (Key × V)) (ks : List Int), vs = [.ref a] ∧ Rd H a (.dK kvs) ∧ kvs.map (·.1) = ks.map Sum.inl ∧ ks.length < 64 ∧ ∀ (ys : List Int) (p : Addr), ys.Perm ks → ys.Pairwise (· ≤ ·) → H p = none → Q (.ref p) (upd H p (.lst (ys.map V.int))))
theorem ksorted (K : PySem.W.Frag) {X : L2.Cx} (hc : X.calm = true := by rfl) (hK : X.K = K := by rfl) : CallR X (.builtin "sorted") (rSortA K) := by
  subst hK
  intro pins s σ H vs us Q I r h
  rcases h with h | h | h
  · exact cr_sortedI pins s σ H vs us Q I r h
  · exact cr_sortedPO pins s σ H vs us Q I r h
  · exact call_sortedDI hc pins s σ H vs us Q I r h
def bSorted : List W → (D → Prop) → Prop := fun xs k => match xs with
  | [.lst ws] => match sortW ws with
    | some ys => k (.lst ys)
    | none => False
  | [.dic ks _] => match keyIs ks with
    | some is => is.length < 64 ∧ k (.lst ((isort is).map fun i => W.v (.int i)))
    | none => False
  | _ => False
section
variable {K : PySem.W.Frag} {c : Cx K}
theorem repl_pairs {b : Addr} {F : Hp} {k : V → Int × Int} : ∀ {us : List V}, (∀ u ∈ us, ∃ t, u = V.ref t ∧ F t = some (.tup [.int (k u).1, .int (k u).2])) → RepL K b F us ((us.map k).map pW)
  | [], _ => .nil
  | u :: us, h => by
    obtain ⟨t, e, q⟩ := h u List.mem_cons_self
    refine .cons ?_ (repl_pairs fun v hv => h v (List.mem_cons_of_mem _ hv))
    rw [e] at q ⊢
    exact .tup q (.cons (.v _) (.cons (.v _) .nil))
/-- the two ints at hand -/
def kOf (F : Hp) : V → Int × Int
  | .ref t => match F t with
    | some (.tup [.int i, .int j]) => (i, j)
    | _ => (0, 0)
  | _ => (0, 0)
theorem pairs_of {b : Addr} {F : Hp} : ∀ {us : List V} {ps : List (Int × Int)}, RepL K b F us (ps.map pW) → us.map (kOf F) = ps ∧ ∀ u ∈ us, ∃ t, u = V.ref t ∧ F t = some (.tup [.int (kOf F u).1, .int (kOf F u).2])
  | _, [], h => by cases h; exact ⟨rfl, fun _ h => nomatch h⟩
  | _, p :: ps, h => by
    cases h with
    | cons a r =>
      obtain ⟨h1, h2⟩ := pairs_of r
      cases a with
      | @tup a us _ e rr =>
        cases rr with
        | cons x rr =>
          cases rr with
          | cons y rr =>
            cases rr
            cases x
            cases y
            have e2 : kOf F (.ref a) = p := by unfold kOf; simp only [e]
            refine ⟨by rw [List.map_cons, h1, e2], fun u hu => ?_⟩
            rcases List.mem_cons.mp hu with rfl | hu
            · exact ⟨a, rfl, by rw [e2]; exact e⟩
            · exact h2 u hu
instance : SC c (rSortA K) bSorted where
  sim {F H σ ρ ts xs ws Q Qp} rl hx h k := by
    unfold bSorted at h
    split at h
    next ws =>
      obtain ⟨v, rfl, hv⟩ := hx.one
      obtain ⟨a, us, rfl, ha, rr⟩ := hv.lst rl.fr.fh
      unfold sortW at h
      cases e : asIs ws with
      | some is =>
        rw [e] at h
        rw [asIs_of e] at rr
        have eu := rr.unf (f := fun i : Int => V.int i)
        subst eu
        refine .inl ⟨a, is, rfl, SqL.of ha, fun ns p hp hs hn => ?_⟩
        have en := isort_uniq hp hs
        subst en
        exact k _ _ _ _ (rl.newO (o := .lst ((isort is).map V.int)) hn (own_lst (RepL.ofF (fun i : Int => V.int i) _))) h
      | none =>
        rw [e] at h
        cases e2 : asPs ws with
        | none => rw [e2] at h; exact h.elim
        | some ps =>
          rw [e2] at h
          rw [asPs_of e2] at rr
          obtain ⟨h1, h2⟩ := pairs_of rr
          refine .inr (.inl ⟨a, us, kOf F, rfl, SqL.of ha, fun u hu => ?_, fun ys p hs hb hn => ?_⟩)
          · obtain ⟨t, et, q⟩ := h2 u hu
            exact ⟨t, et, rl.fr.fh _ _ q⟩
          · have hp := hb.perm
            have em : ys.map (kOf F) = psort ps := by
              refine psort_uniq (by rw [← h1]; exact hp.map _) (List.pairwise_map.mpr (hs.imp fun {x y} hxy => ?_))
              have hxy' : SrtO.lexB (kOf F y) (kOf F x) = false := hxy
              unfold lexLe
              rw [hxy']; rfl
            have rp : RepL K c.b F ys ((psort ps).map pW) := by
              rw [← em]
              exact repl_pairs fun u hu => h2 u (hp.mem_iff.mp hu)
            exact k _ _ _ _ (rl.newO (o := .lst ys) hn (own_lst rp)) h
    next ks ws =>
      split at h
      next is e =>
        obtain ⟨v, rfl, hv⟩ := hx.one
        obtain ⟨a, us, rfl, ha, hl, rr⟩ := hv.dic rl.fr.fh
        have ek := keyIs_of e
        subst ek
        refine .inr (.inr ⟨a, _, is, rfl, Rd.of ha, ?_, h.1, fun ns p hp hs hn => ?_⟩)
        · exact List.map_fst_zip (by omega)
        · have en := isort_uniq hp hs
          subst en
          exact k _ _ _ _ (rl.newO (o := .lst ((isort is).map V.int)) hn (own_lst (RepL.ofF (fun i : Int => V.int i) _))) h.2
      next => exact h.elim
    next => exact h.elim
/-! ### insert, reverse, clear -/
def rIns : V → List V → Hp → VK → Prop := fun x vs H Q => ∃ (l : Addr) (xs : List V) (i : Int) (y : V), x = .ref l ∧ vs = [.int i, y] ∧ H l = some (.lst xs) ∧ xs.length < sizeLine ∧ 0 ≤ i ∧ i < 2 ^ 63 ∧ Q .non (upd H l (.lst (xs.take i.toNat ++ [y] ++ xs.drop i.toNat)))
theorem mt_ins {X : L2.Cx} : MtR X "list.insert" rIns := mt_insert
def insW (ws : List W) (i : Nat) (w : W) : List W := ws.take i ++ [w] ++ ws.drop i
def insK (wi w : W) (s : Nat) (ρ1 : List D) (Q : KQ) : Prop := match wi, ρ1[s]? with
  | .v (.int i), some (.lst ws) => (ws.length < 100000 ∧ 0 ≤ i ∧ i < 2 ^ 63) ∧ Q (ρ1.set s (.lst (insW ws i.toNat w))) .non
  | _, _ => False
def qInsert (s : Nat) (ti t : TQ) : TQ := fun ρ Q => match ρ[s]? with
  | some (.lst _) => ti ρ fun ρ0 di => lookD di fun wi => t ρ0 fun ρ1 d => lookD d fun w => insK wi w s ρ1 Q
  | _ => False
instance {s : Nat} {ti t : TE} {τi τ : TQ} [SE c ti τi] [SE c t τ] : SE c (tBM K "list" rIns (tVar s) (tCons ti (tCons t tNil))) (qInsert s τi τ) where
  sim {F H σ ρ ts Q Qp} rl h k := by
    unfold qInsert at h
    split at h
    next ws0 es =>
      obtain ⟨x, S, h1, h2⟩ := rl.slot es (fun z => nomatch z)
      have tyx : tyV K "list" x H := by
        cases h2 with | lst s0 m hx rr => exact .inl ⟨rfl, _, SqL.of hx⟩
      refine ⟨x, h1, tyx, SE.simW (t := ti) (τ := τi) (Qp := fun ρ0 wi => τ ρ0 fun ρ1 d => lookD d fun w => insK wi w s ρ1 Qp) rl h fun vi wi ρ0 F0 H0 r0 q0 => SE.simW (t := t) (τ := τ) (Qp := fun ρ1 w => insK wi w s ρ1 Qp) r0 q0 fun v w ρ1 F1 H1 r1 q1 => ?_⟩
      unfold insK at q1
      split at q1
      next i ws es1 =>
        obtain ⟨x', S', h3, h4⟩ := r1.slot es1 (fun z => nomatch z)
        rw [h1] at h3
        cases h3
        have ei := r1.pop.topS.flat
        subst ei
        cases h4 with
        | @lst _ a us _ s0 m ha rr =>
          refine ⟨a, us, i, v, rfl, rfl, ha, by rw [rr.len, sizeLine_eq]; omega, q1.1.2.1, q1.1.2.2, k _ _ _ _ _ (Rel.pushS (r1.pop.pop.mutS es1 (d' := .lst (insW ws i.toNat w)) (fun z => nomatch z) h1 fun T o => ?_) (.v .non)) q1.2⟩
          cases o with
          | lst s0' m' ha' rr' =>
            rw [ha] at ha'
            cases ha'
            exact ⟨s0', .lst s0' m' upd_same (((rr'.take _).app (.cons r1.topS .nil)).app (rr'.drop _))⟩
      next => exact q1.elim
    next => exact h.elim
def qReverse (s : Nat) : TQ := fun ρ Q => match ρ[s]? with
  | some (.lst ws) => Q (ρ.set s (.lst ws.reverse)) .non
  | _ => False
instance {s : Nat} : SE c (tBM0 K "list" rReverse (tVar s)) (qReverse s) where
  sim {F H σ ρ ts Q Qp} rl h k := by
    unfold qReverse at h
    split at h
    next ws es =>
      obtain ⟨x, S, h1, h2⟩ := rl.slot es (fun z => nomatch z)
      cases h2 with
      | @lst _ a us _ s0 m ha rr =>
        refine ⟨.ref a, h1, .inl ⟨rfl, _, SqL.of ha⟩, a, us, rfl, rfl, ha, k _ _ _ _ _ (Rel.pushS (rl.mutS es (d' := .lst ws.reverse) (fun z => nomatch z) h1 fun T o => ?_) (.v .non)) h⟩
        cases o with
        | lst s0' m' ha' rr' =>
          rw [ha] at ha'
          cases ha'
          exact ⟨s0', .lst s0' m' upd_same rr'.rev⟩
    next => exact h.elim
def qClear (s : Nat) : TQ := fun ρ Q => match ρ[s]? with
  | some (.lst ws) => Q (ρ.set s (.lst [])) .non
  | _ => False
instance {s : Nat} : SE c (tBM0 K "list" rClear (tVar s)) (qClear s) where
  sim {F H σ ρ ts Q Qp} rl h k := by
    unfold qClear at h
    split at h
    next ws es =>
      obtain ⟨x, S, h1, h2⟩ := rl.slot es (fun z => nomatch z)
      cases h2 with
      | @lst _ a us _ s0 m ha rr =>
        refine ⟨.ref a, h1, .inl ⟨rfl, _, SqL.of ha⟩, a, us, rfl, rfl, ha, k _ _ _ _ _ (Rel.pushS (rl.mutS es (d' := .lst []) (fun z => nomatch z) h1 fun T o => ?_) (.v .non)) h⟩
        cases o with
        | lst s0' m' ha' rr' => exact ⟨s0', .lst s0' m' upd_same .nil⟩
    next => exact h.elim
end
end R

/-! ## R23: min and max of three -/
namespace R
open PySem PySem.Spec PyProof.Rows L2 G
theorem nuMin_int (i j : Int) : nuMin2 (.int i) (.int j) = some (.int (min i j)) := by
  unfold nuMin2
  show some (if decide (j < i) = true then V.int j else V.int i) = _
  by_cases h : j < i
  · rw [if_pos (decide_eq_true h), Int.min_eq_right (by omega)]
  · rw [if_neg (by simpa using h), Int.min_eq_left (by omega)]
theorem nuMax_int (i j : Int) : nuMax2 (.int i) (.int j) = some (.int (max i j)) := by
  unfold nuMax2
  show some (if decide (i < j) = true then V.int j else V.int i) = _
  by_cases h : i < j
  · rw [if_pos (decide_eq_true h), Int.max_eq_right (by omega)]
  · rw [if_neg (by simpa using h), Int.max_eq_left (by omega)]
def rMin3 : List V → Hp → VK → Prop := rNuC3 nuMin3
def rMax3 : List V → Hp → VK → Prop := rNuC3 nuMax3
theorem kmin3 {X : L2.Cx} (hc : X.calm = true := by rfl) : CallR X (.builtin "min") rMin3 := call_min3Nu hc
theorem kmax3 {X : L2.Cx} (hc : X.calm = true := by rfl) : CallR X (.builtin "max") rMax3 := call_max3Nu hc
def bMin3 : List W → (D → Prop) → Prop := fun xs k => match xs with
  | [.v (.int a), .v (.int b), .v (.int c)] => k (.int (min (min a b) c))
  | _ => False
def bMax3 : List W → (D → Prop) → Prop := fun xs k => match xs with
  | [.v (.int a), .v (.int b), .v (.int c)] => k (.int (max (max a b) c))
  | _ => False
section
variable {K : PySem.W.Frag} {c : Cx K}
theorem VwL.three {F H : Hp} {xs : List V} {a b d : W} (h : VwL c F H xs [a, b, d]) : ∃ x y z, xs = [x, y, z] ∧ Vw c F H x a ∧ Vw c F H y b ∧ Vw c F H z d := by
  match xs, h with
  | [x, y, z], h => exact ⟨x, y, z, rfl, h.1, h.2.1, h.2.2.1⟩
instance : SC c rMin3 bMin3 where
  sim {F H σ ρ ts xs ws Q Qp} rl hx h k := by
    unfold bMin3 at h
    split at h
    next a b d =>
      obtain ⟨x, y, z, rfl, h1, h2, h3⟩ := hx.three
      cases h1.flat
      cases h2.flat
      cases h3.flat
      exact ⟨_, _, _, _, rfl, by unfold nuMin3; rw [nuMin_int, Option.bind_some, nuMin_int], k _ _ _ _ (rl.pushS (.v _)) h⟩
    next => exact h.elim
instance : SC c rMax3 bMax3 where
  sim {F H σ ρ ts xs ws Q Qp} rl hx h k := by
    unfold bMax3 at h
    split at h
    next a b d =>
      obtain ⟨x, y, z, rfl, h1, h2, h3⟩ := hx.three
      cases h1.flat
      cases h2.flat
      cases h3.flat
      exact ⟨_, _, _, _, rfl, by unfold nuMax3; rw [nuMax_int, Option.bind_some, nuMax_int], k _ _ _ _ (rl.pushS (.v _)) h⟩
    next => exact h.elim
end
end R

/-! ## RE: how a heapless program runs, as rewriting from without -/
namespace R
open PySem PySem.Spec PyProof.Rows L2 G
@[simp ↓] theorem qC_e (v : V) (ρ : List D) (Q : KQ) : qC v ρ Q = (Q ρ (.sh (.v v))) := by rw [qC]
@[simp ↓] theorem vE_e (τ : TQ) (ρ : List D) (Q : List D → PV → Prop) : vE τ ρ Q = (τ ρ fun ρ' d => lookD d fun w => Q ρ' (.inr w)) := by rw [vE]
@[simp ↓] theorem qOp_e (ω : W → W → (D → Prop) → Prop) (ta tb : TVQ) (ρ : List D) (Q : KQ) : qOp ω ta tb ρ Q = (ta ρ fun ρ1 p => tb ρ1 fun ρ2 q => look ρ2 p fun x => look ρ2 q fun y => ω x y fun d => Q ρ2 d) := by rw [qOp]
@[simp ↓] theorem qUn_e (ω : W → (D → Prop) → Prop) (ta : TVQ) (ρ : List D) (Q : KQ) : qUn ω ta ρ Q = (ta ρ fun ρ1 p => look ρ1 p fun x => ω x fun d => Q ρ1 d) := by rw [qUn]
@[simp ↓] theorem vNil_e  (ρ : List D) (Q : List D → List PV → Prop) : vNil  ρ Q = (Q ρ []) := by rw [vNil]
@[simp ↓] theorem vCons_e (a : TVQ) (t : TVAQ) (ρ : List D) (Q : List D → List PV → Prop) : vCons a t ρ Q = (a ρ fun ρ1 p => t ρ1 fun ρ2 ps => Q ρ2 (p :: ps)) := by rw [vCons]
@[simp ↓] theorem qCB_e (ω : List W → (D → Prop) → Prop) (t : TVAQ) (ρ : List D) (Q : KQ) : qCB ω t ρ Q = (t ρ fun ρ1 ps => lookL ρ1 ps fun ws => ω ws fun d => Q ρ1 d) := by rw [qCB]
@[simp ↓] theorem aNil_e  (ρ : List D) (Q : List D → List W → Prop) : aNil  ρ Q = (Q ρ []) := by rw [aNil]
@[simp ↓] theorem aCons_e (a : TQ) (t : TAQ) (ρ : List D) (Q : List D → List W → Prop) : aCons a t ρ Q = (a ρ fun ρ1 d => lookD d fun w => t ρ1 fun ρ2 ws => Q ρ2 (w :: ws)) := by rw [aCons]
@[simp ↓] theorem qTup_e (t : TAQ) (ρ : List D) (Q : KQ) : qTup t ρ Q = (t ρ fun ρ1 ws => Q ρ1 (.sh (.tup ws))) := by rw [qTup]
@[simp ↓] theorem qLst_e (t : TAQ) (ρ : List D) (Q : KQ) : qLst t ρ Q = (t ρ fun ρ1 ws => Q ρ1 (.lst ws)) := by rw [qLst]
@[simp ↓] theorem qB_e (τ : TQ) (ρ : List D) (Q : List D → Bool → Prop) : qB τ ρ Q = (τ ρ fun ρ1 d => lookD d fun w => toB Q ρ1 w) := by rw [qB]
@[simp ↓] theorem qAnd_e (a b : TTQ) (ρ : List D) (Q : List D → Bool → Prop) : qAnd a b ρ Q = (a ρ fun ρ1 c => if c = true then b ρ1 Q else Q ρ1 false) := by rw [qAnd]
@[simp ↓] theorem qOr_e (a b : TTQ) (ρ : List D) (Q : List D → Bool → Prop) : qOr a b ρ Q = (a ρ fun ρ1 c => if c = true then Q ρ1 true else b ρ1 Q) := by rw [qOr]
@[simp ↓] theorem qNot_e (a : TTQ) (ρ : List D) (Q : List D → Bool → Prop) : qNot a ρ Q = (a ρ fun ρ1 c => Q ρ1 (!c)) := by rw [qNot]
@[simp ↓] theorem qYes_e  (ρ : List D) (Q : List D → Bool → Prop) : qYes  ρ Q = (Q ρ true) := by rw [qYes]
@[simp ↓] theorem qAndV_e (a t : TQ) (ρ : List D) (Q : KQ) : qAndV a t ρ Q = (a ρ fun ρ1 d => lookD d fun w => toB (fun ρ1 k => if k = true then t ρ1 Q else Q ρ1 (.bl false)) ρ1 w) := by rw [qAndV]
@[simp ↓] theorem qOrV_e (a t : TQ) (ρ : List D) (Q : KQ) : qOrV a t ρ Q = (a ρ fun ρ1 d => lookD d fun w => toB (fun ρ1 k => if k = true then Q ρ1 (.bl true) else t ρ1 Q) ρ1 w) := by rw [qOrV]
@[simp ↓] theorem qNotV_e (a : TQ) (ρ : List D) (Q : KQ) : qNotV a ρ Q = (a ρ fun ρ1 d => lookD d fun w => toB (fun ρ1 k => Q ρ1 (.bl (!k))) ρ1 w) := by rw [qNotV]
@[simp ↓] theorem qIf_e (t : TTQ) (a b : TQ) (ρ : List D) (Q : KQ) : qIf t a b ρ Q = (t ρ fun ρ1 k => if k = true then a ρ1 Q else b ρ1 Q) := by rw [qIf]
@[simp ↓] theorem qChain_e (ω ω' : W → W → (D → Prop) → Prop) (ta tb tc : TVQ) (ρ : List D) (Q : KQ) : qChain ω ω' ta tb tc ρ Q = (ta ρ fun ρ1 p => tb ρ1 fun ρ2 q => look ρ2 p fun x => look ρ2 q fun y => ω x y fun d => lookD d fun w => toB (fun ρ2 k => if k = true then tc ρ2 fun ρ3 s => look ρ3 q fun y => look ρ3 s fun z => ω' y z fun d => Q ρ3 d else Q ρ2 (.bl false)) ρ2 w) := by rw [qChain]
@[simp ↓] theorem gqName_e (i : Nat) (d : D) (ρ : List D) (Q : List D → Prop) : gqName i d ρ Q = (Q (ρ.set i d)) := by rw [gqName]
@[simp ↓] theorem sNext_e  (E : EQ) (ρ : List D) : sNext  E ρ = (E.nx ρ) := by rw [sNext]
@[simp ↓] theorem sSeq_e (t u : TSQ) (E : EQ) (ρ : List D) : sSeq t u E ρ = (t { E with nx := u E } ρ) := by rw [sSeq]
@[simp ↓] theorem sBreak_e  (E : EQ) (ρ : List D) : sBreak  E ρ = (E.bk ρ) := by rw [sBreak]
@[simp ↓] theorem sCont_e  (E : EQ) (ρ : List D) : sCont  E ρ = (E.ct ρ) := by rw [sCont]
@[simp ↓] theorem sDrop_e (t : TQ) (E : EQ) (ρ : List D) : sDrop t E ρ = (t ρ fun ρ1 _ => E.nx ρ1) := by rw [sDrop]
@[simp ↓] theorem sRet_e (t : TQ) (E : EQ) (ρ : List D) : sRet t E ρ = (t ρ fun _ d => E.rt d) := by rw [sRet]
@[simp ↓] theorem sRetN_e  (E : EQ) (ρ : List D) : sRetN  E ρ = (E.rt .non) := by rw [sRetN]
@[simp ↓] theorem sIf_e (t : TTQ) (a b : TSQ) (E : EQ) (ρ : List D) : sIf t a b E ρ = (t ρ fun ρ1 k => if k = true then a E ρ1 else b E ρ1) := by rw [sIf]
@[simp ↓] theorem sNever_e  (x0 : EQ) (x1 : List D) : sNever  x0 x1 = (False) := by rw [sNever]
@[simp ↓] theorem sAsg_e (t : TQ) (g : TGQ) (E : EQ) (ρ : List D) : sAsg t g E ρ = (t ρ fun ρ1 d => g d ρ1 E.nx) := by rw [sAsg]
@[simp ↓] theorem sPar_e (i j : Nat) (a b : TQ) (E : EQ) (ρ : List D) : sPar i j a b E ρ = (i ≠ j ∧ a ρ fun ρ1 d => b ρ1 fun ρ2 e => E.nx ((ρ2.set j e).set i d)) := by rw [sPar]
@[simp ↓] theorem sFor_e (it : TIQ) (g : TGQ) (b : TSQ) (E : EQ) (ρ : List D) : sFor it g b E ρ = (it ρ fun ρ1 ws => qLoop g b E ws ρ1) := by rw [sFor]
@[simp ↓] theorem qLc_e (it : TIQ) (g : TGQ) (tt : TTQ) (te : TQ) (vs : List Nat) (ρ : List D) (Q : KQ) : qLc it g tt te vs ρ Q = (it ρ fun ρ1 ws => ws.length ≤ 100000 ∧ qLcL g tt te vs (fun ρ2 acc => Q (mrg ρ1 ρ2 vs) (.lst acc)) ws (wipeD ρ1 vs) []) := by rw [qLc]
@[simp ↓] theorem runF_e (τ : TSQ) (m : Nat) (ws : List W) (Q : D → Prop) : runF τ m ws Q = (τ { nx := fun _ => Q .non, rt := Q } (ws.map D.sh ++ List.replicate m .un)) := by rw [runF]
@[simp ↓] theorem qCall_e (f : PF) (n : Nat) (t : TAQ) (ρ : List D) (Q : KQ) : qCall f n t ρ Q = (t ρ fun ρ1 ws => f ws fun d => Q ρ1 d) := by rw [qCall]
@[simp ↓] theorem qMeth_e (C : Addr) (m : Str) (f : PF) (n : Nat) (ta : TQ) (t : TAQ) (ρ : List D) (Q : KQ) : qMeth C m f n ta t ρ Q = (ta ρ fun ρ1 d => lookD d fun w => isObj C m w (t ρ1 fun ρ2 ws => f (w :: ws) fun d => Q ρ2 d)) := by rw [qMeth]
@[simp ↓] theorem runI_e (C : Addr) (τ : TSQ) (m : Nat) (ws : List W) (Q : List Str → List W → Prop) : runI C τ m ws Q = (τ { nx := endI C Q, rt := fun _ => False } (.mobj C [] [] :: (ws.map D.sh ++ List.replicate m .un))) := by rw [runI]
@[simp ↓] theorem qMake_e (C : Addr) (f : PI0) (t : TAQ) (ρ : List D) (Q : KQ) : qMake C f t ρ Q = (t ρ fun ρ1 ws => f ws fun fs zs => Q ρ1 (.obj C fs zs)) := by rw [qMake]
@[simp ↓] theorem qDc_e (it : TIQ) (g : TGQ) (tt : TTQ) (tk tv : TQ) (vs : List Nat) (ρ : List D) (Q : KQ) : qDc it g tt tk tv vs ρ Q = (it ρ fun ρ1 ws => ws.length ≤ 100000 ∧ qDcL g tt tk tv vs (fun ρ2 ks acc => Q (mrg ρ1 ρ2 vs) (.dit ks acc)) ws (wipeD ρ1 vs) [] []) := by rw [qDc]
@[simp ↓] theorem qLenSc_e (it : TIQ) (g : TGQ) (tt : TTQ) (te : TQ) (vs : List Nat) (ρ : List D) (Q : KQ) : qLenSc it g tt te vs ρ Q = (it ρ fun ρ1 ws => ws.length ≤ 62 ∧ qScL g tt te vs (fun ρ2 acc => Q (mrg ρ1 ρ2 vs) (.int (ndiff acc : Int))) ws (wipeD ρ1 vs) []) := by rw [qLenSc]
@[simp ↓] theorem oNone_e  (ρ : List D) (Q : List D → Option Int → Prop) : oNone  ρ Q = (Q ρ none) := by rw [oNone]
/-- nothing; what stands beside it is not gone into -/
structure Dum.{u} {α : Sort u} (k : α) : Type where
def asInt (d : D) (k : Int → Prop) : Prop := match d with
  | .sh (.v (.int i)) => k i
  | _ => False
@[simp ↓] theorem asInt_e (i : Int) (k : Int → Prop) : asInt (.sh (.v (.int i))) k = k i := by rw [asInt]
def asSh (d : D) (k : W → Prop) : Prop := match d with
  | .sh w => k w
  | _ => False
@[simp ↓] theorem asSh_e (w : W) (k : W → Prop) : asSh (.sh w) k = k w := by rw [asSh]
def asLw (w : W) (k : List W → Prop) : Prop := match w with
  | .lst ws => k ws
  | _ => False
@[simp ↓] theorem asLw_e (ws : List W) (k : List W → Prop) : asLw (.lst ws) k = k ws := by rw [asLw]
def kpO (o : Option D) : D := match o with
  | some d => keepSh d
  | none => .un
def onK (o : Option (List Key)) (k : List Key → Prop) (_ : Dum k) : Prop := match o with
  | some d => k d
  | none => False
@[simp ↓] theorem onK_some (d : List Key) (k : List Key → Prop) (u : Dum k) : onK (some d) k u = k d := by rw [onK]
def onI (o : Option (List Int)) (k : List Int → Prop) (_ : Dum k) : Prop := match o with
  | some d => k d
  | none => False
@[simp ↓] theorem onI_some (d : List Int) (k : List Int → Prop) (u : Dum k) : onI (some d) k u = k d := by rw [onI]
def onB (o : Option Bool) (k : Bool → Prop) (_ : Dum k) : Prop := match o with
  | some d => k d
  | none => False
@[simp ↓] theorem onB_some (d : Bool) (k : Bool → Prop) (u : Dum k) : onB (some d) k u = k d := by rw [onB]
/-! ### looking -/
@[simp ↓] theorem lookD_sh (w : W) (k : W → Prop) : lookD (.sh w) k = k w := by rw [lookD, D.fz]
@[simp ↓] theorem lookD_lst (ws : List W) (k : W → Prop) : lookD (.lst ws) k = k (.lst ws) := by rw [lookD, D.fz]
@[simp ↓] theorem lookD_dic (ks : List Key) (ws : List W) (k : W → Prop) : lookD (.dic ks ws) k = k (.dic ks ws) := by rw [lookD, D.fz]
@[simp ↓] theorem lookD_dit (ks : List (List Key)) (ws : List W) (k : W → Prop) : lookD (.dit ks ws) k = k (.dit ks ws) := by rw [lookD, D.fz]
@[simp ↓] theorem lookD_obj (C : Addr) (fs : List Str) (ws : List W) (k : W → Prop) : lookD (.obj C fs ws) k = k (.obj C fs ws) := by rw [lookD, D.fz]
@[simp ↓] theorem lookD_set (S : Int → Bool) (n : Nat) (k : W → Prop) : lookD (.set S n) k = k (.set S n) := by rw [lookD, D.fz]
/-- what stands in a slot -/
def onS (o : Option D) (k : D → Prop) (_ : Dum k) : Prop := match o with
  | some d => k d
  | none => False
@[simp ↓] theorem onS_some (d : D) (k : D → Prop) (u : Dum k) : onS (some d) k u = k d := by rw [onS]
@[simp ↓] theorem look_r (ρ : List D) (w : W) (k : W → Prop) : look ρ (.inr w) k = k w := by rw [look]
@[simp ↓] theorem look_l (ρ : List D) (i : Nat) (k : W → Prop) : look ρ (.inl i) k = onS ρ[i]? (fun d => lookD d k) ⟨⟩ := by
  unfold look onS
  rfl
@[simp ↓] theorem lookL_nil (ρ : List D) (k : List W → Prop) : lookL ρ [] k = k [] := by rw [lookL]
@[simp ↓] theorem lookL_cons (ρ : List D) (p : PV) (ps : List PV) (k : List W → Prop) : lookL ρ (p :: ps) k = look ρ p fun w => lookL ρ ps fun ws => k (w :: ws) := by rw [lookL]
/-- a name's thing is taken as shared -/
def shr (d : D) (i : Nat) (ρ : List D) (Q : KQ) : Prop := match d with
  | .sh w => Q ρ (.sh w)
  | d => lookD d fun w => Q (ρ.set i (.sh w)) (.sh w)
@[simp ↓] theorem shr_sh (w : W) (i : Nat) (ρ : List D) (Q : KQ) : shr (.sh w) i ρ Q = Q ρ (.sh w) := by rw [shr]
@[simp ↓] theorem shr_lst (ws : List W) (i : Nat) (ρ : List D) (Q : KQ) : shr (.lst ws) i ρ Q = Q (ρ.set i (.sh (.lst ws))) (.sh (.lst ws)) := by simp only [shr, lookD_lst]
@[simp ↓] theorem shr_dic (ks : List Key) (ws : List W) (i : Nat) (ρ : List D) (Q : KQ) : shr (.dic ks ws) i ρ Q = Q (ρ.set i (.sh (.dic ks ws))) (.sh (.dic ks ws)) := by simp only [shr, lookD_dic]
@[simp ↓] theorem shr_dit (ks : List (List Key)) (ws : List W) (i : Nat) (ρ : List D) (Q : KQ) : shr (.dit ks ws) i ρ Q = Q (ρ.set i (.sh (.dit ks ws))) (.sh (.dit ks ws)) := by simp only [shr, lookD_dit]
@[simp ↓] theorem shr_obj (C : Addr) (fs : List Str) (ws : List W) (i : Nat) (ρ : List D) (Q : KQ) : shr (.obj C fs ws) i ρ Q = Q (ρ.set i (.sh (.obj C fs ws))) (.sh (.obj C fs ws)) := by simp only [shr, lookD_obj]
@[simp ↓] theorem shr_set (S : Int → Bool) (n : Nat) (i : Nat) (ρ : List D) (Q : KQ) : shr (.set S n) i ρ Q = Q (ρ.set i (.sh (.set S n))) (.sh (.set S n)) := by simp only [shr, lookD_set]
@[simp ↓] theorem qVar_e (i : Nat) (ρ : List D) (Q : KQ) : qVar i ρ Q = onS ρ[i]? (fun d => shr d i ρ Q) ⟨⟩ := by
  unfold qVar onS shr
  split <;> simp_all
/-- it is there -/
def thr (d : D) (k : Prop) : Prop := match d with
  | .un => False
  | _ => k
@[simp ↓] theorem thr_sh (w : W) (k : Prop) : thr (.sh w) k = k := by simp [thr]
@[simp ↓] theorem thr_lst (ws : List W) (k : Prop) : thr (.lst ws) k = k := by simp [thr]
@[simp ↓] theorem thr_dic (ks : List Key) (ws : List W) (k : Prop) : thr (.dic ks ws) k = k := by simp [thr]
@[simp ↓] theorem thr_dit (ks : List (List Key)) (ws : List W) (k : Prop) : thr (.dit ks ws) k = k := by simp [thr]
@[simp ↓] theorem thr_obj (C : Addr) (fs : List Str) (ws : List W) (k : Prop) : thr (.obj C fs ws) k = k := by simp [thr]
@[simp ↓] theorem thr_set (S : Int → Bool) (n : Nat) (k : Prop) : thr (.set S n) k = k := by simp [thr]
@[simp ↓] theorem thr_ntup (ds : List D) (k : Prop) : thr (.ntup ds) k = k := by simp [thr]
@[simp ↓] theorem vVar_e (i : Nat) (ρ : List D) (Q : List D → PV → Prop) : vVar i ρ Q = onS ρ[i]? (fun d => thr d (Q ρ (.inl i))) ⟨⟩ := by
  unfold vVar onS thr
  split <;> simp_all
@[simp ↓] theorem sRetV_e (i : Nat) (E : EQ) (ρ : List D) : sRetV i E ρ = onS ρ[i]? (fun d => thr d (E.rt d)) ⟨⟩ := by
  unfold sRetV onS thr
  split <;> simp_all
@[simp ↓] theorem toB_bl (Q : List D → Bool → Prop) (ρ : List D) (c : Bool) : toB Q ρ (.v (.bl c)) = Q ρ c := by rw [toB]
/-! ### operators -/
@[simp ↓] theorem oI_e (C : Int → Int → Prop) (g : Int → Int → V) (i j : Int) (k : D → Prop) : oI C g (.v (.int i)) (.v (.int j)) k = (C i j ∧ k (.sh (.v (g i j)))) := by rw [oI]
@[simp ↓] theorem oI0_e (g : Int → Int → V) (i j : Int) (k : D → Prop) : oI0 g (.v (.int i)) (.v (.int j)) k = k (.sh (.v (g i j))) := by rw [oI0]
@[simp ↓] theorem oU_e (g : Int → V) (i : Int) (k : D → Prop) : oU g (.v (.int i)) k = k (.sh (.v (g i))) := by rw [oU]
@[simp ↓] theorem oPlus_i (i j : Int) (k : D → Prop) : oPlus (.v (.int i)) (.v (.int j)) k = k (.int (i + j)) := by rw [oPlus]
@[simp ↓] theorem oPlus_l (a b : List W) (k : D → Prop) : oPlus (.lst a) (.lst b) k = (a.length + b.length ≤ 100000 ∧ k (.lst (a ++ b))) := by rw [oPlus]
@[simp ↓] theorem oPlus_t (a b : List W) (k : D → Prop) : oPlus (.tup a) (.tup b) k = (a.length + b.length ≤ 100000 ∧ k (.sh (.tup (a ++ b)))) := by rw [oPlus]
@[simp ↓] theorem oPlus_s (a b : Str) (k : D → Prop) : oPlus (.v (.str a)) (.v (.str b)) k = (a.length + b.length ≤ 100000 ∧ k (.str (a ++ b))) := by rw [oPlus]
@[simp ↓] theorem oTimes_i (i j : Int) (k : D → Prop) : oTimes (.v (.int i)) (.v (.int j)) k = (CMulW i j ∧ k (.int (i * j))) := by rw [oTimes]
@[simp ↓] theorem oTimes_l (a : List W) (j : Int) (k : D → Prop) : oTimes (.lst a) (.v (.int j)) k = ((-100000 ≤ j ∧ j ≤ 100000 ∧ a.length * j.toNat ≤ 100000) ∧ k (.lst (List.replicate j.toNat a).flatten)) := by rw [oTimes]
@[simp ↓] theorem oEq_e (neg : Bool) (x y : W) (k : D → Prop) : oEq neg x y k = ((x.ok 20 = true ∧ y.ok 20 = true) ∧ k (.bl (neg != W.eq x y))) := by rw [oEq]
@[simp ↓] theorem oEqF_e (neg : Bool) (a b : V) (k : D → Prop) : oEqF neg (.v a) (.v b) k = (scal a b = true ∧ k (.bl (neg != decide (a = b)))) := by rw [oEqF]
@[simp ↓] theorem oIn_l (neg : Bool) (x : W) (ws : List W) (k : D → Prop) : oIn neg x (.lst ws) k = ((x.ok 20 = true ∧ (W.lst ws).ok 20 = true) ∧ k (.bl (neg != ws.any fun z => W.eq z x))) := by rw [oIn]
@[simp ↓] theorem oIn_t (neg : Bool) (x : W) (ws : List W) (k : D → Prop) : oIn neg x (.tup ws) k = ((x.ok 20 = true ∧ (W.lst ws).ok 20 = true) ∧ k (.bl (neg != ws.any fun z => W.eq z x))) := by rw [oIn]
@[simp ↓] theorem oIsN_e (neg : Bool) (x : W) (k : D → Prop) : oIsN neg x (.v .non) k = k (.bl (neg != isNon x)) := by rw [oIsN]
def onW (o : Option W) (k : W → Prop) (_ : Dum k) : Prop := match o with
  | some d => k d
  | none => False
@[simp ↓] theorem onW_some (d : W) (k : W → Prop) (u : Dum k) : onW (some d) k u = k d := by rw [onW]
@[simp ↓] theorem oIx_l (ws : List W) (i : Int) (k : D → Prop) : oIx (.lst ws) (.v (.int i)) k = onW (atI ws i) (fun w => k (.sh w)) ⟨⟩ := by
  unfold oIx onW
  rfl
@[simp ↓] theorem oIx_t (ws : List W) (i : Int) (k : D → Prop) : oIx (.tup ws) (.v (.int i)) k = onW (atI ws i) (fun w => k (.sh w)) ⟨⟩ := by
  unfold oIx onW
  rfl
def onC (o : Option Nat) (k : Nat → Prop) (_ : Dum k) : Prop := match o with
  | some d => k d
  | none => False
@[simp ↓] theorem onC_some (d : Nat) (k : Nat → Prop) (u : Dum k) : onC (some d) k u = k d := by rw [onC]
/-! ### slices, fields -/
@[simp ↓] theorem oPart_e (t : TQ) (ρ : List D) (Q : List D → Option Int → Prop) : oPart t ρ Q = (t ρ fun ρ1 d => asInt d fun i => Q ρ1 (some i)) := by
  unfold oPart asInt
  rfl
def slW (w : W) (lo hi : Option Int) (ρ : List D) (Q : KQ) : Prop := match w with
  | .lst ws => Q ρ (.lst (cutW ws lo hi))
  | .tup ws => Q ρ (.sh (.tup (cutW ws lo hi)))
  | _ => False
@[simp ↓] theorem slW_l (ws : List W) (lo hi : Option Int) (ρ : List D) (Q : KQ) : slW (.lst ws) lo hi ρ Q = Q ρ (.lst (cutW ws lo hi)) := by rw [slW]
@[simp ↓] theorem slW_t (ws : List W) (lo hi : Option Int) (ρ : List D) (Q : KQ) : slW (.tup ws) lo hi ρ Q = Q ρ (.sh (.tup (cutW ws lo hi))) := by rw [slW]
@[simp ↓] theorem qSl_e (ta : TVQ) (tl th : TOQ) (ρ : List D) (Q : KQ) : qSl ta tl th ρ Q = (ta ρ fun ρ1 p => tl ρ1 fun ρ2 lo => th ρ2 fun ρ3 hi => look ρ3 p fun w => slW w lo hi ρ3 Q) := by
  unfold qSl slW
  rfl
def rvW (w : W) (ρ : List D) (Q : KQ) : Prop := match w with
  | .lst ws => Q ρ (.lst ws.reverse)
  | _ => False
@[simp ↓] theorem rvW_l (ws : List W) (ρ : List D) (Q : KQ) : rvW (.lst ws) ρ Q = Q ρ (.lst ws.reverse) := by rw [rvW]
@[simp ↓] theorem qRev_e (ta : TVQ) (ρ : List D) (Q : KQ) : qRev ta ρ Q = (ta ρ fun ρ1 p => look ρ1 p fun w => rvW w ρ1 Q) := by
  unfold qRev rvW
  rfl
def rvT (w : W) (ρ : List D) (Q : KQ) : Prop := match w with
  | .tup ws => Q ρ (.sh (.tup ws.reverse))
  | _ => False
@[simp ↓] theorem rvT_t (ws : List W) (ρ : List D) (Q : KQ) : rvT (.tup ws) ρ Q = Q ρ (.sh (.tup ws.reverse)) := by rw [rvT]
@[simp ↓] theorem qRevT_e (ta : TVQ) (ρ : List D) (Q : KQ) : qRevT ta ρ Q = (ta ρ fun ρ1 p => look ρ1 p fun w => rvT w ρ1 Q) := by
  unfold qRevT rvT
  rfl
def fldW (C : Addr) (f : Str) (w : W) (ρ : List D) (Q : KQ) : Prop := match w with
  | .obj C' fs ws => C' = C ∧ onW ((fs.zip ws).lookup f) (fun w => Q ρ (.sh w)) ⟨⟩
  | _ => False
@[simp ↓] theorem fldW_e (C C' : Addr) (f : Str) (fs : List Str) (ws : List W) (ρ : List D) (Q : KQ) : fldW C f (.obj C' fs ws) ρ Q = (C' = C ∧ onW ((fs.zip ws).lookup f) (fun w => Q ρ (.sh w)) ⟨⟩) := by rw [fldW]
@[simp ↓] theorem qFld_e (C : Addr) (f : Str) (ta : TVQ) (ρ : List D) (Q : KQ) : qFld C f ta ρ Q = (ta ρ fun ρ1 p => look ρ1 p fun w => fldW C f w ρ1 Q) := by
  unfold qFld fldW onW
  rfl
@[simp ↓] theorem isObj_e (C C' : Addr) (m : Str) (fs : List Str) (ws : List W) (k : Prop) : isObj C m (.obj C' fs ws) k = ((C' = C ∧ fs.contains m = false) ∧ k) := by rw [isObj]
/-! ### built-ins -/
@[simp ↓] theorem bLen_l (ws : List W) (k : D → Prop) : bLen [.lst ws] k = k (.int (ws.length : Int)) := by rw [bLen]
@[simp ↓] theorem bLen_t (ws : List W) (k : D → Prop) : bLen [.tup ws] k = k (.int (ws.length : Int)) := by rw [bLen]
@[simp ↓] theorem bSum_e (ws : List W) (k : D → Prop) : bSum [.lst ws] k = asI (fun ns => k (.int ns.sum)) ws := by rw [bSum]
@[simp ↓] theorem bAll_e (ws : List W) (k : D → Prop) : bAll [.lst ws] k = asB (fun ns => k (.bl (ns.all id))) ws := by rw [bAll]
@[simp ↓] theorem bAny_e (ws : List W) (k : D → Prop) : bAny [.lst ws] k = asB (fun ns => k (.bl (ns.any id))) ws := by rw [bAny]
theorem map_v_inj {α : Type} {f : α → V} (hf : ∀ x y, f x = f y → x = y) : ∀ {a b : List α}, (a.map fun x => W.v (f x)) = (b.map fun x => W.v (f x)) → a = b
  | [], [], _ => rfl
  | [], _ :: _, h => by cases h
  | _ :: _, [], h => by cases h
  | x :: a, y :: b, h => by
    rw [List.map_cons, List.map_cons] at h
    injection h with h1 h2
    injection h1 with h3
    rw [hf x y h3, map_v_inj hf h2]
@[simp ↓] theorem asI_map (k : List Int → Prop) (ns : List Int) : asI k (ns.map fun n => W.v (.int n)) = k ns := by
  refine propext ⟨fun ⟨ms, e, h⟩ => ?_, fun h => ⟨ns, rfl, h⟩⟩
  rw [map_v_inj (f := V.int) (fun x y h => by cases h; rfl) e]; exact h
@[simp ↓] theorem asB_map (k : List Bool → Prop) (ns : List Bool) : asB k (ns.map fun n => W.v (.bl n)) = k ns := by
  refine propext ⟨fun ⟨ms, e, h⟩ => ?_, fun h => ⟨ns, rfl, h⟩⟩
  rw [map_v_inj (f := V.bl) (fun x y h => by cases h; rfl) e]; exact h
@[simp ↓] theorem bMin_i (i j : Int) (k : D → Prop) : bMin [.v (.int i), .v (.int j)] k = k (.int (min i j)) := by rw [bMin]
@[simp ↓] theorem bMax_i (i j : Int) (k : D → Prop) : bMax [.v (.int i), .v (.int j)] k = k (.int (max i j)) := by rw [bMax]
@[simp ↓] theorem bMin_l (ws : List W) (k : D → Prop) : bMin [.lst ws] k = asI (fun ns => 0 < ns.length ∧ ∀ m, m ∈ ns → (∀ y, y ∈ ns → m ≤ y) → k (.int m)) ws := by rw [bMin]
@[simp ↓] theorem bMax_l (ws : List W) (k : D → Prop) : bMax [.lst ws] k = asI (fun ns => 0 < ns.length ∧ ∀ m, m ∈ ns → (∀ y, y ∈ ns → y ≤ m) → k (.int m)) ws := by rw [bMax]
@[simp ↓] theorem bTup_l (ws : List W) (k : D → Prop) : bTup [.lst ws] k = k (.sh (.tup ws)) := by rw [bTup]
@[simp ↓] theorem bTup_t (ws : List W) (k : D → Prop) : bTup [.tup ws] k = k (.sh (.tup ws)) := by rw [bTup]
@[simp ↓] theorem bList_l (ws : List W) (k : D → Prop) : bList [.lst ws] k = k (.lst ws) := by rw [bList]
@[simp ↓] theorem bList_t (ws : List W) (k : D → Prop) : bList [.tup ws] k = k (.lst ws) := by rw [bList]
@[simp ↓] theorem bAbs_e (i : Int) (k : D → Prop) : bAbs [.v (.int i)] k = k (.int (if i < 0 then -i else i)) := by rw [bAbs]
@[simp ↓] theorem bInt_i (i : Int) (k : D → Prop) : bInt [.v (.int i)] k = k (.int i) := by rw [bInt]
@[simp ↓] theorem bInt_b (b : Bool) (k : D → Prop) : bInt [.v (.bl b)] k = k (.int (if b then 1 else 0)) := by rw [bInt]
@[simp ↓] theorem bIsi_e (x : W) (T : String) (k : D → Prop) : bIsi [x, .v (.ty T)] k = ((tyW x).isSome = true ∧ tys.contains T = true ∧ k (.bl (isA x T))) := by rw [bIsi]
@[simp ↓] theorem bRepr_e (w : W) (k : D → Prop) : bRepr [w] k = (shows w ∧ k (.str w.dat.shown)) := by rw [bRepr]
/-! ### targets -/
@[simp ↓] theorem gqNil_e (ρ : List D) (Q : List D → Prop) : gqNil [] ρ Q = Q ρ := by rw [gqNil]
@[simp ↓] theorem gqCons_e (t : TGQ) (u : TGsQ) (d : D) (ds : List D) (ρ : List D) (Q : List D → Prop) : gqCons t u (d :: ds) ρ Q = t d ρ fun ρ1 => u ds ρ1 Q := by rw [gqCons]
@[simp ↓] theorem gqTup_1 (n : Nat) (t : TGsQ) (a : W) (ρ : List D) (Q : List D → Prop) : gqTup n t (.sh (.tup [a])) ρ Q = (1 = n ∧ t [.sh a] ρ Q) := by rw [gqTup]; rfl
@[simp ↓] theorem gqTup_2 (n : Nat) (t : TGsQ) (a b : W) (ρ : List D) (Q : List D → Prop) : gqTup n t (.sh (.tup [a, b])) ρ Q = (2 = n ∧ t [.sh a, .sh b] ρ Q) := by rw [gqTup]; rfl
@[simp ↓] theorem gqTup_3 (n : Nat) (t : TGsQ) (a b c : W) (ρ : List D) (Q : List D → Prop) : gqTup n t (.sh (.tup [a, b, c])) ρ Q = (3 = n ∧ t [.sh a, .sh b, .sh c] ρ Q) := by rw [gqTup]; rfl
@[simp ↓] theorem gqTup_n (n : Nat) (t : TGsQ) (ds : List D) (ρ : List D) (Q : List D → Prop) : gqTup n t (.ntup ds) ρ Q = (ds.length = n ∧ t ds ρ Q) := by rw [gqTup]
/-- an own list -/
def asL (d : D) (k : List W → Prop) : Prop := match d with
  | .lst ws => k ws
  | _ => False
@[simp ↓] theorem asL_e (ws : List W) (k : List W → Prop) : asL (.lst ws) k = k ws := by rw [asL]
theorem onS_asL {o : Option D} {k : List W → Prop} : (match o with | some (.lst ws) => k ws | _ => False) = onS o (fun d => asL d k) ⟨⟩ := by
  unfold onS asL
  cases o with
  | none => rfl
  | some d => cases d <;> rfl
theorem asInt_of {d : D} {k : Int → Prop} : (match d with | .sh (.v (.int i)) => k i | _ => False) = asInt d k := by unfold asInt; rfl
theorem sub_in {di : D} {o : Option D} {k : Int → List W → Nat → Prop} : (match di, o with
    | .sh (.v (.int i)), some (.lst ws) => (match ixN ws.length i with
      | some j => k i ws j
      | none => False)
    | _, _ => False) = asInt di fun i => onS o (fun d1 => asL d1 fun ws => onC (ixN ws.length i) (fun j => k i ws j) ⟨⟩) ⟨⟩ := by
  cases di with
  | sh w =>
    cases w with
    | v x =>
      cases x with
      | int i =>
        cases o with
        | none => rfl
        | some d1 => cases d1 <;> rfl
      | _ => rfl
    | _ => rfl
  | _ => rfl
@[simp ↓] theorem gqSub_e (s : Nat) (ti : TQ) (d : D) (ρ : List D) (Q : List D → Prop) : gqSub s ti d ρ Q = lookD d fun w => onS ρ[s]? (fun d0 => asL d0 fun _ => ti ρ fun ρ1 di => asInt di fun i => onS ρ1[s]? (fun d1 => asL d1 fun ws => onC (ixN ws.length i) (fun j => Q (ρ1.set s (.lst (ws.set j w)))) ⟨⟩) ⟨⟩) ⟨⟩ := by
  unfold gqSub
  congr 1
  funext w
  cases e : ρ[s]? with
  | none => rfl
  | some d0 =>
    cases d0 with
    | lst ws0 =>
      show ti ρ _ = ti ρ _
      congr 1
      funext ρ1 di
      exact sub_in
    | _ => rfl
@[simp ↓] theorem sAug_e (i : Nat) (t : TQ) (ω : W → W → (D → Prop) → Prop) (E : EQ) (ρ : List D) : sAug i t ω E ρ = onS ρ[i]? (fun d0 => asSh d0 fun x => t ρ fun ρ1 d => lookD d fun y => ω x y fun d => E.nx (ρ1.set i d)) ⟨⟩ := by
  unfold sAug onS asSh
  cases ρ[i]? with
  | none => rfl
  | some d => cases d <;> rfl
@[simp ↓] theorem sAugS_e (s : Nat) (ti t : TQ) (ω : W → W → (D → Prop) → Prop) (E : EQ) (ρ : List D) : sAugS s ti t ω E ρ = onS ρ[s]? (fun d0 => asL d0 fun _ => ti ρ fun ρ1 di => asInt di fun i => onS ρ1[s]? (fun d1 => asL d1 fun ws => onW ws[i.toNat]? (fun x => 0 ≤ i ∧ t ρ1 fun ρ2 d => lookD d fun y => ω x y fun d => lookD d fun z => onS ρ2[s]? (fun d2 => asL d2 fun ws => onC (ixN ws.length i) (fun j => E.nx (ρ2.set s (.lst (ws.set j z)))) ⟨⟩) ⟨⟩) ⟨⟩) ⟨⟩) ⟨⟩ := by
  unfold sAugS
  cases e : ρ[s]? with
  | none => rfl
  | some d0 =>
    cases d0 with
    | lst ws0 =>
      show ti ρ _ = ti ρ _
      congr 1
      funext ρ1 di
      cases di with
      | sh w =>
        cases w with
        | v x =>
          cases x with
          | int i =>
            cases e1 : ρ1[s]? with
            | none => rfl
            | some d1 =>
              cases d1 with
              | lst ws =>
                show (match ws[i.toNat]? with | some x => _ | none => False) = onW ws[i.toNat]? _ ⟨⟩
                cases ws[i.toNat]? with
                | none => rfl
                | some x =>
                  show (0 ≤ i ∧ t ρ1 _) = (0 ≤ i ∧ t ρ1 _)
                  congr 2
                  funext ρ2 d
                  congr 1
                  funext y
                  congr 1
                  funext d
                  congr 1
                  funext z
                  cases ρ2[s]? with
                  | none => rfl
                  | some d2 =>
                    cases d2 with
                    | lst ws => 
                      show (match ixN ws.length i with | some j => _ | none => False) = onC (ixN ws.length i) _ ⟨⟩
                      cases ixN ws.length i <;> rfl
                    | _ => rfl
              | _ => rfl
          | _ => rfl
        | _ => rfl
      | _ => rfl
    | _ => rfl
@[simp ↓] theorem qAppend_e (s : Nat) (t : TQ) (ρ : List D) (Q : KQ) : qAppend s t ρ Q = onS ρ[s]? (fun d0 => asL d0 fun _ => t ρ fun ρ1 d => lookD d fun w => onS ρ1[s]? (fun d1 => asL d1 fun ws => ws.length < 100000 ∧ Q (ρ1.set s (.lst (ws ++ [w]))) .non) ⟨⟩) ⟨⟩ := by
  unfold qAppend
  cases e : ρ[s]? with
  | none => rfl
  | some d0 =>
    cases d0 with
    | lst ws0 =>
      show t ρ _ = t ρ _
      congr 1
      funext ρ1 d
      congr 1
      funext w
      cases ρ1[s]? with
      | none => rfl
      | some d1 => cases d1 <;> rfl
    | _ => rfl
@[simp ↓] theorem qExtend_e (s : Nat) (t : TVQ) (ρ : List D) (Q : KQ) : qExtend s t ρ Q = onS ρ[s]? (fun d0 => asL d0 fun _ => t ρ fun ρ1 p => look ρ1 p fun w => asLw w fun xs => onS ρ1[s]? (fun d1 => asL d1 fun ws => ws.length + xs.length ≤ 100000 ∧ Q (ρ1.set s (.lst (ws ++ xs))) .non) ⟨⟩) ⟨⟩ := by
  unfold qExtend
  cases e : ρ[s]? with
  | none => rfl
  | some d0 =>
    cases d0 with
    | lst ws0 =>
      show t ρ _ = t ρ _
      congr 1
      funext ρ1 p
      congr 1
      funext w
      cases w with
      | lst xs =>
        cases ρ1[s]? with
        | none => rfl
        | some d1 => cases d1 <;> rfl
      | _ => rfl
    | _ => rfl
/-! ### what is walked -/
def seqS (w : W) (ρ : List D) (Q : List D → List W → Prop) : Prop := match w with
  | .lst ws => Q ρ ws
  | .tup ws => Q ρ ws
  | .v (.str z) => Q ρ (strW z)
  | _ => False
@[simp ↓] theorem seqS_l (ws : List W) (ρ : List D) (Q : List D → List W → Prop) : seqS (.lst ws) ρ Q = Q ρ ws := by rw [seqS]
@[simp ↓] theorem seqS_t (ws : List W) (ρ : List D) (Q : List D → List W → Prop) : seqS (.tup ws) ρ Q = Q ρ ws := by rw [seqS]
@[simp ↓] theorem seqS_s (z : Str) (ρ : List D) (Q : List D → List W → Prop) : seqS (.v (.str z)) ρ Q = Q ρ (strW z) := by rw [seqS]
@[simp ↓] theorem iqSeq_e (t : TQ) (ρ : List D) (Q : List D → List W → Prop) : iqSeq t ρ Q = (t ρ fun ρ1 d => lookD d fun w => seqS w ρ1 Q) := by
  unfold iqSeq seqS
  rfl
@[simp ↓] theorem seqW_l (ws : List W) (k : List W → Prop) : seqW (.lst ws) k = k ws := by rw [seqW]
@[simp ↓] theorem seqW_t (ws : List W) (k : List W → Prop) : seqW (.tup ws) k = k ws := by rw [seqW]
def twoW (ws : List W) (k : W → W → Prop) : Prop := match ws with
  | [x, y] => k x y
  | _ => False
@[simp ↓] theorem twoW_e (x y : W) (k : W → W → Prop) : twoW [x, y] k = k x y := by rw [twoW]
def oneW (ws : List W) (k : W → Prop) : Prop := match ws with
  | [x] => k x
  | _ => False
@[simp ↓] theorem oneW_e (x : W) (k : W → Prop) : oneW [x] k = k x := by rw [oneW]
@[simp ↓] theorem iqZip_e (t : TAQ) (ρ : List D) (Q : List D → List W → Prop) : iqZip t ρ Q = (t ρ fun ρ1 ws => twoW ws fun x y => seqW x fun xs => seqW y fun ys => Q ρ1 (pairW xs ys)) := by
  unfold iqZip twoW
  rfl
@[simp ↓] theorem iqEnum_e (t : TAQ) (ρ : List D) (Q : List D → List W → Prop) : iqEnum t ρ Q = (t ρ fun ρ1 ws => oneW ws fun x => asLw x fun xs => Q ρ1 (pairW (numW xs.length) xs)) := by
  unfold iqEnum
  congr 1
  funext ρ1 ws
  match ws with
  | [] => rfl
  | [x] => cases x <;> rfl
  | x :: y :: ws => cases x <;> rfl
@[simp ↓] theorem iqRev_e (t : TAQ) (ρ : List D) (Q : List D → List W → Prop) : iqRev t ρ Q = (t ρ fun ρ1 ws => oneW ws fun x => asLw x fun xs => Q ρ1 xs.reverse) := by
  unfold iqRev
  congr 1
  funext ρ1 ws
  match ws with
  | [] => rfl
  | [x] => cases x <;> rfl
  | x :: y :: ws => cases x <;> rfl
def asIw (w : W) (k : Int → Prop) : Prop := match w with
  | .v (.int i) => k i
  | _ => False
@[simp ↓] theorem asIw_e (i : Int) (k : Int → Prop) : asIw (.v (.int i)) k = k i := by rw [asIw]
@[simp ↓] theorem iqRng1_e (t : TVAQ) (ρ : List D) (Q : List D → List W → Prop) : iqRng1 t ρ Q = (t ρ fun ρ1 ps => lookL ρ1 ps fun ws => oneW ws fun x => asIw x fun j => (-100000 ≤ j ∧ j ≤ 100000) ∧ Q ρ1 (rngW 0 j.toNat)) := by
  unfold iqRng1
  congr 1
  funext ρ1 ps
  congr 1
  funext ws
  match ws with
  | [] => rfl
  | [x] =>
    cases x with
    | v x => cases x <;> rfl
    | _ => rfl
  | x :: y :: ws =>
    cases x with
    | v x => cases x <;> rfl
    | _ => rfl
@[simp ↓] theorem iqRng2_e (t : TVAQ) (ρ : List D) (Q : List D → List W → Prop) : iqRng2 t ρ Q = (t ρ fun ρ1 ps => lookL ρ1 ps fun ws => twoW ws fun x y => asIw x fun i => asIw y fun j => (-100000 ≤ i ∧ i ≤ 100000 ∧ -100000 ≤ j ∧ j ≤ 100000) ∧ Q ρ1 (rngW i (j - i).toNat)) := by
  unfold iqRng2
  congr 1
  funext ρ1 ps
  congr 1
  funext ws
  match ws with
  | [] => rfl
  | [x] =>
    cases x with
    | v x => cases x <;> rfl
    | _ => rfl
  | [x, y] =>
    cases x with
    | v x =>
      cases x with
      | int i =>
        cases y with
        | v y => cases y <;> rfl
        | _ => rfl
      | _ => rfl
    | _ => rfl
  | x :: y :: z :: ws =>
    cases x with
    | v x =>
      cases x with
      | int i =>
        cases y with
        | v y => cases y <;> rfl
        | _ => rfl
      | _ => rfl
    | _ => rfl
@[simp ↓] theorem qLoop_nil (g : TGQ) (b : TSQ) (E : EQ) (ρ : List D) : qLoop g b E [] ρ = E.nx ρ := by rw [qLoop]
@[simp ↓] theorem qLoop_cons (g : TGQ) (b : TSQ) (E : EQ) (w : W) (ws : List W) (ρ : List D) : qLoop g b E (w :: ws) ρ = g (.sh w) ρ fun ρ1 => b { nx := qLoop g b E ws, ct := qLoop g b E ws, bk := E.nx, rt := E.rt } ρ1 := by rw [qLoop]
@[simp ↓] theorem qLcL_nil (g : TGQ) (tt : TTQ) (te : TQ) (vs : List Nat) (k : List D → List W → Prop) (ρ : List D) (acc : List W) : qLcL g tt te vs k [] ρ acc = k ρ acc := by rw [qLcL]
@[simp ↓] theorem qLcL_cons (g : TGQ) (tt : TTQ) (te : TQ) (vs : List Nat) (k : List D → List W → Prop) (w : W) (ws : List W) (ρ : List D) (acc : List W) : qLcL g tt te vs k (w :: ws) ρ acc = g (.sh w) ρ fun ρ1 => tt ρ1 fun ρ2 b => if b = true then te ρ2 fun ρ3 d => lookD d fun w => qLcL g tt te vs k ws (wipeD ρ3 vs) (acc ++ [w]) else qLcL g tt te vs k ws (wipeD ρ2 vs) acc := by rw [qLcL]
@[simp] theorem wipeD_nil (ρ : List D) : wipeD ρ [] = ρ := by rw [wipeD]
@[simp] theorem wipeD_cons (ρ : List D) (v : Nat) (vs : List Nat) : wipeD ρ (v :: vs) = (wipeD ρ vs).set v .un := by rw [wipeD]
@[simp] theorem mrg_nil (ρ ρ' : List D) : mrg ρ ρ' [] = ρ' := by rw [mrg]
@[simp] theorem mrg_cons (ρ ρ' : List D) (v : Nat) (vs : List Nat) : mrg ρ ρ' (v :: vs) = (mrg ρ ρ' vs).set v (kpO ρ[v]?) := by
  rw [mrg]
  unfold kpO
  rfl
@[simp] theorem kpO_sh (w : W) : kpO (some (.sh w)) = .sh w := by rw [kpO, keepSh]
@[simp] theorem kpO_un : kpO (some .un) = .un := by rw [kpO, keepSh]; exact fun w h => nomatch h
@[simp] theorem kpO_lst (w : List W) : kpO (some (.lst w)) = .un := by rw [kpO, keepSh]; exact fun w h => nomatch h
@[simp] theorem kpO_none : kpO none = .un := by rw [kpO]
/-! ### dicts, objects -/
def endO (d : D) (C : Addr) (Q : List Str → List W → Prop) : Prop := match d with
  | .mobj C' fs zs => C' = C ∧ Q fs zs
  | _ => False
@[simp ↓] theorem endO_e (C C' : Addr) (fs : List Str) (zs : List W) (Q : List Str → List W → Prop) : endO (.mobj C' fs zs) C Q = (C' = C ∧ Q fs zs) := by rw [endO]
@[simp ↓] theorem endI_e (C : Addr) (Q : List Str → List W → Prop) (ρ : List D) : endI C Q ρ = onS ρ[0]? (fun d => endO d C Q) ⟨⟩ := by
  unfold endI onS endO
  cases (ρ[0]? : Option D) with
  | none => rfl
  | some d => cases d <;> rfl
def fldO (d : D) (C : Addr) (s : Nat) (f : Str) (w : W) (ρ : List D) (Q : List D → Prop) : Prop := match d with
  | .mobj C' fs zs => (C' = C ∧ fs.contains f = false ∧ fs.length < 100) ∧ Q (ρ.set s (.mobj C (fs ++ [f]) (zs ++ [w])))
  | _ => False
@[simp ↓] theorem fldO_e (C C' : Addr) (fs : List Str) (zs : List W) (s : Nat) (f : Str) (w : W) (ρ : List D) (Q : List D → Prop) : fldO (.mobj C' fs zs) C s f w ρ Q = ((C' = C ∧ fs.contains f = false ∧ fs.length < 100) ∧ Q (ρ.set s (.mobj C (fs ++ [f]) (zs ++ [w])))) := by rw [fldO]
@[simp ↓] theorem sFldQ_e (C : Addr) (s : Nat) (f : Str) (t : TQ) (E : EQ) (ρ : List D) : sFldQ C s f t E ρ = (t ρ fun ρ1 d => lookD d fun w => onS ρ1[s]? (fun d0 => fldO d0 C s f w ρ1 E.nx) ⟨⟩) := by
  unfold sFldQ
  congr 1
  funext ρ1 d
  congr 1
  funext w
  unfold onS fldO
  cases ρ1[s]? with
  | none => rfl
  | some d => cases d <;> rfl
@[simp ↓] theorem getW_t (ks : List (List Key)) (ws us : List W) (Q : Option W → Prop) : getW (.dit ks ws) (.tup us) Q = onK (keysW us) (fun key => ws.length = ks.length ∧ Q (dval ks ws key)) ⟨⟩ := by
  unfold getW onK
  rfl
@[simp] theorem keysW_nil : keysW [] = some [] := by rw [keysW]
@[simp] theorem keysW_i (i : Int) (ws : List W) : keysW (.v (.int i) :: ws) = (keysW ws).map fun ks => .inl i :: ks := by rw [keysW, keyW]; rfl
@[simp] theorem isDic_dit (ks : List (List Key)) (ws : List W) : isDic (.dit ks ws) = true := by rw [isDic]
@[simp] theorem isDic_dic (ks : List Key) (ws : List W) : isDic (.dic ks ws) = true := by rw [isDic]
def optD (o : Option W) : D := match o with
  | some w => .sh w
  | none => .non
@[simp ↓] theorem qDGet1_e (td : TVQ) (tk : TQ) (ρ : List D) (Q : KQ) : qDGet1 td tk ρ Q = (td ρ fun ρ1 p => look ρ1 p fun d0 => isDic d0 = true ∧ tk ρ1 fun ρ2 dk => lookD dk fun k => look ρ2 p fun d => getW d k fun o => Q ρ2 (optD o)) := by
  unfold qDGet1 optD
  rfl
@[simp ↓] theorem qDcL_nil (g : TGQ) (tt : TTQ) (tk tv : TQ) (vs : List Nat) (k : List D → List (List Key) → List W → Prop) (ρ : List D) (ks : List (List Key)) (acc : List W) : qDcL g tt tk tv vs k [] ρ ks acc = k ρ ks acc := by rw [qDcL]
def keyO (wk : W) (k : List Key → Prop) : Prop := match wk with
  | .tup us => onK (keysW us) k ⟨⟩
  | _ => False
@[simp ↓] theorem keyO_t (us : List W) (k : List Key → Prop) : keyO (.tup us) k = onK (keysW us) k ⟨⟩ := by rw [keyO]
@[simp ↓] theorem qDcL_cons (g : TGQ) (tt : TTQ) (tk tv : TQ) (vs : List Nat) (k : List D → List (List Key) → List W → Prop) (w : W) (ws : List W) (ρ : List D) (ks : List (List Key)) (acc : List W) : qDcL g tt tk tv vs k (w :: ws) ρ ks acc = g (.sh w) ρ fun ρ1 => tt ρ1 fun ρ2 b => if b = true then tk ρ2 fun ρ3 dk => lookD dk fun wk => tv ρ3 fun ρ4 d => lookD d fun w => keyO wk fun key => qDcL g tt tk tv vs k ws (wipeD ρ4 vs) (dput ks acc key w).1 (dput ks acc key w).2 else qDcL g tt tk tv vs k ws (wipeD ρ2 vs) ks acc := by
  rw [qDcL]
  unfold keyO onK
  rfl
@[simp ↓] theorem qScL_nil (g : TGQ) (tt : TTQ) (te : TQ) (vs : List Nat) (k : List D → List (List Int) → Prop) (ρ : List D) (acc : List (List Int)) : qScL g tt te vs k [] ρ acc = k ρ acc := by rw [qScL]
def intO (wk : W) (k : List Int → Prop) : Prop := match wk with
  | .tup us => onI (intsW us) k ⟨⟩
  | _ => False
@[simp ↓] theorem intO_t (us : List W) (k : List Int → Prop) : intO (.tup us) k = onI (intsW us) k ⟨⟩ := by rw [intO]
@[simp ↓] theorem qScL_cons (g : TGQ) (tt : TTQ) (te : TQ) (vs : List Nat) (k : List D → List (List Int) → Prop) (w : W) (ws : List W) (ρ : List D) (acc : List (List Int)) : qScL g tt te vs k (w :: ws) ρ acc = g (.sh w) ρ fun ρ1 => tt ρ1 fun ρ2 b => if b = true then te ρ2 fun ρ3 d => lookD d fun w => intO w fun key => qScL g tt te vs k ws (wipeD ρ3 vs) (acc ++ [key]) else qScL g tt te vs k ws (wipeD ρ2 vs) acc := by
  rw [qScL]
  unfold intO onI
  rfl
@[simp] theorem intsW_nil : intsW [] = some [] := by rw [intsW]
@[simp] theorem intsW_i (i : Int) (ws : List W) : intsW (.v (.int i) :: ws) = (intsW ws).map fun is => i :: is := by rw [intsW]
def objO (w : W) (k : Addr → List Str → List W → Prop) : Prop := match w with
  | .obj C fs us => k C fs us
  | _ => False
@[simp ↓] theorem objO_e (C : Addr) (fs : List Str) (us : List W) (k : Addr → List Str → List W → Prop) : objO (.obj C fs us) k = k C fs us := by rw [objO]
@[simp ↓] theorem qLenO_e (C : Addr) (f : PF) (t : TAQ) (ρ : List D) (Q : KQ) : qLenO C f t ρ Q = (t ρ fun ρ1 ws => oneW ws fun w => objO w fun C' fs us => C' = C ∧ f [.obj C' fs us] fun d => asInt d fun n => (0 ≤ n ∧ n < 2 ^ 63) ∧ Q ρ1 (.int n)) := by
  unfold qLenO
  congr 1
  funext ρ1 ws
  match ws with
  | [] => rfl
  | [x] => cases x <;> rfl
  | x :: y :: ws => cases x <;> rfl
/-! ### truth -/
@[simp] theorem truW_int (i : Int) : truW (.v (.int i)) = some (i != 0) := by rw [truW]
@[simp] theorem truW_bl (i : Bool) : truW (.v (.bl i)) = some i := by rw [truW]
@[simp] theorem truW_non : truW (.v .non) = some false := by rw [truW]
@[simp] theorem truW_lst (i : List W) : truW (.lst i) = some (!i.isEmpty) := by rw [truW]
@[simp] theorem truW_tup (i : List W) : truW (.tup i) = some (!i.isEmpty) := by rw [truW]
@[simp ↓] theorem qTru_e (t : TVQ) (ρ : List D) (Q : List D → Bool → Prop) : qTru t ρ Q = (t ρ fun ρ1 p => look ρ1 p fun w => onB (truW w) (fun k => Q ρ1 k) ⟨⟩) := by
  unfold qTru onB
  rfl
@[simp ↓] theorem qOrT_e (ta tb : TQ) (ρ : List D) (Q : KQ) : qOrT ta tb ρ Q = (ta ρ fun ρ1 d => lookD d fun w => onB (truW w) (fun k => if k = true then Q ρ1 d else tb ρ1 Q) ⟨⟩) := by
  unfold qOrT onB
  congr 1
  funext ρ1 d
  congr 1
  funext w
  cases truW w with
  | none => rfl
  | some k => cases k <;> simp
@[simp ↓] theorem f_take_e (m : Int) (Q : D → Prop) : f_take [.bag, .v (.int m)] Q = ((0 < m ∧ m < 2 ^ 200) ∧ ∀ v : Int, 0 ≤ v → v < m → Q (.int v)) := by rw [f_take]
/-! ### kinds -/
@[simp] theorem tyW_int (i : Int) : tyW (.v (.int i)) = some "int" := by rw [tyW]
@[simp] theorem tyW_bl (i : Bool) : tyW (.v (.bl i)) = some "bool" := by rw [tyW]
@[simp] theorem tyW_str (i : Str) : tyW (.v (.str i)) = some "str" := by rw [tyW]
@[simp] theorem tyW_non : tyW (.v .non) = some "NoneType" := by rw [tyW]
@[simp] theorem tyW_lst (i : List W) : tyW (.lst i) = some "list" := by rw [tyW]
@[simp] theorem tyW_tup (i : List W) : tyW (.tup i) = some "tuple" := by rw [tyW]
@[simp] theorem tyW_dic (ks : List Key) (i : List W) : tyW (.dic ks i) = some "dict" := by rw [tyW]
@[simp] theorem tyW_dit (ks : List (List Key)) (i : List W) : tyW (.dit ks i) = some "dict" := by rw [tyW]
@[simp] theorem tyW_set (S : Int → Bool) (n : Nat) : tyW (.set S n) = some "set" := by rw [tyW]
@[simp] theorem tys_int : "int" ∈ tys := by decide
@[simp] theorem tys_bool : "bool" ∈ tys := by decide
@[simp] theorem tys_str : "str" ∈ tys := by decide
@[simp] theorem tys_list : "list" ∈ tys := by decide
@[simp] theorem tys_tuple : "tuple" ∈ tys := by decide
@[simp] theorem tys_dict : "dict" ∈ tys := by decide
@[simp] theorem vok_int (i : Int) : vOk (.int i) = true := rfl
@[simp] theorem vok_bl (i : Bool) : vOk (.bl i) = true := rfl
@[simp] theorem vok_non : vOk .non = true := rfl
@[simp] theorem tyW_byt (i : Array UInt8) : tyW (.v (.byt i)) = none := by simp [tyW]
@[simp] theorem tyW_flt (i : UInt64) : tyW (.v (.flt i)) = none := by simp [tyW]
@[simp] theorem tyW_ref (i : Addr) : tyW (.v (.ref i)) = none := by simp [tyW]
@[simp] theorem tyW_ty (i : String) : tyW (.v (.ty i)) = none := by simp [tyW]
@[simp] theorem tyW_obj (C : Addr) (fs : List Str) (ws : List W) : tyW (.obj C fs ws) = none := by simp [tyW]
@[simp] theorem tyW_bag : tyW .bag = none := by simp [tyW]
/-! ### own classes -/
@[simp ↓] theorem isIns_e (C C' : Addr) (fs : List Str) (ws : List W) (k : Prop) : isIns C (.obj C' fs ws) k = (C' = C ∧ k) := by rw [isIns]
@[simp ↓] theorem asBo_e (r : Bool) (k : Bool → Prop) : asBo (.sh (.v (.bl r))) k = k r := by rw [asBo]
@[simp ↓] theorem qCmpO_e (neg : Bool) (C : Addr) (f : PF) (ta tb : TQ) (ρ : List D) (Q : KQ) : qCmpO neg C f ta tb ρ Q = (ta ρ fun ρ1 d => lookD d fun w => tb ρ1 fun ρ2 d2 => lookD d2 fun u => isIns C w (isIns C u (f [w, u] fun d => asBo d fun r => Q ρ2 (.bl (neg != r))))) := by rw [qCmpO]
@[simp ↓] theorem bIsC_obj (C C' C1 : Addr) (fs : List Str) (ws : List W) (k : D → Prop) : bIsC C [.obj C1 fs ws, .v (.ref C')] k = (C' = C ∧ C1 = C ∧ k (.bl true)) := by rw [bIsC]
@[simp] theorem scal_str (a b : Str) : scal (.str a) (.str b) = true := rfl
@[simp] theorem scal_int (a b : Int) : scal (.int a) (.int b) = true := rfl
@[simp ↓] theorem flatD_e (x : V) (k : D → Prop) : flatD (.sh (.v x)) k = k (.sh (.v x)) := by rw [flatD]
@[simp ↓] theorem bF_e (n : Nat) (f : PF) (ws : List W) (k : D → Prop) : bF n f ws k = (ws.length = n ∧ f ws fun d => flatD d k) := by rw [bF]
/-! ### errors -/
@[simp ↓] theorem sRaise_e (k : Ek) (t : TAQ) (X : XQ) (E : EQ) (ρ : List D) : sRaise k t X E ρ = (t ρ fun ρ1 ws => ws.length = k.flds.length ∧ X ρ1 ⟨k, ws⟩) := by rw [sRaise]
@[simp ↓] theorem sRaise0_e (k : Ek) (X : XQ) (E : EQ) (ρ : List D) : sRaise0 k X E ρ = (k.flds = [] ∧ X ρ ⟨k, []⟩) := by rw [sRaise0]
@[simp ↓] theorem qCallX_e (f : PFX) (n : Nat) (t : TAQ) (X : XQ) (ρ : List D) (Q : KQ) : qCallX f n t X ρ Q = (t ρ fun ρ1 ws => f ws (fun d => Q ρ1 d) fun x => X ρ1 x) := by rw [qCallX]
@[simp ↓] theorem noX_e (f : PFX) (ws : List W) (Q : D → Prop) : noX f ws Q = f ws Q fun _ => False := by rw [noX]
@[simp ↓] theorem runX_e (τ : XQ → TSQ) (m : Nat) (ws : List W) (Q : D → Prop) (Ex : XW → Prop) : runX τ m ws Q Ex = (τ (fun _ x => Ex x) { nx := fun _ => Q .non, rt := Q } (ws.map D.sh ++ List.replicate m .un)) := by rw [runX]
@[simp ↓] theorem sTryAs_e (kc : Ek) (ks : List Ek) (i : Nat) (b : XQ → TSQ) (h : Addr → XW → TSQ) (X : XQ) (E : EQ) (ρ : List D) : sTryAs kc ks i b h X E ρ = (b (fun ρ' x => x.k ∈ ks ∧ if x.k.sub kc = true then ∀ a, h a x { nx := fun ρ => E.nx (ρ.set i .un), rt := E.rt, bk := fun ρ => E.bk (ρ.set i .un), ct := fun ρ => E.ct (ρ.set i .un) } (ρ'.set i (.sh (.v (.ref a)))) else X ρ' x) E ρ) := by rw [sTryAs]
@[simp ↓] theorem sTryO_e (kc : Ek) (ks : List Ek) (b : XQ → TSQ) (h : Addr → XW → TSQ) (X : XQ) (E : EQ) (ρ : List D) : sTryO kc ks b h X E ρ = (b (fun ρ' x => x.k ∈ ks ∧ if x.k.sub kc = true then ∀ a, h a x E ρ' else X ρ' x) E ρ) := by rw [sTryO]
@[simp ↓] theorem noXQ_e (ρ : List D) (x : XW) : noXQ ρ x = False := by rw [noXQ]
@[simp ↓] theorem isXd_e (a a' : Addr) (k : Prop) : isXd a (.sh (.v (.ref a'))) k = (a' = a ∧ k) := by rw [isXd]
@[simp ↓] theorem qXf_e (ks : List Ek) (a : Addr) (x : XW) (f : Str) (t : TQ) (ρ : List D) (Q : KQ) : qXf ks a x f t ρ Q = (t ρ fun ρ1 d => isXd a d (x.k ∈ ks ∧ onW (x.fld f) (fun w => Q ρ1 (.sh w)) ⟨⟩)) := by
  unfold qXf onW
  rfl
@[simp ↓] theorem qXis_e (ks : List Ek) (a : Addr) (x : XW) (k' : Ek) (t : TQ) (ρ : List D) (Q : KQ) : qXis ks a x k' t ρ Q = (t ρ fun ρ1 d => isXd a d (x.k ∈ ks ∧ Q ρ1 (.bl (x.k.sub k')))) := by rw [qXis]
@[simp ↓] theorem qXve_e (ks : List Ek) (a : Addr) (x : XW) (t : TQ) (ρ : List D) (Q : KQ) : qXve ks a x t ρ Q = (t ρ fun ρ1 d => isXd a d (x.k ∈ ks ∧ Q ρ1 (.bl true))) := by rw [qXve]
@[simp ↓] theorem qXin_e (ks : List Ek) (a : Addr) (x : XW) (l : List Ek) (t : TQ) (ρ : List D) (Q : KQ) : qXin ks a x l t ρ Q = (t ρ fun ρ1 d => isXd a d ((x.k ∈ ks ∧ l.length ≤ 100) ∧ Q ρ1 (.bl (l.any fun k => x.k.sub k)))) := by rw [qXin]
/-! ### a new tuple of own things -/
@[simp ↓] theorem nNil_e (ρ : List D) (Q : List D → List D → Prop) : nNil ρ Q = Q ρ [] := by rw [nNil]
@[simp ↓] theorem nCons_e (a : TQ) (t : TDQ) (ρ : List D) (Q : List D → List D → Prop) : nCons a t ρ Q = (a ρ fun ρ1 d => t ρ1 fun ρ2 ds => Q ρ2 (d :: ds)) := by rw [nCons]
@[simp ↓] theorem qNTup_e (t : TDQ) (ρ : List D) (Q : KQ) : qNTup t ρ Q = (t ρ fun ρ1 ds => Q ρ1 (.ntup ds)) := by rw [qNTup]
@[simp ↓] theorem qMove_e (i : Nat) (ρ : List D) (Q : KQ) : qMove i ρ Q = onS ρ[i]? (fun d => thr d (Q (ρ.set i .un) d)) ⟨⟩ := by
  unfold qMove onS thr
  split <;> simp_all
/-! ### sorted, insert, reverse, clear -/
def onLw (o : Option (List W)) (k : List W → Prop) (_ : Dum k) : Prop := match o with
  | some d => k d
  | none => False
@[simp ↓] theorem onLw_some (d : List W) (k : List W → Prop) (u : Dum k) : onLw (some d) k u = k d := by rw [onLw]
@[simp ↓] theorem bSorted_l (ws : List W) (k : D → Prop) : bSorted [.lst ws] k = onLw (sortW ws) (fun ys => k (.lst ys)) ⟨⟩ := by
  unfold bSorted onLw
  rfl
@[simp ↓] theorem bSorted_d (ks : List Key) (ws : List W) (k : D → Prop) : bSorted [.dic ks ws] k = onI (keyIs ks) (fun is => is.length < 64 ∧ k (.lst ((isort is).map fun i => W.v (.int i)))) ⟨⟩ := by
  unfold bSorted onI
  rfl
@[simp ↓] theorem insK_e (i : Int) (w : W) (s : Nat) (ρ : List D) (Q : KQ) : insK (.v (.int i)) w s ρ Q = onS ρ[s]? (fun d => asL d fun ws => (ws.length < 100000 ∧ 0 ≤ i ∧ i < 2 ^ 63) ∧ Q (ρ.set s (.lst (insW ws i.toNat w))) .non) ⟨⟩ := by
  unfold insK onS asL
  cases ρ[s]? with
  | none => rfl
  | some d => cases d <;> rfl
@[simp ↓] theorem qInsert_e (s : Nat) (ti t : TQ) (ρ : List D) (Q : KQ) : qInsert s ti t ρ Q = onS ρ[s]? (fun d => asL d fun _ => ti ρ fun ρ0 di => lookD di fun wi => t ρ0 fun ρ1 d => lookD d fun w => insK wi w s ρ1 Q) ⟨⟩ := by
  unfold qInsert onS asL
  cases ρ[s]? with
  | none => rfl
  | some d => cases d <;> rfl
@[simp ↓] theorem qReverse_e (s : Nat) (ρ : List D) (Q : KQ) : qReverse s ρ Q = onS ρ[s]? (fun d => asL d fun ws => Q (ρ.set s (.lst ws.reverse)) .non) ⟨⟩ := by
  unfold qReverse onS asL
  cases ρ[s]? with
  | none => rfl
  | some d => cases d <;> rfl
@[simp ↓] theorem qClear_e (s : Nat) (ρ : List D) (Q : KQ) : qClear s ρ Q = onS ρ[s]? (fun d => asL d fun ws => Q (ρ.set s (.lst [])) .non) ⟨⟩ := by
  unfold qClear onS asL
  cases ρ[s]? with
  | none => rfl
  | some d => cases d <;> rfl
@[simp ↓] theorem bMin3_e (a b c : Int) (k : D → Prop) : bMin3 [.v (.int a), .v (.int b), .v (.int c)] k = k (.int (min (min a b) c)) := by rw [bMin3]
@[simp ↓] theorem bMax3_e (a b c : Int) (k : D → Prop) : bMax3 [.v (.int a), .v (.int b), .v (.int c)] k = k (.int (max (max a b) c)) := by rw [bMax3]
end R

/-! ## R24: comprehensions of two clauses; a comprehension within another -/
namespace R
open PySem PySem.Spec PyProof.Rows L2 G
/-- the names of a block that has no free ones -/
theorem blkOk_in {N : List PySem.Str} {sc scope : Scope} {own : List (PySem.Str × Nat)} (h : blkC N { kind := .function, names := [], isGenerator := false, isCoroutine := false } scope own = true) : BlkOk N sc scope own := by
  have q := blkOk_by h
  refine ⟨q.kind, q.uniq, q.ix, fun y hy e => ?_, q.own⟩
  rcases q.free y hy e with z | z <;> cases z
section
variable {X : L2.Cx} {elt tg iter tg1 iter1 : Expr} {ifs ifs1 : List Expr} {scope : Scope} {own : List (PySem.Str × Nat)} {pos : Pos} {wi wi1 : TI} {g g1 : TG} {tt tt1 : TT} {te : TE} {vs vs1 : List Nat}
theorem klc2 (hN : X.N.Nodup) (hi : PI X tg iter wi) (ok : BlkOk X.N X.env.scope scope own)
    (hg : ∀ (s : Shared) (H : Hp) (C : Addr) (cl : List (PySem.Str × Addr)) (fp : List Addr), PG (X.blk s H scope (compEnvC scope cl C X.env) fp) tg g) (ht : ∀ (s : Shared) (H : Hp) (C : Addr) (cl : List (PySem.Str × Addr)) (fp : List Addr), PTs (X.blk s H scope (compEnvC scope cl C X.env) fp) ifs tt)
    (hi1 : ∀ (s : Shared) (H : Hp) (C : Addr) (cl : List (PySem.Str × Addr)) (fp : List Addr), PI (X.blk s H scope (compEnvC scope cl C X.env) fp) tg1 iter1 wi1)
    (hg1 : ∀ (s : Shared) (H : Hp) (C : Addr) (cl : List (PySem.Str × Addr)) (fp : List Addr), PG (X.blk s H scope (compEnvC scope cl C X.env) fp) tg1 g1) (ht1 : ∀ (s : Shared) (H : Hp) (C : Addr) (cl : List (PySem.Str × Addr)) (fp : List Addr), PTs (X.blk s H scope (compEnvC scope cl C X.env) fp) ifs1 tt1)
    (he : ∀ (s : Shared) (H : Hp) (C : Addr) (cl : List (PySem.Str × Addr)) (fp : List Addr), PE (X.blk s H scope (compEnvC scope cl C X.env) fp) elt te) (hv : own.map (·.2) = vs := by rfl) (hv1 : ∀ i ∈ vs1, i ∈ own.map (·.2) := by decide) (hc : X.calm = true := by rfl) (hs : ∀ x, foldedSetIterable iter X.env x = pure x := by intro _; rfl) (hs1 : ∀ env x, foldedSetIterable iter1 env x = pure x := by intro _ _; rfl) :
    PE X (.ListComp elt [⟨tg, iter, ifs, 0⟩, ⟨tg1, iter1, ifs1, 0⟩] scope pos) (tLc2 wi g tt wi1 g1 tt1 te vs vs1) := by
  subst hv
  exact pe_lc2 hc hN hi ok hv1 hg ht hi1 hg1 ht1 he hs hs1
end
/-- the second clause's loop -/
def qLcB (g : TGQ) (tt : TTQ) (te : TQ) (vs : List Nat) (k : List D → List W → Prop) : List W → List D → List W → Prop
  | [], ρ, acc => k ρ acc
  | w :: ws, ρ, acc => g (.sh w) ρ fun ρ1 => tt ρ1 fun ρ2 b => if b = true then te ρ2 fun ρ3 d => lookD d fun w => acc.length < 100000 ∧ qLcB g tt te vs k ws (wipeD ρ3 vs) (acc ++ [w]) else qLcB g tt te vs k ws (wipeD ρ2 vs) acc
def qLc2L (g : TGQ) (tt : TTQ) (it1 : TIQ) (g1 : TGQ) (tt1 : TTQ) (te : TQ) (vs vs1 : List Nat) (k : List D → List W → Prop) : List W → List D → List W → Prop
  | [], ρ, acc => k ρ acc
  | w :: ws, ρ, acc => g (.sh w) ρ fun ρ1 => tt ρ1 fun ρ2 b => if b = true then it1 ρ2 fun ρ3 ws1 => qLcB g1 tt1 te vs1 (fun ρ4 acc' => qLc2L g tt it1 g1 tt1 te vs vs1 k ws (wipeD ρ4 vs) acc') ws1 (wipeD ρ3 vs1) acc else qLc2L g tt it1 g1 tt1 te vs vs1 k ws (wipeD ρ2 vs) acc
def qLc2 (it : TIQ) (g : TGQ) (tt : TTQ) (it1 : TIQ) (g1 : TGQ) (tt1 : TTQ) (te : TQ) (vs vs1 : List Nat) : TQ := fun ρ Q => it ρ fun ρ1 ws => qLc2L g tt it1 g1 tt1 te vs vs1 (fun ρ2 acc => Q (mrg ρ1 ρ2 vs) (.lst acc)) ws (wipeD ρ1 vs) []
@[simp ↓] theorem qLcB_nil (g : TGQ) (tt : TTQ) (te : TQ) (vs : List Nat) (k : List D → List W → Prop) (ρ : List D) (acc : List W) : qLcB g tt te vs k [] ρ acc = k ρ acc := by rw [qLcB]
@[simp ↓] theorem qLcB_cons (g : TGQ) (tt : TTQ) (te : TQ) (vs : List Nat) (k : List D → List W → Prop) (w : W) (ws : List W) (ρ : List D) (acc : List W) : qLcB g tt te vs k (w :: ws) ρ acc = (g (.sh w) ρ fun ρ1 => tt ρ1 fun ρ2 b => if b = true then te ρ2 fun ρ3 d => lookD d fun w => acc.length < 100000 ∧ qLcB g tt te vs k ws (wipeD ρ3 vs) (acc ++ [w]) else qLcB g tt te vs k ws (wipeD ρ2 vs) acc) := by rw [qLcB]
@[simp ↓] theorem qLc2L_nil (g : TGQ) (tt : TTQ) (it1 : TIQ) (g1 : TGQ) (tt1 : TTQ) (te : TQ) (vs vs1 : List Nat) (k : List D → List W → Prop) (ρ : List D) (acc : List W) : qLc2L g tt it1 g1 tt1 te vs vs1 k [] ρ acc = k ρ acc := by rw [qLc2L]
@[simp ↓] theorem qLc2L_cons (g : TGQ) (tt : TTQ) (it1 : TIQ) (g1 : TGQ) (tt1 : TTQ) (te : TQ) (vs vs1 : List Nat) (k : List D → List W → Prop) (w : W) (ws : List W) (ρ : List D) (acc : List W) : qLc2L g tt it1 g1 tt1 te vs vs1 k (w :: ws) ρ acc = (g (.sh w) ρ fun ρ1 => tt ρ1 fun ρ2 b => if b = true then it1 ρ2 fun ρ3 ws1 => qLcB g1 tt1 te vs1 (fun ρ4 acc' => qLc2L g tt it1 g1 tt1 te vs vs1 k ws (wipeD ρ4 vs) acc') ws1 (wipeD ρ3 vs1) acc else qLc2L g tt it1 g1 tt1 te vs vs1 k ws (wipeD ρ2 vs) acc) := by rw [qLc2L]
@[simp ↓] theorem qLc2_e (it : TIQ) (g : TGQ) (tt : TTQ) (it1 : TIQ) (g1 : TGQ) (tt1 : TTQ) (te : TQ) (vs vs1 : List Nat) (ρ : List D) (Q : KQ) : qLc2 it g tt it1 g1 tt1 te vs vs1 ρ Q = (it ρ fun ρ1 ws => qLc2L g tt it1 g1 tt1 te vs vs1 (fun ρ2 acc => Q (mrg ρ1 ρ2 vs) (.lst acc)) ws (wipeD ρ1 vs) []) := by rw [qLc2]
@[simp ↓] theorem gqTup_4 (n : Nat) (t : TGsQ) (a b c d : W) (ρ : List D) (Q : List D → Prop) : gqTup n t (.sh (.tup [a, b, c, d])) ρ Q = (4 = n ∧ t [.sh a, .sh b, .sh c, .sh d] ρ Q) := by rw [gqTup]; rfl
@[simp ↓] theorem gqTup_5 (n : Nat) (t : TGsQ) (a b c d e : W) (ρ : List D) (Q : List D → Prop) : gqTup n t (.sh (.tup [a, b, c, d, e])) ρ Q = (5 = n ∧ t [.sh a, .sh b, .sh c, .sh d, .sh e] ρ Q) := by rw [gqTup]; rfl
/-! ### is True, is not False -/
def oIsB (neg : Bool) : W → W → (D → Prop) → Prop := fun x y k => match x, y with
  | .v (.bl a), .v (.bl b) => k (.bl (neg != decide (a = b)))
  | _, _ => False
@[simp ↓] theorem oIsB_e (neg a b : Bool) (k : D → Prop) : oIsB neg (.v (.bl a)) (.v (.bl b)) k = k (.bl (neg != decide (a = b))) := by rw [oIsB]
section
variable {K : PySem.W.Frag} {c : Cx K}
instance : SOp c rIsB (oIsB false) where
  sim {F H σ ρ ts x y w u Q Qp} rl hx hy h k := by
    unfold oIsB at h
    split at h
    next a b => rw [Bool.false_bne] at h; exact ⟨a, b, hx.flat, hy.flat, k _ _ _ _ (rl.pushS (.v _)) h⟩
    next => exact h.elim
instance : SOp c rNotB (oIsB true) where
  sim {F H σ ρ ts x y w u Q Qp} rl hx hy h k := by
    unfold oIsB at h
    split at h
    next a b => rw [Bool.true_bne] at h; exact ⟨a, b, hx.flat, hy.flat, k _ _ _ _ (rl.pushS (.v _)) h⟩
    next => exact h.elim
theorem wipe_in {σ : L2.St} {vs vs1 : List Nat} (h : ∀ i ∈ vs1, i ∈ vs) : L2.wipe (L2.wipe σ vs1) vs = L2.wipe σ vs := by
  apply List.ext_getElem?
  intro j
  simp only [wipe_get]
  by_cases hj : j ∈ vs
  · rw [if_pos hj, if_pos hj]
    split <;> cases σ[j]? <;> rfl
  · rw [if_neg hj, if_neg hj, if_neg fun z => hj (h j z)]
instance {wi wi1 : TI} {g g1 : TG} {tt tt1 : TT} {te : TE} {vs vs1 : List Nat} {τi τi1 : TIQ} {sl sl1 : List Nat} {γ γ1 : TGQ} {τt τt1 : TTQ} {τe : TQ} [SI c wi τi] [∀ F1, SG (c.re F1) g sl γ] [∀ F1, ST (c.re F1) tt τt] [∀ F1, SI (c.re F1) wi1 τi1] [∀ F1, SG (c.re F1) g1 sl1 γ1] [∀ F1, ST (c.re F1) tt1 τt1] [∀ F1, SE (c.re F1) te τe] [z : Within sl vs] [z1 : Within sl1 vs1] [zz : Within vs1 vs] : SE c (tLc2 wi g tt wi1 g1 tt1 te vs vs1) (qLc2 τi γ τt τi1 γ1 τt1 τe vs vs1) where
  sim {F H σ ρ ts Q Qp} rl h k := SI.sim (t := wi) rl h fun J ws ρ1 F1 H1 r1 it q1 => by
    intro L hL
    have e0 := r1.fr.ff
    have n0 := r1.fr.nw
    let kk : List D → List W → Prop := fun ρ2 acc => Qp (mrg ρ1 ρ2 vs) (.lst acc)
    let Pv : Nat → Hp → Prop := fun i H => ∃ F ρ acc, Rel (c.re F1) F H (L2.wipe σ vs) ρ ((.ref L, .lst acc) :: ts) ∧ qLc2L γ τt τi1 γ1 τt1 τe vs vs1 kk (ws.drop i) ρ acc
    refine ⟨fun i m H => m = ws.length - i ∧ i ≤ ws.length ∧ Pv i H, ⟨ws.length, by simp, Nat.zero_le _, F1, _, [], (((r1.wipe vs).re (Same.refl _) e0).newO (o := .lst []) hL (own_lst .nil)), q1⟩, ?_⟩
    rintro i m H ⟨rfl, hi, F, ρ, acc, r, q⟩
    have gd : Same F1 H := r.fr.ff.trans r.fr.fh
    by_cases hlt : i < ws.length
    · refine .inr ⟨it.goes i H hlt gd, Pv (i + 1), fun H' p' => ⟨ws.length - (i + 1), by omega, rfl, hlt, p'⟩, fun x H' y => ?_⟩
      obtain ⟨w, F', hw, e, r'⟩ := r.turn r.fr.ff (it.yields i H x H' hlt gd y)
      rw [drop_cons hw] at q
      refine SG.sim (c := c.re F1) (g := g) r' q fun σ2 ρ2 F2 H2 r2 o2 q2 => ?_
      have hwp : L2.wipe σ2 vs = L2.wipe σ vs := by
        rw [o2 vs z.sub]
        exact wipe_in fun i h => h
      refine ⟨hwp, ST.sim (c := c.re F1) (t := tt) r2 q2 fun b ρ3 F3 H3 r3 q3 => ?_⟩
      cases b with
      | false => exact ⟨F3, _, acc, by rw [← hwp]; exact r3.wipe vs, q3⟩
      | true =>
        refine SI.sim (c := c.re F1) (t := wi1) r3 q3 fun J1 ws1 ρ4 F4 H4 r4 it1 q4 => ?_
        have e1 := r4.fr.ff
        have n1 := r4.fr.nw
        let kin : List D → List W → Prop := fun ρ4 acc' => qLc2L γ τt τi1 γ1 τt1 τe vs vs1 kk (ws.drop (i + 1)) (wipeD ρ4 vs) acc'
        let Pv1 : Nat → Hp → Prop := fun j H => ∃ F ρ acc, Rel ((c.re F1).re F4) F H (L2.wipe σ2 vs1) ρ ((.ref L, .lst acc) :: ts) ∧ qLcB γ1 τt1 τe vs1 kin (ws1.drop j) ρ acc
        refine ⟨fun i m H => m = ws1.length - i ∧ i ≤ ws1.length ∧ Pv1 i H, ⟨ws1.length, by simp, Nat.zero_le _, F4, _, acc, (r4.wipe vs1).re (Same.refl _) e1, q4⟩, ?_⟩
        rintro j m H ⟨rfl, hj, F, ρ, acc, r, q⟩
        have gd : Same F4 H := r.fr.ff.trans r.fr.fh
        by_cases hlj : j < ws1.length
        · refine .inr ⟨it1.goes j H hlj gd, Pv1 (j + 1), fun H' p' => ⟨ws1.length - (j + 1), by omega, rfl, hlj, p'⟩, fun x H' y => ?_⟩
          obtain ⟨w, F', hw, e, r'⟩ := r.turn r.fr.ff (it1.yields j H x H' hlj gd y)
          rw [drop_cons hw] at q
          refine SG.sim (c := c.re F4) (g := g1) r' q fun σ3 ρ5 F5 H5 r5 o5 q5 => ?_
          have hwp1 : L2.wipe σ3 vs1 = L2.wipe σ2 vs1 := by
            rw [o5 vs1 z1.sub]
            exact wipe_in fun i h => h
          refine ⟨hwp1, ST.sim (c := c.re F4) (t := tt1) r5 q5 fun b ρ6 F6 H6 r6 q6 => ?_⟩
          cases b with
          | false => exact ⟨F6, _, acc, by rw [← hwp1]; exact r6.wipe vs1, q6⟩
          | true =>
            refine SE.simW (c := c.re F4) (t := te) r6 q6 fun v w ρ7 F7 H7 r7 q7 => ?_
            have rv := r7.topS
            have r8 := r7.pop
            obtain ⟨S, o8⟩ := r8.top
            cases o8 with
            | @lst _ _ us _ s0 m hx rr =>
              refine ⟨us, hx, ?_, F7, _, acc ++ [w], ?_, q7.2⟩
              · have := q7.1
                rw [rr.len, sizeLine_eq]; omega
              · rw [← hwp1]
                refine Rel.wipe (Rel.mutT (d' := .lst (acc ++ [w])) r8 fun T o => ?_) vs1
                cases o with
                | lst s0' m' hx' rr' =>
                  rw [hx] at hx'
                  cases hx'
                  exact ⟨s0', .lst s0' m' upd_same (rr'.app (.cons rv .nil))⟩
        · have ej : j = ws1.length := by omega
          subst ej
          rw [List.drop_length] at q
          refine .inl ⟨it1.stops H gd, F, _, acc, ?_, q⟩
          have r9 := (Rel.unre (c := c.re F1) r e1 n1).wipe vs
          rw [wipe_in zz.sub, hwp] at r9
          exact r9
    · have ei : i = ws.length := by omega
      subst ei
      rw [List.drop_length] at q
      have r2 := Rel.unwipe (c := c.re F1) (r1.re (Same.refl _) e0) r.fr.ff vs r
      exact .inl ⟨it.stops H gd, k _ _ _ _ _ (r2.unre e0 n0) q⟩
end
end R

namespace R
open PySem PySem.Spec PyProof.Rows L2 G
def p_is_integer (A : Ad) : TSQ :=
    (sRet (qAndV (qCB bIsi (vCons (vVar 0) (vCons (vE (qC (.ty "int"))) vNil))) (qNotV (qCB bIsi (vCons (vVar 0) (vCons (vE (qC (.ty "bool"))) vNil))))))
def f_is_integer (A : Ad) : PF := runF (p_is_integer A) 0

def p_is_between (A : Ad) : TSQ :=
    (sRet (qAndV (qCall (f_is_integer A) 1 (aCons (qVar 0) aNil)) (qChain (oI0 fun i j => .bl (decide (i ≤ j))) (oI0 fun i j => .bl (decide (i ≤ j))) (vVar 1) (vVar 0) (vVar 2))))
def f_is_between (A : Ad) : PF := runF (p_is_between A) 0

def p_is_amount (A : Ad) : TSQ :=
    (sRet (qCall (f_is_between A) 3 (aCons (qVar 0) (aCons (qC (.int 0)) (aCons (qC (.int 1000000000000000000000000000000)) aNil)))))
def f_is_amount (A : Ad) : PF := runF (p_is_amount A) 0

def p_is_count (A : Ad) : TSQ :=
    (sRet (qCall (f_is_between A) 3 (aCons (qVar 0) (aCons (qC (.int 1)) (aCons (qC (.int 1000000000000000000)) aNil)))))
def f_is_count (A : Ad) : PF := runF (p_is_count A) 0

def p_is_broker (A : Ad) : TSQ :=
    (sRet (qCall (f_is_between A) 3 (aCons (qVar 0) (aCons (qC (.int 0)) (aCons (qOp (oI0 fun i j => .int (i - j)) (vVar 1) (vE (qC (.int 1)))) aNil)))))
def f_is_broker (A : Ad) : PF := runF (p_is_broker A) 0

def p_is_bound (A : Ad) : TSQ :=
    (sSeq (sIf (qOr (qNot (qB (qCB bIsi (vCons (vVar 0) (vCons (vE (qC (.ty "tuple"))) vNil))))) (qB (qOp (oEq true) (vE (qCB bLen (vCons (vVar 0) vNil))) (vE (qC (.int 2)))))) (sRet (qC (.bl false))) sNext)
    (sRet (qAndV (qCall (f_is_amount A) 1 (aCons (qOp oIx (vVar 0) (vE (qC (.int 0)))) aNil)) (qAndV (qCall (f_is_amount A) 1 (aCons (qOp oIx (vVar 0) (vE (qC (.int 1)))) aNil)) (qOp (oI0 fun i j => .bl (decide (i ≤ j))) (vE (qOp oIx (vVar 0) (vE (qC (.int 0))))) (vE (qOp oIx (vVar 0) (vE (qC (.int 1))))))))))
def f_is_bound (A : Ad) : PF := runF (p_is_bound A) 0

def p_are_bounds_e0 (A : Ad) : TQ :=
    (qCall (f_is_bound A) 1 (aCons (qVar 1) aNil))
def p_are_bounds (A : Ad) : TSQ :=
    (sSeq (sIf (qOr (qNot (qB (qCB bIsi (vCons (vVar 0) (vCons (vE (qC (.ty "list"))) vNil))))) (qNot (qB (qChain (oI0 fun i j => .bl (decide (i ≤ j))) (oI0 fun i j => .bl (decide (i ≤ j))) (vE (qC (.int 2))) (vE (qCB bLen (vCons (vVar 0) vNil))) (vE (qC (.int 10))))))) (sRet (qC (.bl false))) sNext)
    (sRet (qCB bAll (vCons (vE (qLc (iqSeq (qVar 0)) (gqName 1) qYes (p_are_bounds_e0 A) [1])) vNil))))
def f_are_bounds (A : Ad) : PF := runF (p_are_bounds A) 1

def p_is_bundle (A : Ad) : TSQ :=
    (sSeq (sIf (qOr (qNot (qB (qCB bIsi (vCons (vVar 0) (vCons (vE (qC (.ty "tuple"))) vNil))))) (qOr (qB (qOp (oEq true) (vE (qCB bLen (vCons (vVar 0) vNil))) (vE (qC (.int 3))))) (qNot (qB (qCall (f_is_count A) 1 (aCons (qOp oIx (vVar 0) (vE (qC (.int 2)))) aNil)))))) (sRet (qC (.bl false))) sNext)
    (sRet (qAndV (qCall (f_is_broker A) 2 (aCons (qOp oIx (vVar 0) (vE (qC (.int 0)))) (aCons (qVar 1) aNil))) (qAndV (qCall (f_is_broker A) 2 (aCons (qOp oIx (vVar 0) (vE (qC (.int 1)))) (aCons (qVar 1) aNil))) (qOp (oI0 fun i j => .bl (decide (i < j))) (vE (qOp oIx (vVar 0) (vE (qC (.int 0))))) (vE (qOp oIx (vVar 0) (vE (qC (.int 1))))))))))
def f_is_bundle (A : Ad) : PF := runF (p_is_bundle A) 0

def p_are_bundles_e0 (A : Ad) : TQ :=
    (qCall (f_is_bundle A) 2 (aCons (qVar 2) (aCons (qVar 1) aNil)))
def p_are_bundles_e1 (A : Ad) : TQ :=
    (qSl (vVar 2) oNone (oPart (qC (.int 2))))
def p_are_bundles (A : Ad) : TSQ :=
    (sSeq (sIf (qOr (qNot (qB (qCB bIsi (vCons (vVar 0) (vCons (vE (qC (.ty "list"))) vNil))))) (qB (qOp (oI0 fun i j => .bl (decide (j < i))) (vE (qCB bLen (vCons (vVar 0) vNil))) (vE (qC (.int 45)))))) (sRet (qC (.bl false))) sNext)
    (sSeq (sIf (qNot (qB (qCB bAll (vCons (vE (qLc (iqSeq (qVar 0)) (gqName 2) qYes (p_are_bundles_e0 A) [2])) vNil)))) (sRet (qC (.bl false))) sNext)
    (sRet (qOp (oEq false) (vE (qLenSc (iqSeq (qVar 0)) (gqName 2) qYes (p_are_bundles_e1 A) [2])) (vE (qCB bLen (vCons (vVar 0) vNil)))))))
def f_are_bundles (A : Ad) : PF := runF (p_are_bundles A) 1

def p_Clusteru_initu (A : Ad) : TSQ :=
    (sSeq (sIf (qNot (qB (qCall (f_are_bounds A) 1 (aCons (qVar 1) aNil)))) sNever sNext)
    (sSeq (sIf (qNot (qB (qCall (f_are_bundles A) 2 (aCons (qVar 2) (aCons (qCB bLen (vCons (vVar 1) vNil)) aNil))))) sNever sNext)
    (sSeq (sFldQ A.Cluster 0 "limits" (qCB bList (vCons (vVar 1) vNil)))
    (sSeq (sFldQ A.Cluster 0 "rows" (qCB bList (vCons (vVar 2) vNil)))
    (sFldQ A.Cluster 0 "numbers" (qDc (iqEnum (aCons (qVar 2) aNil)) (gqTup 2 (gqCons (gqName 3) (gqCons (gqName 4) gqNil))) qYes (qSl (vVar 4) oNone (oPart (qC (.int 2)))) (qVar 3) [3, 4]))))))
def f_Clusteru_initu (A : Ad) : PI0 := runI A.Cluster (p_Clusteru_initu A) 2

def p__law_amount (A : Ad) : TSQ :=
    (sSeq (sIf (qAnd (qB (qVar 1)) (qB (qOp (oEq false) (vE (qCall f_take 2 (aCons (qVar 0) (aCons (qC (.int 2)) aNil)))) (vE (qC (.int 0)))))) (sRet (qOp oIx (vE (qLst (aCons (qOp (oI0 fun i j => .int (i - j)) (vE (qOp (oI CPow fun i j => .int (i ^ j.toNat)) (vE (qC (.int 10))) (vE (qC (.int 18))))) (vE (qCall f_take 2 (aCons (qVar 0) (aCons (qC (.int 3)) aNil))))) (aCons (qOp oPlus (vE (qC (.int 1))) (vE (qCall f_take 2 (aCons (qVar 0) (aCons (qOp (oI CPow fun i j => .int (i ^ j.toNat)) (vE (qC (.int 10))) (vE (qC (.int 18)))) aNil))))) aNil)))) (vE (qCall f_take 2 (aCons (qVar 0) (aCons (qC (.int 2)) aNil)))))) sNext)
    (sRet (qOp oPlus (vE (qC (.int 1))) (vE (qCall f_take 2 (aCons (qVar 0) (aCons (qOp oIx (vE (qLst (aCons (qC (.int 1)) (aCons (qC (.int 3)) (aCons (qC (.int 9)) aNil))))) (vE (qCall f_take 2 (aCons (qVar 0) (aCons (qC (.int 3)) aNil))))) aNil)))))))
def f__law_amount (A : Ad) : PF := runF (p__law_amount A) 0

def p__law_bundles_g0 (A : Ad) : TGQ :=
    (gqName 6)
def p__law_bundles_b0 (A : Ad) : TSQ :=
    (sIf (qB (qOp (oEq false) (vE (qCall f_take 2 (aCons (qVar 0) (aCons (qVar 3) aNil)))) (vE (qC (.int 0))))) (sDrop (qAppend 4 (qTup (aCons (qVar 5) (aCons (qVar 6) (aCons (qCall (f__law_amount A) 2 (aCons (qVar 0) (aCons (qVar 2) aNil))) aNil)))))) sNext)
def p__law_bundles_g1 (A : Ad) : TGQ :=
    (gqName 5)
def p__law_bundles_b1 (A : Ad) : TSQ :=
    (sFor (iqRng2 (vCons (vE (qOp oPlus (vVar 5) (vE (qC (.int 1))))) (vCons (vVar 1) vNil))) (p__law_bundles_g0 A) (p__law_bundles_b0 A))
def p__law_bundles (A : Ad) : TSQ :=
    (sSeq (sPar 3 4 (qOp oPlus (vE (qC (.int 1))) (vE (qCall f_take 2 (aCons (qVar 0) (aCons (qC (.int 3)) aNil))))) (qLst aNil))
    (sSeq (sFor (iqRng1 (vCons (vVar 1) vNil)) (p__law_bundles_g1 A) (p__law_bundles_b1 A))
    (sSeq (sAsg (qOrT (qVar 4) (qLst (aCons (qTup (aCons (qC (.int 0)) (aCons (qC (.int 1)) (aCons (qCall (f__law_amount A) 2 (aCons (qVar 0) (aCons (qVar 2) aNil))) aNil)))) aNil))) (gqName 4))
    (sRet (qIf (qB (qOp (oEq false) (vE (qCall f_take 2 (aCons (qVar 0) (aCons (qC (.int 3)) aNil)))) (vE (qC (.int 0))))) (qRev (vVar 4)) (qVar 4))))))
def f__law_bundles (A : Ad) : PF := runF (p__law_bundles A) 4

def p__law_bounds_g0 (A : Ad) : TGQ :=
    (gqName 3)
def p__law_bounds_b0 (A : Ad) : TSQ :=
    (sSeq (sAsg (qOp oIx (vE (qLst (aCons (qC (.int 0)) (aCons (qC (.int 0)) (aCons (qC (.int 1)) (aCons (qCall f_take 2 (aCons (qVar 0) (aCons (qC (.int 4)) aNil))) (aCons (qVar 3) aNil))))))) (vE (qCall f_take 2 (aCons (qVar 0) (aCons (qC (.int 5)) aNil))))) (gqName 4))
    (sSeq (sAsg (qOp oIx (vE (qLst (aCons (qC (.int 0)) (aCons (qC (.int 0)) (aCons (qC (.int 1)) (aCons (qCall f_take 2 (aCons (qVar 0) (aCons (qC (.int 4)) aNil))) (aCons (qOp (oI CPow fun i j => .int (i ^ j.toNat)) (vE (qC (.int 10))) (vE (qC (.int 19)))) aNil))))))) (vE (qCall f_take 2 (aCons (qVar 0) (aCons (qC (.int 5)) aNil))))) (gqName 5))
    (sDrop (qAppend 2 (qTup (aCons (qCB bMax (vCons (vE (qC (.int 0))) (vCons (vE (qOp (oI0 fun i j => .int (i - j)) (vVar 3) (vVar 4))) vNil))) (aCons (qOp oPlus (vVar 3) (vVar 5)) aNil)))))))
def p__law_bounds (A : Ad) : TSQ :=
    (sSeq (sAsg (qLst aNil) (gqName 2))
    (sSeq (sFor (iqSeq (qVar 1)) (p__law_bounds_g0 A) (p__law_bounds_b0 A))
    (sRetV 2)))
def f__law_bounds (A : Ad) : PF := runF (p__law_bounds A) 4

def p__law_loads_g0 (A : Ad) : TGQ :=
    (gqTup 2 (gqCons (gqName 4) (gqCons (gqTup 3 (gqCons (gqName 5) (gqCons (gqName 6) (gqCons (gqName 7) gqNil)))) gqNil)))
def p__law_loads_b0 (A : Ad) : TSQ :=
    (sSeq (sAsg (qOp oPlus (vE (qOp oIx (vVar 3) (vVar 5))) (vVar 4)) (gqSub 3 (qVar 5)))
    (sAsg (qOp (oI0 fun i j => .int (i - j)) (vE (qOp oPlus (vE (qOp oIx (vVar 3) (vVar 6))) (vVar 7))) (vVar 4)) (gqSub 3 (qVar 6))))
def p__law_loads (A : Ad) : TSQ :=
    (sSeq (sAsg (qOp oTimes (vE (qLst (aCons (qC (.int 0)) aNil))) (vVar 0)) (gqName 3))
    (sSeq (sFor (iqZip (aCons (qVar 2) (aCons (qVar 1) aNil))) (p__law_loads_g0 A) (p__law_loads_b0 A))
    (sRetV 3)))
def f__law_loads (A : Ad) : PF := runF (p__law_loads A) 5

def p__law_net_g0 (A : Ad) : TGQ :=
    (gqTup 3 (gqCons (gqName 6) (gqCons (gqName 7) (gqCons (gqName 8) gqNil))))
def p__law_net_b0 (A : Ad) : TSQ :=
    (sDrop (qAppend 5 (qOp oIx (vE (qLst (aCons (qC (.int 0)) (aCons (qVar 8) (aCons (qCall f_take 2 (aCons (qVar 0) (aCons (qOp oPlus (vVar 8) (vE (qC (.int 1)))) aNil))) aNil))))) (vE (qCall f_take 2 (aCons (qVar 0) (aCons (qC (.int 3)) aNil)))))))
def p__law_net (A : Ad) : TSQ :=
    (sSeq (sAsg (qOp oPlus (vE (qC (.int 2))) (vE (qCall f_take 2 (aCons (qVar 0) (aCons (qOp (oI0 fun i j => .int (i - j)) (vVar 1) (vE (qC (.int 1)))) aNil))))) (gqName 3))
    (sSeq (sAsg (qCall (f__law_bundles A) 3 (aCons (qVar 0) (aCons (qVar 3) (aCons (qVar 2) aNil)))) (gqName 4))
    (sSeq (sAsg (qLst aNil) (gqName 5))
    (sSeq (sFor (iqSeq (qVar 4)) (p__law_net_g0 A) (p__law_net_b0 A))
    (sRet (qTup (aCons (qCall (f__law_bounds A) 2 (aCons (qVar 0) (aCons (qCall (f__law_loads A) 3 (aCons (qVar 3) (aCons (qVar 4) (aCons (qVar 5) aNil)))) aNil))) (aCons (qVar 4) (aCons (qCB bTup (vCons (vVar 5) vNil)) aNil)))))))))
def f__law_net (A : Ad) : PF := runF (p__law_net A) 6

def p_Cluster_size (A : Ad) : TSQ :=
    (sRet (qCB bLen (vCons (vE (qFld A.Cluster "limits" (vVar 0))) vNil)))
def f_Cluster_size (A : Ad) : PF := runF (p_Cluster_size A) 0

def p_Cluster_bundles (A : Ad) : TSQ :=
    (sRet (qCB bList (vCons (vE (qFld A.Cluster "rows" (vVar 0))) vNil)))
def f_Cluster_bundles (A : Ad) : PF := runF (p_Cluster_bundles A) 0

def p_loads_g0 (A : Ad) : TGQ :=
    (gqTup 2 (gqCons (gqName 3) (gqCons (gqTup 3 (gqCons (gqName 4) (gqCons (gqName 5) (gqCons (gqName 6) gqNil)))) gqNil)))
def p_loads_b0 (A : Ad) : TSQ :=
    (sSeq (sAugS 2 (qVar 4) (qVar 3) (oI0 fun i j => .int (i + j)))
    (sAugS 2 (qVar 5) (qOp (oI0 fun i j => .int (i - j)) (vVar 6) (vVar 3)) (oI0 fun i j => .int (i + j))))
def p_loads (A : Ad) : TSQ :=
    (sSeq (sAsg (qOp oTimes (vE (qLst (aCons (qC (.int 0)) aNil))) (vE (qMeth A.Cluster "size" (f_Cluster_size A) 0 (qVar 0) aNil))) (gqName 2))
    (sSeq (sFor (iqZip (aCons (qVar 1) (aCons (qMeth A.Cluster "bundles" (f_Cluster_bundles A) 0 (qVar 0) aNil) aNil))) (p_loads_g0 A) (p_loads_b0 A))
    (sRetV 2)))
def f_loads (A : Ad) : PF := runF (p_loads A) 5

def p_Cluster_floor (A : Ad) : TSQ :=
    (sRet (qOp oIx (vE (qOp oIx (vE (qFld A.Cluster "limits" (vVar 0))) (vVar 1))) (vE (qC (.int 0)))))
def f_Cluster_floor (A : Ad) : PF := runF (p_Cluster_floor A) 0

def p_Cluster_ceiling (A : Ad) : TSQ :=
    (sRet (qOp oIx (vE (qOp oIx (vE (qFld A.Cluster "limits" (vVar 0))) (vVar 1))) (vE (qC (.int 1)))))
def f_Cluster_ceiling (A : Ad) : PF := runF (p_Cluster_ceiling A) 0

def p_first_invalid_g0 (A : Ad) : TGQ :=
    (gqTup 2 (gqCons (gqName 2) (gqCons (gqName 3) gqNil)))
def p_first_invalid_b0 (A : Ad) : TSQ :=
    (sIf (qNot (qB (qChain (oI0 fun i j => .bl (decide (i ≤ j))) (oI0 fun i j => .bl (decide (i ≤ j))) (vE (qMeth A.Cluster "floor" (f_Cluster_floor A) 1 (qVar 0) (aCons (qVar 2) aNil))) (vVar 3) (vE (qMeth A.Cluster "ceiling" (f_Cluster_ceiling A) 1 (qVar 0) (aCons (qVar 2) aNil)))))) (sRetV 2) sNext)
def p_first_invalid (A : Ad) : TSQ :=
    (sSeq (sFor (iqEnum (aCons (qCall (f_loads A) 2 (aCons (qVar 0) (aCons (qVar 1) aNil))) aNil)) (p_first_invalid_g0 A) (p_first_invalid_b0 A))
    (sRet (qC .non)))
def f_first_invalid (A : Ad) : PF := runF (p_first_invalid A) 2

def p__law_alike (A : Ad) : TSQ :=
    (sRet (qAndV (qOp (oEq false) (vVar 0) (vVar 1)) (qOp (oEqF false) (vE (qCB bRepr (vCons (vVar 0) vNil))) (vE (qCB bRepr (vCons (vVar 1) vNil))))))
def f__law_alike (A : Ad) : PF := runF (p__law_alike A) 0

def p_Cluster_bundle_of (A : Ad) : TSQ :=
    (sRet (qDGet1 (vE (qFld A.Cluster "numbers" (vVar 0))) (qTup (aCons (qCB bMin (vCons (vVar 1) (vCons (vVar 2) vNil))) (aCons (qCB bMax (vCons (vVar 1) (vCons (vVar 2) vNil))) aNil)))))
def f_Cluster_bundle_of (A : Ad) : PF := runF (p_Cluster_bundle_of A) 0

def p_led (A : Ad) : TSQ :=
    (sSeq (sAsg (qMeth A.Cluster "bundle_of" (f_Cluster_bundle_of A) 2 (qVar 0) (aCons (qVar 2) (aCons (qVar 3) aNil))) (gqName 4))
    (sSeq (sIf (qB (qOp (oIsN false) (vVar 4) (vE (qC .non)))) (sRet (qC (.int 0))) sNext)
    (sSeq (sIf (qB (qOp (oI0 fun i j => .bl (decide (i < j))) (vVar 2) (vVar 3))) (sRet (qOp oIx (vVar 1) (vVar 4))) sNext)
    (sRet (qOp (oI0 fun i j => .int (i - j)) (vE (qOp oIx (vE (qOp oIx (vE (qMeth A.Cluster "bundles" (f_Cluster_bundles A) 0 (qVar 0) aNil)) (vVar 4))) (vE (qC (.int 2))))) (vE (qOp oIx (vVar 1) (vVar 4))))))))
def f_led (A : Ad) : PF := runF (p_led A) 1

def p__law_led_g0 (A : Ad) : TGQ :=
    (gqTup 2 (gqCons (gqName 4) (gqCons (gqTup 3 (gqCons (gqName 5) (gqCons (gqName 6) (gqCons (gqName 7) gqNil)))) gqNil)))
def p__law_led_b0 (A : Ad) : TSQ :=
    (sSeq (sIf (qB (qOp (oEq false) (vE (qTup (aCons (qVar 5) (aCons (qVar 6) aNil)))) (vE (qTup (aCons (qVar 2) (aCons (qVar 3) aNil)))))) (sRetV 4) sNext)
    (sIf (qB (qOp (oEq false) (vE (qTup (aCons (qVar 5) (aCons (qVar 6) aNil)))) (vE (qTup (aCons (qVar 3) (aCons (qVar 2) aNil)))))) (sRet (qOp (oI0 fun i j => .int (i - j)) (vVar 7) (vVar 4))) sNext))
def p__law_led (A : Ad) : TSQ :=
    (sSeq (sFor (iqZip (aCons (qVar 1) (aCons (qVar 0) aNil))) (p__law_led_g0 A) (p__law_led_b0 A))
    (sRet (qC (.int 0))))
def f__law_led (A : Ad) : PF := runF (p__law_led A) 4

def p__law_legal (A : Ad) : TSQ :=
    (sSeq (sAsg (qCall (f__law_loads A) 3 (aCons (qCB bLen (vCons (vVar 0) vNil)) (aCons (qVar 1) (aCons (qVar 2) aNil)))) (gqName 5))
    (sSeq (sIf (qB (qOp (oEq false) (vE (qCall (f__law_led A) 4 (aCons (qVar 1) (aCons (qVar 2) (aCons (qVar 3) (aCons (qVar 4) aNil)))))) (vE (qC (.int 0))))) (sRet (qC (.bl false))) sNext)
    (sRet (qAndV (qOp (oI0 fun i j => .bl (decide (j < i))) (vE (qOp oIx (vVar 5) (vVar 3))) (vE (qOp oIx (vE (qOp oIx (vVar 0) (vVar 3))) (vE (qC (.int 0)))))) (qOp (oI0 fun i j => .bl (decide (i < j))) (vE (qOp oIx (vVar 5) (vVar 4))) (vE (qOp oIx (vE (qOp oIx (vVar 0) (vVar 4))) (vE (qC (.int 1))))))))))
def f__law_legal (A : Ad) : PF := runF (p__law_legal A) 1

def p__law_moved_g0 (A : Ad) : TGQ :=
    (gqTup 2 (gqCons (gqName 6) (gqCons (gqTup 3 (gqCons (gqName 7) (gqCons (gqName 8) (gqCons (gqName 9) gqNil)))) gqNil)))
def p__law_moved_b0 (A : Ad) : TSQ :=
    (sSeq (sIf (qB (qOp (oEq false) (vE (qTup (aCons (qVar 7) (aCons (qVar 8) aNil)))) (vE (qTup (aCons (qVar 2) (aCons (qVar 3) aNil)))))) (sAsg (qOp (oI0 fun i j => .int (i - j)) (vVar 6) (vVar 4)) (gqName 6)) (sIf (qB (qOp (oEq false) (vE (qTup (aCons (qVar 7) (aCons (qVar 8) aNil)))) (vE (qTup (aCons (qVar 3) (aCons (qVar 2) aNil)))))) (sAsg (qOp oPlus (vVar 6) (vVar 4)) (gqName 6)) sNext))
    (sDrop (qAppend 5 (qVar 6))))
def p__law_moved (A : Ad) : TSQ :=
    (sSeq (sAsg (qLst aNil) (gqName 5))
    (sSeq (sFor (iqZip (aCons (qVar 1) (aCons (qVar 0) aNil))) (p__law_moved_g0 A) (p__law_moved_b0 A))
    (sRet (qCB bTup (vCons (vVar 5) vNil)))))
def f__law_moved (A : Ad) : PF := runF (p__law_moved A) 5

def p_moved (A : Ad) : TSQ :=
    (sSeq (sAsg (qVar 2) (gqTup 3 (gqCons (gqName 3) (gqCons (gqName 4) (gqCons (gqName 5) gqNil)))))
    (sSeq (sAsg (qMeth A.Cluster "bundle_of" (f_Cluster_bundle_of A) 2 (qVar 0) (aCons (qVar 3) (aCons (qVar 4) aNil))) (gqName 6))
    (sSeq (sAsg (qIf (qB (qOp (oI0 fun i j => .bl (decide (i < j))) (vVar 3) (vVar 4))) (qUn (oU fun i => .int (-i)) (vVar 5)) (qVar 5)) (gqName 7))
    (sRet (qOp oPlus (vE (qOp oPlus (vE (qSl (vVar 1) oNone (oPart (qVar 6)))) (vE (qTup (aCons (qOp oPlus (vE (qOp oIx (vVar 1) (vVar 6))) (vVar 7)) aNil))))) (vE (qSl (vVar 1) (oPart (qOp oPlus (vVar 6) (vE (qC (.int 1))))) oNone)))))))
def f_moved (A : Ad) : PF := runF (p_moved A) 5

def p_spares (A : Ad) : TSQ :=
    (sSeq (sAsg (qVar 2) (gqTup 3 (gqCons (gqName 3) (gqCons (gqName 4) (gqCons (gqName 5) gqNil)))))
    (sSeq (sAsg (qCall (f_loads A) 2 (aCons (qVar 0) (aCons (qVar 1) aNil))) (gqName 6))
    (sSeq (sPar 7 8 (qOp (oI0 fun i j => .int (i - j)) (vE (qOp oIx (vVar 6) (vVar 3))) (vE (qMeth A.Cluster "floor" (f_Cluster_floor A) 1 (qVar 0) (aCons (qVar 3) aNil)))) (qOp (oI0 fun i j => .int (i - j)) (vE (qMeth A.Cluster "ceiling" (f_Cluster_ceiling A) 1 (qVar 0) (aCons (qVar 4) aNil))) (vE (qOp oIx (vVar 6) (vVar 4)))))
    (sRet (qLst (aCons (qOp (oI0 fun i j => .int (i - j)) (vE (qCall (f_led A) 4 (aCons (qVar 0) (aCons (qVar 1) (aCons (qVar 3) (aCons (qVar 4) aNil)))))) (vVar 5)) (aCons (qOp (oI0 fun i j => .int (i - j)) (vVar 7) (vVar 5)) (aCons (qOp (oI0 fun i j => .int (i - j)) (vVar 8) (vVar 5)) aNil))))))))
def f_spares (A : Ad) : PF := runF (p_spares A) 6

def p_is_legal (A : Ad) : TSQ :=
    (sRet (qOp (oI0 fun i j => .bl (decide (j ≤ i))) (vE (qCB bMin (vCons (vE (qCall (f_spares A) 3 (aCons (qVar 0) (aCons (qVar 1) (aCons (qTup (aCons (qVar 2) (aCons (qVar 3) (aCons (qC (.int 1)) aNil)))) aNil))))) vNil))) (vE (qC (.int 0)))))
def f_is_legal (A : Ad) : PF := runF (p_is_legal A) 0

def p_Clusteru_equ (A : Ad) : TSQ :=
    (sSeq (sIf (qNot (qB (qCB (bIsC A.Cluster) (vCons (vVar 1) (vCons (vE (qC (.ref A.Cluster))) vNil))))) (sRet (qC (.bl false))) sNext)
    (sRet (qAndV (qOp (oEq false) (vE (qFld A.Cluster "limits" (vVar 0))) (vE (qFld A.Cluster "limits" (vVar 1)))) (qOp (oEq false) (vE (qFld A.Cluster "rows" (vVar 0))) (vE (qFld A.Cluster "rows" (vVar 1)))))))
def f_Clusteru_equ (A : Ad) : PF := runF (p_Clusteru_equ A) 0

end R

/-! ## L1: kinds of values, without a heap -/
namespace R
open PySem PySem.Spec PyProof.Rows L2 G
/-! ### comprehensions and loops over encoded lists -/
theorem lcL_map {α : Type} {g : TGQ} {tt : TTQ} {te : TQ} {vs : List Nat} {k : List D → List W → Prop} {ρ : List D} (enc f : α → W) : ∀ {xs : List α} {acc : List W}, (∀ x ∈ xs, ∀ acc ws', qLcL g tt te vs k (enc x :: ws') ρ acc = qLcL g tt te vs k ws' ρ (acc ++ [f x])) → qLcL g tt te vs k (xs.map enc) ρ acc = k ρ (acc ++ xs.map f)
  | [], acc, _ => by simp
  | x :: xs, acc, h => by
    rw [List.map_cons, h x List.mem_cons_self, lcL_map enc f fun y hy => h y (List.mem_cons_of_mem _ hy), List.append_assoc]
    rfl
theorem lcL_fm {α : Type} {g : TGQ} {tt : TTQ} {te : TQ} {vs : List Nat} {k : List D → List W → Prop} {ρ : List D} (enc : α → W) (f : α → Option W) : ∀ {xs : List α} {acc : List W}, (∀ x ∈ xs, ∀ acc ws', qLcL g tt te vs k (enc x :: ws') ρ acc = qLcL g tt te vs k ws' ρ (acc ++ (f x).toList)) → qLcL g tt te vs k (xs.map enc) ρ acc = k ρ (acc ++ xs.filterMap f)
  | [], acc, _ => by simp
  | x :: xs, acc, h => by
    rw [List.map_cons, h x List.mem_cons_self, lcL_fm enc f fun y hy => h y (List.mem_cons_of_mem _ hy), List.append_assoc]
    cases e : f x <;> simp [List.filterMap_cons, e]
/-- a loop that carries a state -/
theorem loop_fold {α S : Type} {g : TGQ} {b : TSQ} {E : EQ} (enc : α → W) (R : S → List D) (st : S → α → S) (I : S → Prop) : ∀ {xs : List α} {s : S}, I s → (∀ x ∈ xs, ∀ s, I s → I (st s x) ∧ ∀ ws', qLoop g b E (enc x :: ws') (R s) = qLoop g b E ws' (R (st s x))) → qLoop g b E (xs.map enc) (R s) = E.nx (R (xs.foldl st s))
  | [], s, _, _ => by simp
  | x :: xs, s, hi, h => by
    obtain ⟨h1, h2⟩ := h x List.mem_cons_self s hi
    rw [List.map_cons, h2, loop_fold enc R st I h1 fun y hy => h y (List.mem_cons_of_mem _ hy)]
    rfl
@[simp ↓] theorem asB_mapf {α : Type} (k : List Bool → Prop) (f : α → Bool) (xs : List α) : asB k (xs.map fun x => W.v (.bl (f x))) = k (xs.map f) := by
  have e : (xs.map fun x => W.v (.bl (f x))) = (xs.map f).map fun b => W.v (.bl b) := by rw [List.map_map]; rfl
  rw [e, asB_map]
@[simp ↓] theorem asI_mapf {α : Type} (k : List Int → Prop) (f : α → Int) (xs : List α) : asI k (xs.map fun x => W.v (.int (f x))) = k (xs.map f) := by
  have e : (xs.map fun x => W.v (.int (f x))) = (xs.map f).map fun b => W.v (.int b) := by rw [List.map_map]; rfl
  rw [e, asI_map]
/-! ### kinds -/
def isIntW : W → Bool
  | .v (.int _) => true
  | _ => false
def betwW (w : W) (lo hi : Int) : Bool := match w with
  | .v (.int i) => decide (lo ≤ i) && decide (i ≤ hi)
  | _ => false
/-- its class is known -/
def tyd (w : W) : Prop := (tyW w).isSome = true
@[simp] theorem tyd_int (i : Int) : tyd (.v (.int i)) := rfl
@[simp] theorem tyd_bl (i : Bool) : tyd (.v (.bl i)) := rfl
@[simp] theorem tyd_str (i : Str) : tyd (.v (.str i)) := rfl
@[simp] theorem tyd_non : tyd (.v .non) := rfl
@[simp] theorem tyd_lst (i : List W) : tyd (.lst i) := rfl
@[simp] theorem tyd_tup (i : List W) : tyd (.tup i) := rfl
theorem f_is_integer_eq {A : Ad} {w : W} {Q : D → Prop} (h : tyd w) : f_is_integer A [w] Q = Q (.bl (isIntW w)) := by
  unfold tyd at h
  cases w with
  | v x => cases x <;> simp [f_is_integer, p_is_integer, isA, isIntW] at h ⊢
  | _ => simp [f_is_integer, p_is_integer, isA, isIntW] at h ⊢
theorem f_is_between_eq {A : Ad} {w : W} {lo hi : Int} {Q : D → Prop} (h : tyd w) : f_is_between A [w, .v (.int lo), .v (.int hi)] Q = Q (.bl (betwW w lo hi)) := by
  cases w with
  | v x =>
    cases x with
    | int i =>
      simp [f_is_between, p_is_between, f_is_integer_eq h, betwW, isIntW]
      by_cases hl : lo ≤ i
      · rw [if_pos (by omega), decide_eq_true hl]; rfl
      · rw [if_neg (by omega), decide_eq_false hl]; rfl
    | _ => simp [f_is_between, p_is_between, f_is_integer_eq h, betwW, isIntW]
  | _ => simp [f_is_between, p_is_between, f_is_integer_eq h, betwW, isIntW]
theorem f_is_amount_eq {A : Ad} {w : W} {Q : D → Prop} (h : tyd w) : f_is_amount A [w] Q = Q (.bl (betwW w 0 1000000000000000000000000000000)) := by
  simp [f_is_amount, p_is_amount, f_is_between_eq h]
theorem f_is_count_eq {A : Ad} {w : W} {Q : D → Prop} (h : tyd w) : f_is_count A [w] Q = Q (.bl (betwW w 1 1000000000000000000)) := by
  simp [f_is_count, p_is_count, f_is_between_eq h]
theorem f_is_broker_eq {A : Ad} {w : W} {n : Int} {Q : D → Prop} (h : tyd w) : f_is_broker A [w, .v (.int n)] Q = Q (.bl (betwW w 0 (n - 1))) := by
  simp [f_is_broker, p_is_broker, f_is_between_eq h]
/-- known down to n levels -/
def tydL : Nat → W → Prop
  | 0, w => tyd w
  | n + 1, w => tyd w ∧ match w with
    | .lst ws => ∀ x ∈ ws, tydL n x
    | .tup ws => ∀ x ∈ ws, tydL n x
    | _ => True
def leW (x y : W) : Bool := match x, y with
  | .v (.int i), .v (.int j) => decide (i ≤ j)
  | _, _ => false
def ltW (x y : W) : Bool := match x, y with
  | .v (.int i), .v (.int j) => decide (i < j)
  | _, _ => false
def isBoundW : W → Bool
  | .tup [a, b] => betwW a 0 1000000000000000000000000000000 && betwW b 0 1000000000000000000000000000000 && leW a b
  | _ => false
theorem betw_ex {w : W} {lo hi : Int} (h : betwW w lo hi = true) : ∃ i, w = .v (.int i) ∧ lo ≤ i ∧ i ≤ hi := by
  unfold betwW at h
  split at h
  next i => exact ⟨i, rfl, by simpa using h⟩
  next => cases h
theorem f_is_bound_eq {A : Ad} {w : W} {Q : D → Prop} (h : tydL 1 w) : f_is_bound A [w] Q = Q (.bl (isBoundW w)) := by
  obtain ⟨h0, h1⟩ := h
  have hh := h0
  unfold tyd at hh
  cases w with
  | tup ws =>
    match ws, h1 with
    | [], _ => simp [f_is_bound, p_is_bound, isA, isBoundW]
    | [a], _ => simp [f_is_bound, p_is_bound, isA, isBoundW]
    | [a, b], h1 =>
      have ha : tyd a := h1 a (by simp)
      have hb : tyd b := h1 b (by simp)
      simp [f_is_bound, p_is_bound, isA, isBoundW, atI, ixN, f_is_amount_eq ha, f_is_amount_eq hb]
      cases e1 : betwW a 0 1000000000000000000000000000000 with
      | false => simp
      | true =>
        cases e2 : betwW b 0 1000000000000000000000000000000 with
        | false => simp
        | true =>
          obtain ⟨i, rfl, _⟩ := betw_ex e1
          obtain ⟨j, rfl, _⟩ := betw_ex e2
          simp [leW]
    | a :: b :: c :: ws, _ =>
      simp [f_is_bound, p_is_bound, isA, isBoundW]
      omega
  | v x => cases x <;> simp [f_is_bound, p_is_bound, isA, isBoundW] at hh ⊢
  | _ => simp [f_is_bound, p_is_bound, isA, isBoundW] at hh ⊢
end R

/-! ## L2: bounds and bundles; a Cluster -/
namespace R
open PySem PySem.Spec PyProof.Rows L2 G
def areBoundsW : W → Bool
  | .lst ws => decide (2 ≤ ws.length) && decide (ws.length ≤ 10) && ws.all isBoundW
  | _ => false
theorem map_id (ws : List W) : ws.map (fun w => w) = ws := by simp
theorem bools_map {α : Type} (f : α → Bool) (xs : List α) : (xs.map fun x => W.v (.bl (f x))) = (xs.map f).map fun b => W.v (.bl b) := by rw [List.map_map]; rfl
theorem all_map {α : Type} (f : α → Bool) (xs : List α) : (xs.map f).all id = xs.all f := by rw [List.all_map]; rfl
theorem f_are_bounds_eq {A : Ad} {w : W} {Q : D → Prop} (h : tydL 2 w) : f_are_bounds A [w] Q = Q (.bl (areBoundsW w)) := by
  obtain ⟨h0, h1⟩ := h
  have hh := h0
  unfold tyd at hh
  cases w with
  | lst ws =>
    have lc : ∀ k, qLcL (gqName 1) qYes (p_are_bounds_e0 A) [1] k ws [.sh (.lst ws), .un] [] = k [.sh (.lst ws), .un] (ws.map fun x => W.v (.bl (isBoundW x))) := fun k => by
      have := lcL_map (k := k) (g := gqName 1) (tt := qYes) (te := p_are_bounds_e0 A) (vs := [1]) (ρ := [.sh (.lst ws), .un]) (fun w => w) (fun x => W.v (.bl (isBoundW x))) (xs := ws) (acc := []) fun x hx acc ws' => by
        simp [p_are_bounds_e0, f_is_bound_eq (h1 x hx)]
      rwa [map_id] at this
    simp [f_are_bounds, p_are_bounds, isA, areBoundsW]
    by_cases h2 : 2 ≤ ws.length
    · by_cases h10 : ws.length ≤ 10
      · rw [if_pos (by omega), if_neg (by omega), lc]
        simp [h2, h10, all_map]
        omega
      · rw [if_pos (by omega), if_pos (by omega)]
        simp [h2, h10]
    · rw [if_neg (by omega)]
      simp [h2]
  | v x => cases x <;> simp [f_are_bounds, p_are_bounds, isA, areBoundsW] at hh ⊢
  | _ => simp [f_are_bounds, p_are_bounds, isA, areBoundsW] at hh ⊢
def isBundleW (n : Int) : W → Bool
  | .tup [a, b, c] => betwW c 1 1000000000000000000 && betwW a 0 (n - 1) && betwW b 0 (n - 1) && ltW a b
  | _ => false
theorem f_is_bundle_eq {A : Ad} {w : W} {n : Int} {Q : D → Prop} (h : tydL 1 w) : f_is_bundle A [w, .v (.int n)] Q = Q (.bl (isBundleW n w)) := by
  obtain ⟨h0, h1⟩ := h
  have hh := h0
  unfold tyd at hh
  cases w with
  | tup ws =>
    match ws, h1 with
    | [], _ => simp [f_is_bundle, p_is_bundle, isA, isBundleW]
    | [a], _ => simp [f_is_bundle, p_is_bundle, isA, isBundleW]
    | [a, b], _ => simp [f_is_bundle, p_is_bundle, isA, isBundleW]
    | [a, b, c], h1 =>
      have ha : tyd a := h1 a (by simp)
      have hb : tyd b := h1 b (by simp)
      have hc : tyd c := h1 c (by simp)
      simp [f_is_bundle, p_is_bundle, isA, isBundleW, atI, ixN, f_is_broker_eq ha, f_is_broker_eq hb, f_is_count_eq hc]
      cases e0 : betwW c 1 1000000000000000000 with
      | false => simp
      | true =>
        cases e1 : betwW a 0 (n - 1) with
        | false => simp
        | true =>
          cases e2 : betwW b 0 (n - 1) with
          | false => simp
          | true =>
            obtain ⟨i, rfl, _⟩ := betw_ex e1
            obtain ⟨j, rfl, _⟩ := betw_ex e2
            simp [ltW]
    | a :: b :: c :: d :: ws, _ =>
      simp [f_is_bundle, p_is_bundle, isA, isBundleW]
      omega
  | v x => cases x <;> simp [f_is_bundle, p_is_bundle, isA, isBundleW] at hh ⊢
  | _ => simp [f_is_bundle, p_is_bundle, isA, isBundleW] at hh ⊢
/-- the two brokers of a row -/
def rowKey : W → List Int
  | .tup (.v (.int a) :: .v (.int b) :: _) => [a, b]
  | _ => []
def areBundlesW (n : Int) : W → Bool
  | .lst ws => decide (ws.length ≤ 45) && ws.all (isBundleW n) && decide ((ws.map rowKey).Nodup)
  | _ => false
theorem bundle_ex {n : Int} {w : W} (h : isBundleW n w = true) : ∃ a b c : Int, w = .tup [.v (.int a), .v (.int b), .v (.int c)] ∧ 0 ≤ a ∧ a < b ∧ b ≤ n - 1 ∧ 1 ≤ c ∧ c ≤ 1000000000000000000 := by
  unfold isBundleW at h
  split at h
  next a b c =>
    simp only [Bool.and_eq_true] at h
    obtain ⟨⟨⟨h1, h2⟩, h3⟩, h4⟩ := h
    obtain ⟨c, rfl, _, _⟩ := betw_ex h1
    obtain ⟨a, rfl, _, _⟩ := betw_ex h2
    obtain ⟨b, rfl, _, _⟩ := betw_ex h3
    exact ⟨a, b, c, rfl, by assumption, by simpa [ltW] using h4, by assumption, by assumption, by assumption⟩
  next => cases h
theorem scL_map {α : Type} {g : TGQ} {tt : TTQ} {te : TQ} {vs : List Nat} {k : List D → List (List Int) → Prop} {ρ : List D} (enc : α → W) (f : α → List Int) : ∀ {xs : List α} {acc : List (List Int)}, (∀ x ∈ xs, ∀ acc ws', qScL g tt te vs k (enc x :: ws') ρ acc = qScL g tt te vs k ws' ρ (acc ++ [f x])) → qScL g tt te vs k (xs.map enc) ρ acc = k ρ (acc ++ xs.map f)
  | [], acc, _ => by simp
  | x :: xs, acc, h => by
    rw [List.map_cons, h x List.mem_cons_self, scL_map enc f fun y hy => h y (List.mem_cons_of_mem _ hy), List.append_assoc]
    rfl
theorem cutW_2 {α : Type} (a b : α) (xs : List α) : cutW (a :: b :: xs) none (some 2) = [a, b] := by
  simp [cutW, HT.sIx]
theorem f_are_bundles_eq {A : Ad} {w : W} {n : Int} {Q : D → Prop} (h : tydL 2 w) : f_are_bundles A [w, .v (.int n)] Q = Q (.bl (areBundlesW n w)) := by
  obtain ⟨h0, h1⟩ := h
  have hh := h0
  unfold tyd at hh
  cases w with
  | lst ws =>
    have lc : ∀ k, qLcL (gqName 2) qYes (p_are_bundles_e0 A) [2] k ws [.sh (.lst ws), .sh (.v (.int n)), .un] [] = k [.sh (.lst ws), .sh (.v (.int n)), .un] (ws.map fun x => W.v (.bl (isBundleW n x))) := fun k => by
      have := lcL_map (k := k) (g := gqName 2) (tt := qYes) (te := p_are_bundles_e0 A) (vs := [2]) (ρ := [.sh (.lst ws), .sh (.v (.int n)), .un]) (fun w => w) (fun x => W.v (.bl (isBundleW n x))) (xs := ws) (acc := []) fun x hx acc ws' => by
        simp [p_are_bundles_e0, f_is_bundle_eq (h1 x hx)]
      rwa [map_id] at this
    simp [f_are_bundles, p_are_bundles, isA, areBundlesW]
    by_cases h45 : ws.length ≤ 45
    · rw [if_neg (by omega), lc]
      simp [h45, all_map]
      cases hb : ws.all (isBundleW n) with
      | false =>
        have hx : ∃ a, a ∈ ws ∧ isBundleW n a = false := by
          rw [List.all_eq_false] at hb
          obtain ⟨x, h1, h2⟩ := hb
          exact ⟨x, h1, by simpa using h2⟩
        rw [if_pos hx]
        simp
        omega
      | true =>
        rw [List.all_eq_true] at hb
        have sc : ∀ k, qScL (gqName 2) qYes (p_are_bundles_e1 A) [2] k ws [.sh (.lst ws), .sh (.v (.int n)), .un] [] = k [.sh (.lst ws), .sh (.v (.int n)), .un] (ws.map rowKey) := fun k => by
          have := scL_map (k := k) (g := gqName 2) (tt := qYes) (te := p_are_bundles_e1 A) (vs := [2]) (ρ := [.sh (.lst ws), .sh (.v (.int n)), .un]) (fun w => w) rowKey (xs := ws) (acc := []) fun x hx acc ws' => by
            obtain ⟨a, b, c, rfl, _⟩ := bundle_ex (hb x hx)
            simp [p_are_bundles_e1, cutW_2, rowKey]
          rwa [map_id] at this
        rw [if_neg (fun ⟨a, h1, h2⟩ => by rw [hb a h1] at h2; cases h2), sc]
        have e : ((ndiff (ws.map rowKey) : Int) = (ws.length : Int)) ↔ (ws.map rowKey).Nodup := by
          rw [← ndiff_eq, List.length_map]
          omega
        have h62 : ws.length ≤ 62 := by omega
        have hbig : ws.length ≤ 100000 := by omega
        simp [e, h62, hbig]
    · rw [if_pos (by omega)]
      simp [h45]
  | v x => cases x <;> simp [f_are_bundles, p_are_bundles, isA, areBundlesW] at hh ⊢
  | _ => simp [f_are_bundles, p_are_bundles, isA, areBundlesW] at hh ⊢
end R

/-! ## L3: a Cluster without a heap -/
namespace R
open PySem PySem.Spec PyProof.Rows L2 G
theorem nodup_of_map {α β : Type} {f : α → β} : ∀ {l : List α}, (l.map f).Nodup → l.Nodup
  | [], _ => List.nodup_nil
  | a :: l, h => by
    rw [List.map_cons, List.nodup_cons] at h
    exact List.nodup_cons.mpr ⟨fun z => h.1 (List.mem_map_of_mem z), nodup_of_map h.2⟩
theorem nodup_map {α β : Type} {f : α → β} (hf : ∀ a b, f a = f b → a = b) {l : List α} (h : l.Nodup) : (l.map f).Nodup := List.Pairwise.map f (fun a b n z => n (hf a b z)) h
def bunW (t : Bun) : W := .tup [.v (.int t.1), .v (.int t.2.1), .v (.int t.2.2)]
def bndW (c : Bnd) : W := .tup [.v (.int c.1), .v (.int c.2)]
def intW (i : Int) : W := .v (.int i)
abbrev clF : List Str := ["limits", "rows", "numbers"]
def kK (t : Bun) : List Key := [.inl t.1, .inl t.2.1]
def clW (A : Ad) (bs : List Bun) (cs : List Bnd) : W := .obj A.Cluster clF [.lst (cs.map bndW), .lst (bs.map bunW), .dit (bs.map kK) (numW bs.length)]
structure ClOk (bs : List Bun) (cs : List Bnd) : Prop where
  bnds : areBoundsW (.lst (cs.map bndW)) = true
  buns : areBundlesW (cs.length : Int) (.lst (bs.map bunW)) = true
theorem tyd_bnds (cs : List Bnd) : tydL 2 (.lst (cs.map bndW)) := by
  refine ⟨rfl, fun x hx => ?_⟩
  obtain ⟨c, _, rfl⟩ := List.mem_map.mp hx
  refine ⟨rfl, fun y hy => ?_⟩
  have : y = .v (.int c.1) ∨ y = .v (.int c.2) := by simpa using hy
  rcases this with rfl | rfl <;> rfl
theorem tyd_buns (bs : List Bun) : tydL 2 (.lst (bs.map bunW)) := by
  refine ⟨rfl, fun x hx => ?_⟩
  obtain ⟨t, _, rfl⟩ := List.mem_map.mp hx
  refine ⟨rfl, fun y hy => ?_⟩
  have : y = .v (.int t.1) ∨ y = .v (.int t.2.1) ∨ y = .v (.int t.2.2) := by simpa using hy
  rcases this with rfl | rfl | rfl <;> rfl
theorem ClOk.nd {bs : List Bun} {cs : List Bnd} (h : ClOk bs cs) : (bs.map bkey).Nodup := by
  have q := h.buns
  simp only [areBundlesW, Bool.and_eq_true, decide_eq_true_eq, List.map_map] at q
  have e : (bs.map (rowKey ∘ bunW)) = (bs.map bkey).map fun p => [p.1, p.2] := by
    rw [List.map_map]; rfl
  rw [e] at q
  exact nodup_of_map q.2
theorem ClOk.each {bs : List Bun} {cs : List Bnd} (h : ClOk bs cs) : ∀ t ∈ bs, BunOk (cs.length : Int) t := fun t ht => by
  have q := h.buns
  simp only [areBundlesW, Bool.and_eq_true, decide_eq_true_eq, List.all_eq_true] at q
  obtain ⟨a, b, c, e, h1, h2, h3, h4, h5⟩ := bundle_ex (q.1.2 _ (List.mem_map_of_mem ht))
  unfold bunW at e
  injection e with e
  injection e with e1 e
  injection e with e2 e
  injection e with e3 _
  injection e1 with e1
  injection e1 with e1
  injection e2 with e2
  injection e2 with e2
  injection e3 with e3
  injection e3 with e3
  exact ⟨by omega, by omega, by omega, by omega, by omega⟩
theorem ClOk.len {bs : List Bun} {cs : List Bnd} (h : ClOk bs cs) : bs.length ≤ 45 ∧ 2 ≤ cs.length ∧ cs.length ≤ 10 := by
  have q := h.buns
  have r := h.bnds
  simp only [areBundlesW, areBoundsW, Bool.and_eq_true, decide_eq_true_eq, List.length_map] at q r
  exact ⟨q.1.1, r.1.1, r.1.2⟩
/-! ### the dict of a Cluster -/
theorem numW_succ (n : Nat) : numW (n + 1) = numW n ++ [.v (.int (n : Int))] := by
  simp [numW, List.range_succ]
theorem pairW_snoc (xs ys : List W) (x y : W) (h : xs.length = ys.length) : pairW (xs ++ [x]) (ys ++ [y]) = pairW xs ys ++ [.tup [x, y]] := by
  unfold pairW
  rw [List.zipWith_append h]
  rfl
theorem numW_len (n : Nat) : (numW n).length = n := by simp [numW]
theorem pairW_enum {α : Type} (f : α → W) (xs : List α) : pairW (numW xs.length) (xs.map f) = xs.zipIdx.map fun p => W.tup [.v (.int (p.2 : Int)), f p.1] := by
  apply List.ext_getElem?
  intro i
  simp only [pairW, List.getElem?_zipWith, List.getElem?_map, List.getElem?_zipIdx, numW]
  by_cases h : i < xs.length
  · simp [h]
  · simp [h]
theorem dcL_enum {g : TGQ} {tt : TTQ} {tk tv : TQ} {vs : List Nat} {k : List D → List (List Key) → List W → Prop} {ρ : List D} : ∀ (bs : List Bun) (n : Nat) (ks : List (List Key)) (acc : List W), acc.length = ks.length → (∀ t ∈ bs, kK t ∉ ks) → (bs.map kK).Nodup →
    (∀ t (i : Nat) ks acc ws', qDcL g tt tk tv vs k (.tup [.v (.int (i : Int)), bunW t] :: ws') ρ ks acc = qDcL g tt tk tv vs k ws' ρ (dput ks acc (kK t) (.v (.int (i : Int)))).1 (dput ks acc (kK t) (.v (.int (i : Int)))).2) →
    qDcL g tt tk tv vs k ((bs.zipIdx n).map fun p => W.tup [.v (.int (p.2 : Int)), bunW p.1]) ρ ks acc = k ρ (ks ++ bs.map kK) (acc ++ (List.range' n bs.length).map fun (i : Nat) => W.v (.int (i : Int)))
  | [], n, ks, acc, _, _, _, _ => by simp
  | t :: bs, n, ks, acc, hl, hn, nd, hs => by
    rw [List.zipIdx_cons, List.map_cons, hs]
    have h1 : kK t ∉ ks := hn t List.mem_cons_self
    have hd : dput ks acc (kK t) (W.v (.int (n : Int))) = (ks ++ [kK t], acc ++ [.v (.int (n : Int))]) := by unfold dput; rw [if_neg h1]
    rw [hd, List.map_cons, List.nodup_cons] at *
    rw [dcL_enum bs (n + 1) _ _ (by simp [hl]) (fun s hs' => ?_) nd.2 hs]
    · simp [List.range'_succ]
    · simp only [List.mem_append, List.mem_singleton, not_or]
      exact ⟨hn s (List.mem_cons_of_mem _ hs'), fun e => nd.1 (by rw [← e]; exact List.mem_map_of_mem hs')⟩
theorem kK_nd {bs : List Bun} (h : (bs.map bkey).Nodup) : (bs.map kK).Nodup := by
  have e : bs.map kK = (bs.map bkey).map fun p => [(Sum.inl p.1 : Key), .inl p.2] := by rw [List.map_map]; rfl
  rw [e]
  exact nodup_map (fun p q z => by cases p; cases q; simpa using z) h
theorem str_rl : (["limits"] : List Str).contains "rows" = false := by decide +kernel
theorem str_nl : (["limits", "rows"] : List Str).contains "numbers" = false := by decide +kernel
theorem f_init_eq {A : Ad} {bs : List Bun} {cs : List Bnd} {Q : List Str → List W → Prop} (h : ClOk bs cs) : f_Clusteru_initu A [.lst (cs.map bndW), .lst (bs.map bunW)] Q = Q clF [.lst (cs.map bndW), .lst (bs.map bunW), .dit (bs.map kK) (numW bs.length)] := by
  have hb := h.bnds
  have hu := h.buns
  have h45 := h.len.1
  have dc : ∀ k ρ, ρ = [.mobj A.Cluster ["limits", "rows"] [.lst (cs.map bndW), .lst (bs.map bunW)], .sh (.lst (cs.map bndW)), .sh (.lst (bs.map bunW)), .un, .un] → qDcL (gqTup 2 (gqCons (gqName 3) (gqCons (gqName 4) gqNil))) qYes (qSl (vVar 4) oNone (oPart (qC (.int 2)))) (qVar 3) [3, 4] k (bs.zipIdx.map fun p => W.tup [.v (.int (p.2 : Int)), bunW p.1]) ρ [] [] = k ρ (bs.map kK) (numW bs.length) := fun k ρ e => by
    subst e
    rw [dcL_enum bs 0 [] [] rfl (by simp) (kK_nd h.nd) fun t i ks acc ws' => by simp [bunW, cutW_2, kK]]
    simp [numW, List.range_eq_range']
  simp [f_Clusteru_initu, p_Clusteru_initu, f_are_bounds_eq (tyd_bnds cs), f_are_bundles_eq (tyd_buns bs), hb, hu, -List.map_map]
  rw [pairW_enum, dc _ _ rfl]
  have n1 : ¬ (("rows" : Str) = "limits") := by decide +kernel
  have n2 : ¬ (("numbers" : Str) = "limits") := by decide +kernel
  have n3 : ¬ (("numbers" : Str) = "rows") := by decide +kernel
  have hbig : bs.length ≤ 100000 := by omega
  simp [n1, n2, n3, hbig]
end R

/-! ## L4: a Cluster's methods -/
namespace R
open PySem PySem.Spec PyProof.Rows L2 G
@[simp] theorem ofString_inj (a b : String) : (Str.ofString a = Str.ofString b) = (a = b) := by
  refine propext ⟨fun h => ?_, fun h => by rw [h]⟩
  rw [Str.ofString_eq_toList, Str.ofString_eq_toList] at h
  injection h with h
  have h2 : a.toList.map Char.toNat = b.toList.map Char.toNat := by simpa using h
  have h3 : a.toList = b.toList := by
    have key : ∀ (l m : List Char), l.map Char.toNat = m.map Char.toNat → l = m := fun l => by
      induction l with
      | nil => intro m h; cases m with | nil => rfl | cons => cases h
      | cons c l ih =>
        intro m h
        cases m with
        | nil => cases h
        | cons d m =>
          rw [List.map_cons, List.map_cons] at h
          injection h with h1 h2
          have : c = d := by
            apply Char.ext
            exact UInt32.toNat.inj h1
          rw [this, ih m h2]
    exact key _ _ h2
  exact String.toList_inj.mp h3
@[simp] theorem lk_cons (k a : Str) (b : W) (l : List (Str × W)) : ((a, b) :: l).lookup k = if k = a then some b else l.lookup k := by
  rw [List.lookup_cons]
  by_cases h : k = a
  · rw [if_pos h, beq_iff_eq.mpr h]
  · rw [if_neg h, beq_eq_false_iff_ne.mpr h]
theorem f_size_eq {A : Ad} {bs : List Bun} {cs : List Bnd} {Q : D → Prop} : f_Cluster_size A [clW A bs cs] Q = Q (.int (cs.length : Int)) := by
  simp [f_Cluster_size, p_Cluster_size, clW]
theorem f_bundles_eq {A : Ad} {bs : List Bun} {cs : List Bnd} {Q : D → Prop} : f_Cluster_bundles A [clW A bs cs] Q = Q (.lst (bs.map bunW)) := by
  simp [f_Cluster_bundles, p_Cluster_bundles, clW]
theorem f_floor_eq {A : Ad} {bs : List Bun} {cs : List Bnd} {i : Int} {c : Bnd} {Q : D → Prop} (h0 : 0 ≤ i) (hc : cs[i.toNat]? = some c) : f_Cluster_floor A [clW A bs cs, .v (.int i)] Q = Q (.int c.1) := by
  have hl : i < (cs.length : Int) := by have := (List.getElem?_eq_some_iff.mp hc).1; omega
  simp [f_Cluster_floor, p_Cluster_floor, clW, atI, ixN, h0, hl, bndW, (List.getElem?_eq_some_iff.mp hc).2]
theorem f_ceiling_eq {A : Ad} {bs : List Bun} {cs : List Bnd} {i : Int} {c : Bnd} {Q : D → Prop} (h0 : 0 ≤ i) (hc : cs[i.toNat]? = some c) : f_Cluster_ceiling A [clW A bs cs, .v (.int i)] Q = Q (.int c.2) := by
  have hl : i < (cs.length : Int) := by have := (List.getElem?_eq_some_iff.mp hc).1; omega
  simp [f_Cluster_ceiling, p_Cluster_ceiling, clW, atI, ixN, h0, hl, bndW, (List.getElem?_eq_some_iff.mp hc).2]
theorem dval_idx : ∀ (bs : List Bun) (n : Nat) (f s : Int), dval (bs.map kK) ((List.range' n bs.length).map fun (i : Nat) => W.v (.int (i : Int))) [.inl f, .inl s] = (idx bs f s).map fun i => W.v (.int ((n + i : Nat) : Int))
  | [], n, f, s => by simp [dval, idx]
  | t :: bs, n, f, s => by
    rw [List.map_cons, List.length_cons, List.range'_succ, List.map_cons, dval_cons, dval_idx bs (n + 1)]
    unfold idx
    rw [List.findIdx?_cons]
    by_cases h : t.1 = f ∧ t.2.1 = s
    · obtain ⟨rfl, rfl⟩ := h
      simp [kK]
    · have h1 : ¬ kK t = [.inl f, .inl s] := by simpa [kK] using h
      have h2 : (t.1 == f && t.2.1 == s) = false := by
        rw [Bool.and_eq_false_iff]
        simp only [beq_eq_false_iff_ne]
        by_cases e : t.1 = f
        · exact .inr fun z => h ⟨e, z⟩
        · exact .inl e
      rw [if_neg h1, h2]
      simp only [Bool.false_eq_true, if_false, Option.map_map]
      congr 1
      funext i
      simp
      omega
theorem dval_num (bs : List Bun) (f s : Int) : dval (bs.map kK) (numW bs.length) [.inl f, .inl s] = (idx bs f s).map fun (i : Nat) => W.v (.int (i : Int)) := by
  have := dval_idx bs 0 f s
  simp only [Nat.zero_add] at this
  rw [← this, numW, List.range_eq_range']
/-- the number of a bundle, or None -/
def numD : Option Nat → D
  | some n => .int (n : Int)
  | none => .non
theorem f_bundle_of_eq {A : Ad} {bs : List Bun} {cs : List Bnd} {i j : Int} {Q : D → Prop} : f_Cluster_bundle_of A [clW A bs cs, .v (.int i), .v (.int j)] Q = Q (numD (idx bs (min i j) (max i j))) := by
  simp [f_Cluster_bundle_of, p_Cluster_bundle_of, clW, numW_len, dval_num]
  cases idx bs (min i j) (max i j) <;> rfl
end R

/-! ## L5: loads, led, first_invalid -/
namespace R
open PySem PySem.Spec PyProof.Rows L2 G
abbrev iW (ms : List Int) : List W := ms.map fun m => W.v (.int m)
@[simp ↓] theorem isObj_cl (A : Ad) (m : String) (bs : List Bun) (cs : List Bnd) (k : Prop) : isObj A.Cluster (Str.ofString m) (clW A bs cs) k = ((¬ m = "limits" ∧ ¬ m = "rows" ∧ ¬ m = "numbers") ∧ k) := by
  simp [clW]
theorem ldAll_fold : ∀ (ms : List Int) (bs : List Bun) (acc : List Int), ldAll acc ms bs = (ms.zip bs).foldl (fun a p => ld a p.1 p.2) acc
  | [], bs, acc => by simp [ldAll]
  | m :: ms, [], acc => by simp [ldAll]
  | m :: ms, t :: bs, acc => by rw [ldAll, ldAll_fold ms bs]; rfl
theorem pairW_zip {α β : Type} (f : α → W) (g : β → W) (xs : List α) (ys : List β) : pairW (xs.map f) (ys.map g) = (xs.zip ys).map fun p => W.tup [f p.1, g p.2] := by
  unfold pairW
  rw [List.zipWith_map_left, List.zipWith_map_right, List.zip, List.map_zipWith]
theorem get_getD {l : List Int} {n : Nat} (h : n < l.length) : l[n]? = some (l.getD n 0) := by
  rw [List.getD_eq_getElem?_getD, List.getElem?_eq_getElem h]; rfl
/-- a loop that carries a state, E.nx told of the end -/
theorem loop_fold' {α S : Type} {g : TGQ} {b : TSQ} {E : EQ} (enc : α → W) (R : S → List D) (st : S → α → S) (I : S → Prop) {xs : List α} {s : S} {Z : Prop} (hi : I s) (h : ∀ x ∈ xs, ∀ s, I s → I (st s x) ∧ ∀ ws', qLoop g b E (enc x :: ws') (R s) = qLoop g b E ws' (R (st s x))) (hz : E.nx (R (xs.foldl st s)) = Z) : qLoop g b E (xs.map enc) (R s) = Z := by
  rw [loop_fold enc R st I hi h, hz]
theorem foldl_fst {α S T : Type} (f : S → α → S) (g : S × T → α → S × T) (hg : ∀ p x, (g p x).1 = f p.1 x) : ∀ (xs : List α) (p : S × T), (xs.foldl g p).1 = xs.foldl f p.1
  | [], p => rfl
  | x :: xs, p => by rw [List.foldl_cons, List.foldl_cons, foldl_fst f g hg, hg]
theorem f_loads_eq {A : Ad} {bs : List Bun} {cs : List Bnd} {ms : List Int} {t : Bool} {Q : D → Prop} (h : ∀ t ∈ bs, BunOk (cs.length : Int) t) (hc : cs.length ≤ 1000) (hl : ms.length = bs.length) :
    f_loads A [clW A bs cs, if t then .tup (iW ms) else .lst (iW ms)] Q = Q (.lst (iW (loadsP cs.length ms bs))) := by
  obtain ⟨w, hw, hs⟩ : ∃ w, (if t then W.tup (iW ms) else .lst (iW ms)) = w ∧ ∀ k, seqW w k = k (iW ms) := ⟨_, rfl, fun k => by cases t <;> simp⟩
  rw [hw]
  have lp : ∀ (E : EQ) Z, (∀ d : D × D × D × D, E.nx [.sh (clW A bs cs), .sh w, .lst (iW (loadsP cs.length ms bs)), d.1, d.2.1, d.2.2.1, d.2.2.2] = Z) → qLoop (p_loads_g0 A) (p_loads_b0 A) E ((ms.zip bs).map fun p => W.tup [.v (.int p.1), bunW p.2]) [.sh (clW A bs cs), .sh w, .lst (List.replicate cs.length (.v (.int 0))), .un, .un, .un, .un] = Z := fun E Z hE => by
    have e0 : List.replicate cs.length (W.v (.int 0)) = iW (List.replicate cs.length 0) := by simp
    rw [e0]
    refine loop_fold' (S := List Int × (D × D × D × D)) (fun p : Int × Bun => W.tup [.v (.int p.1), bunW p.2]) (fun s => [.sh (clW A bs cs), .sh w, .lst (iW s.1), s.2.1, s.2.2.1, s.2.2.2.1, s.2.2.2.2]) (fun s p => (ld s.1 p.1 p.2, .int p.1, .int p.2.1, .int p.2.2.1, .int p.2.2.2)) (fun s => s.1.length = cs.length) (s := (List.replicate cs.length 0, .un, .un, .un, .un)) (by simp) (fun p hp s hs => ⟨by rw [ld_len]; exact hs, fun ws' => ?_⟩) ?_
    · obtain ⟨m, t⟩ := p
      obtain ⟨acc, d1, d2, d3, d4⟩ := s
      have ob := h t (List.of_mem_zip hp).2
      have f0 := ob.f0
      have fs := ob.fs
      have sn := ob.sn
      have hs' : acc.length = cs.length := hs
      obtain ⟨x, hx⟩ : ∃ x, acc[t.1.toNat]? = some x := ⟨_, List.getElem?_eq_getElem (by omega)⟩
      obtain ⟨y, hy⟩ : ∃ y, acc[t.2.1.toNat]? = some y := ⟨_, List.getElem?_eq_getElem (by omega)⟩
      have i1 := ixN_nat (n := acc.length) f0 (by omega)
      have i2 := ixN_nat (n := acc.length) (k := t.2.1) (by omega) (by omega)
      have ne : t.1.toNat ≠ t.2.1.toNat := by omega
      have f1 : 0 ≤ t.2.1 := by omega
      have el : ld acc m t = (acc.set t.1.toNat (x + m)).set t.2.1.toNat (y + (t.2.2 - m)) := by
        unfold G.ld ld1
        rw [getD_set_ne ne, List.getD_eq_getElem?_getD, List.getD_eq_getElem?_getD, hx, hy]
        congr 1
        show y + t.2.2 - m = _
        omega
      simp [p_loads_g0, p_loads_b0, bunW, hx, hy, i1, i2, f0, f1, el, List.getElem?_set_ne ne, List.map_set]
    · rw [← hE ((ms.zip bs).foldl (fun s p => (ld s.1 p.1 p.2, D.int p.1, D.int p.2.1, D.int p.2.2.1, D.int p.2.2.2)) (List.replicate cs.length 0, D.un, D.un, D.un, D.un)).2]
      rw [loadsP, ldAll_fold, foldl_fst (fun a p => ld a p.1 p.2) _ (fun _ _ => rfl)]
  have hc' : (cs.length : Int) ≤ 100000 ∧ cs.length ≤ 100000 := by omega
  simp [f_loads, p_loads, f_size_eq, f_bundles_eq, hs, pairW_zip, hc']
  exact Eq.to_iff (lp _ _ fun d => by simp)
end R

/-! ## L6: led, first_invalid, moved, spares, is_legal -/
namespace R
open PySem PySem.Spec PyProof.Rows L2 G
def ledQ (bs : List Bun) (ms : List Int) (i j : Int) : Int := match idx bs (min i j) (max i j) with
  | none => 0
  | some n => if i < j then ms.getD n 0 else (bs.getD n (0, 0, 0)).2.2 - ms.getD n 0
theorem idx_lt' {bs : List Bun} {f s : Int} {n : Nat} (h : idx bs f s = some n) : n < bs.length := idx_lt h
theorem atI_at {α : Type} {xs : List α} {n : Nat} {x : α} (h : xs[n]? = some x) : atI xs (n : Int) = some x := by
  have hl := get_lt h
  unfold atI
  rw [ixN_nat (by omega) (by omega)]
  simpa using h
theorem f_led_eq {A : Ad} {bs : List Bun} {cs : List Bnd} {ms : List Int} {i j : Int} {Q : D → Prop} (hl : ms.length = bs.length) : f_led A [clW A bs cs, .tup (iW ms), .v (.int i), .v (.int j)] Q = Q (.int (ledQ bs ms i j)) := by
  unfold ledQ
  cases e : idx bs (min i j) (max i j) with
  | none => simp [f_led, p_led, f_bundle_of_eq, e, numD]
  | some n =>
    have hn := idx_lt e
    obtain ⟨t, ht⟩ : ∃ t, bs[n]? = some t := ⟨_, List.getElem?_eq_getElem hn⟩
    obtain ⟨m, hm⟩ : ∃ m, ms[n]? = some m := ⟨_, List.getElem?_eq_getElem (by omega)⟩
    have a1 : atI (iW ms) (n : Int) = some (.v (.int m)) := atI_at (by simp [hm])
    have a2 : atI (bs.map bunW) (n : Int) = some (bunW t) := atI_at (by simp [ht])
    have e1 : ms.getD n 0 = m := by rw [List.getD_eq_getElem?_getD, hm]; rfl
    have e2 : bs.getD n (0, 0, 0) = t := by rw [List.getD_eq_getElem?_getD, ht]; rfl
    simp only [e1, e2]
    simp [f_led, p_led, f_bundle_of_eq, f_bundles_eq, e, numD, a1, a2]
    by_cases hij : i < j
    · simp [hij]
    · simp [hij, bunW, atI, ixN]
def withinB (c : Bnd) (x : Int) : Bool := decide (c.1 ≤ x) && decide (x ≤ c.2)
/-- the first load that is out of its bounds -/
def firstQ (cs : List Bnd) (hs : List Int) : Option Nat := (cs.zip hs).findIdx? fun p => !withinB p.1 p.2
/-- a loop that looks for something -/
theorem loop_find {α S : Type} {g : TGQ} {b : TSQ} {E : EQ} (enc : α → W) (R : S → List D) (st : S → α → S) (f : α → Option D) : ∀ {xs : List α} (s : S), (∀ x ∈ xs, ∀ s ws', qLoop g b E (enc x :: ws') (R s) = (match f x with | some d => E.rt d | none => qLoop g b E ws' (R (st s x)))) → ∃ s', qLoop g b E (xs.map enc) (R s) = (match xs.findSome? f with | some d => E.rt d | none => E.nx (R s'))
  | [], s, _ => ⟨s, by simp⟩
  | x :: xs, s, h => by
    obtain ⟨s', q⟩ := loop_find enc R st f (xs := xs) (st s x) fun y hy => h y (List.mem_cons_of_mem _ hy)
    refine ⟨s', ?_⟩
    rw [List.map_cons, h x List.mem_cons_self, List.findSome?_cons]
    cases f x with
    | none => exact q
    | some d => rfl
def optN : Option Nat → D
  | some n => .int (n : Int)
  | none => .non
theorem findSome_zipIdx {α β : Type} (p : α → Nat → Bool) (h : Nat → β) : ∀ (xs : List α) (n : Nat), (xs.zipIdx n).findSome? (fun q => if p q.1 q.2 then none else some (h q.2)) = ((xs.zipIdx n).findIdx? fun q => !p q.1 q.2).map fun i => h (n + i)
  | [], n => rfl
  | x :: xs, n => by
    rw [List.zipIdx_cons, List.findSome?_cons, List.findIdx?_cons, findSome_zipIdx p h xs (n + 1)]
    cases e : p x n with
    | false => simp [e]
    | true =>
      simp only [e, if_true, Bool.not_true, if_false, Option.map_map, Bool.false_eq_true]
      congr 1
      funext i
      simp only [Function.comp]
      congr 1
      omega
theorem findIdx_zip {cs : List Bnd} {hs : List Int} : ∀ (n : Nat), (∀ (i : Nat), i < hs.length → n + i < cs.length) → ((hs.zipIdx n).findIdx? fun q => !withinB (cs.getD q.2 (0, 0)) q.1) = ((cs.drop n).zip hs).findIdx? fun p => !withinB p.1 p.2 := by
  induction hs with
  | nil => intro n _; simp
  | cons x hs ih =>
    intro n hn
    have h0 := hn 0 (by simp)
    rw [List.zipIdx_cons, List.drop_eq_getElem_cons (by omega), List.zip_cons_cons, List.findIdx?_cons, List.findIdx?_cons, ih (n + 1) (fun i hi => by have := hn (i + 1) (by simp; omega); omega)]
    have e : cs.getD n (0, 0) = cs[n]'(by omega) := by rw [List.getD_eq_getElem?_getD, List.getElem?_eq_getElem (by omega)]; rfl
    simp only [e]
theorem f_first_eq {A : Ad} {bs : List Bun} {cs : List Bnd} {ms : List Int} {t : Bool} {Q : D → Prop} (h : ∀ t ∈ bs, BunOk (cs.length : Int) t) (hc : cs.length ≤ 1000) (hl : ms.length = bs.length) :
    f_first_invalid A [clW A bs cs, if t then .tup (iW ms) else .lst (iW ms)] Q = Q (optN (firstQ cs (loadsP cs.length ms bs))) := by
  generalize hw : (if t then W.tup (iW ms) else W.lst (iW ms)) = w
  have fl : ∀ Q, f_loads A [clW A bs cs, w] Q = Q (.lst (iW (loadsP cs.length ms bs))) := fun Q => by rw [← hw]; exact f_loads_eq h hc hl
  have hlen : (loadsP cs.length ms bs).length = cs.length := loadsP_len _ _ _
  simp [f_first_invalid, p_first_invalid, fl]
  rw [← List.length_map (as := loadsP cs.length ms bs) (fun m => W.v (V.int m)), List.length_map, pairW_enum]
  obtain ⟨s', q⟩ := loop_find (S := D × D) (E := { nx := sRet (qC V.non) { nx := fun x => Q D.non, rt := Q }, rt := Q }) (g := p_first_invalid_g0 A) (b := p_first_invalid_b0 A) (fun p : Int × Nat => W.tup [.v (.int (p.2 : Int)), .v (.int p.1)]) (fun s => [.sh (clW A bs cs), .sh w, s.1, s.2]) (fun s p => (.int (p.2 : Int), .int p.1)) (fun q => if withinB (cs.getD q.2 (0, 0)) q.1 then none else some (.int (q.2 : Int))) (xs := (loadsP cs.length ms bs).zipIdx) (.un, .un) fun p hp s ws' => by
    obtain ⟨x, n⟩ := p
    have hn : n < cs.length := by
      have := (List.mem_zipIdx hp).2.1
      rw [← hlen]; omega
    obtain ⟨c, hc⟩ : ∃ c, cs[n]? = some c := ⟨_, List.getElem?_eq_getElem hn⟩
    have e : cs.getD n (0, 0) = c := by rw [List.getD_eq_getElem?_getD, hc]; rfl
    have hc' : cs[((n : Int)).toNat]? = some c := by simpa using hc
    simp only [e]
    simp [p_first_invalid_g0, p_first_invalid_b0, f_floor_eq (i := (n : Int)) (by omega) hc', f_ceiling_eq (i := (n : Int)) (by omega) hc', withinB]
    by_cases h1 : c.1 ≤ x
    · by_cases h2 : x ≤ c.2
      · simp [h1, h2]
      · simp [h1, h2]
    · simp [h1]
  refine Eq.to_iff (q.trans ?_)
  rw [findSome_zipIdx (fun (x : Int) (n : Nat) => withinB (cs.getD n (0, 0)) x) (fun n => D.int (n : Int)), findIdx_zip 0 (fun i hi => by omega), List.drop_zero]
  unfold firstQ
  cases ((cs.zip (loadsP cs.length ms bs)).findIdx? fun p => !withinB p.1 p.2) with
  | none => simp [optN]
  | some k => simp [optN]
end R

/-! ## L7: moved, spares, is_legal -/
namespace R
open PySem PySem.Spec PyProof.Rows L2 G
theorem cutW_to {α : Type} (xs : List α) (n : Nat) : cutW xs none (some (n : Int)) = xs.take n := by
  unfold cutW
  rw [HT.sIx_none, HT.sIx_nat, List.drop_zero, Nat.sub_zero]
  by_cases h : n ≤ xs.length
  · rw [Nat.min_eq_left h]
  · rw [Nat.min_eq_right (by omega), List.take_of_length_le (Nat.le_refl _), List.take_of_length_le (by omega)]
theorem cutW_from {α : Type} (xs : List α) (n : Nat) : cutW xs (some (n : Int)) none = xs.drop n := by
  unfold cutW
  rw [HT.sIx_none, HT.sIx_nat]
  by_cases h : n ≤ xs.length
  · rw [Nat.min_eq_left h, List.take_of_length_le (by rw [List.length_drop]; exact Nat.le_refl _)]
  · rw [Nat.min_eq_right (by omega), List.drop_of_length_le (Nat.le_refl _), List.drop_of_length_le (by omega), List.take_nil]
def chg (i j k : Int) : Int := if i < j then -k else k
def movedQ (ms : List Int) (n : Nat) (i j k : Int) : List Int := ms.set n (ms.getD n 0 + chg i j k)
theorem f_moved_eq {A : Ad} {bs : List Bun} {cs : List Bnd} {ms : List Int} {i j k : Int} {n : Nat} {Q : D → Prop} (hl : ms.length = bs.length) (h45 : bs.length ≤ 1000) (hn : idx bs (min i j) (max i j) = some n) :
    f_moved A [clW A bs cs, .tup (iW ms), .tup [.v (.int i), .v (.int j), .v (.int k)]] Q = Q (.sh (.tup (iW (movedQ ms n i j k)))) := by
  have hlt := idx_lt hn
  obtain ⟨m, hm⟩ : ∃ m, ms[n]? = some m := ⟨_, List.getElem?_eq_getElem (by omega)⟩
  have a1 : atI (iW ms) (n : Int) = some (.v (.int m)) := atI_at (by simp [hm])
  have e1 : ms.getD n 0 = m := by rw [List.getD_eq_getElem?_getD, hm]; rfl
  have c1 := cutW_to (iW ms) n
  have c2 := cutW_from (iW ms) (n + 1)
  have e2 : ((n : Int) + 1) = ((n + 1 : Nat) : Int) := by omega
  have fin : ∀ x : Int, (iW ms).take n ++ [W.v (.int x)] ++ (iW ms).drop (n + 1) = iW (ms.set n x) := fun x => by
    show _ = List.map _ (ms.set n x)
    rw [List.map_set, List.set_eq_take_append_cons_drop, if_pos (by rw [List.length_map]; omega), List.append_assoc]
    rfl
  have e3 : iW (movedQ ms n i j k) = (iW ms).take n ++ [W.v (.int (m + chg i j k))] ++ (iW ms).drop (n + 1) := by
    unfold movedQ
    rw [e1, fin]
  have hwl : (iW ms).length = bs.length := by rw [List.length_map, hl]
  rw [e3]
  clear e3 fin hm e1
  generalize iW ms = ws at *
  unfold chg
  by_cases hij : i < j
  · simp [f_moved, p_moved, f_bundle_of_eq, hn, numD, hij, a1, c1, e2, c2, -Int.natCast_add]
    exact ⟨fun h => h.2.2, fun h => ⟨by omega, by omega, h⟩⟩
  · simp [f_moved, p_moved, f_bundle_of_eq, hn, numD, hij, a1, c1, e2, c2, -Int.natCast_add]
    exact ⟨fun h => h.2.2, fun h => ⟨by omega, by omega, h⟩⟩
/-- by how much more is allowed -/
def sparesQ (bs : List Bun) (cs : List Bnd) (ms : List Int) (i j k : Int) : List Int :=
  [ledQ bs ms i j - k, (loadsP cs.length ms bs).getD i.toNat 0 - (cs.getD i.toNat (0, 0)).1 - k, (cs.getD j.toNat (0, 0)).2 - (loadsP cs.length ms bs).getD j.toNat 0 - k]
theorem f_spares_eq {A : Ad} {bs : List Bun} {cs : List Bnd} {ms : List Int} {i j k : Int} {Q : D → Prop} (h : ∀ t ∈ bs, BunOk (cs.length : Int) t) (hc : cs.length ≤ 1000) (hl : ms.length = bs.length) (i0 : 0 ≤ i) (i1 : i < (cs.length : Int)) (j0 : 0 ≤ j) (j1 : j < (cs.length : Int)) :
    f_spares A [clW A bs cs, .tup (iW ms), .tup [.v (.int i), .v (.int j), .v (.int k)]] Q = Q (.lst (iW (sparesQ bs cs ms i j k))) := by
  have fl : ∀ Q, f_loads A [clW A bs cs, .tup (iW ms)] Q = Q (.lst (iW (loadsP cs.length ms bs))) := fun Q => f_loads_eq (t := true) h hc hl
  have hlen : (loadsP cs.length ms bs).length = cs.length := loadsP_len _ _ _
  unfold sparesQ
  generalize loadsP cs.length ms bs = hs at *
  obtain ⟨x, hx⟩ : ∃ x, hs[i.toNat]? = some x := ⟨_, List.getElem?_eq_getElem (by omega)⟩
  obtain ⟨y, hy⟩ : ∃ y, hs[j.toNat]? = some y := ⟨_, List.getElem?_eq_getElem (by omega)⟩
  obtain ⟨c, hcx⟩ : ∃ c, cs[i.toNat]? = some c := ⟨_, List.getElem?_eq_getElem (by omega)⟩
  obtain ⟨d, hdx⟩ : ∃ d, cs[j.toNat]? = some d := ⟨_, List.getElem?_eq_getElem (by omega)⟩
  have a1 : atI (iW hs) i = some (.v (.int x)) := by
    have := atI_at (xs := iW hs) (n := i.toNat) (x := W.v (.int x)) (by simp [hx])
    rwa [Int.toNat_of_nonneg i0] at this
  have a2 : atI (iW hs) j = some (.v (.int y)) := by
    have := atI_at (xs := iW hs) (n := j.toNat) (x := W.v (.int y)) (by simp [hy])
    rwa [Int.toNat_of_nonneg j0] at this
  have e1 : hs.getD i.toNat 0 = x := by rw [List.getD_eq_getElem?_getD, hx]; rfl
  have e2 : hs.getD j.toNat 0 = y := by rw [List.getD_eq_getElem?_getD, hy]; rfl
  have e3 : cs.getD i.toNat (0, 0) = c := by rw [List.getD_eq_getElem?_getD, hcx]; rfl
  have e4 : cs.getD j.toNat (0, 0) = d := by rw [List.getD_eq_getElem?_getD, hdx]; rfl
  rw [e1, e2, e3, e4]
  simp [f_spares, p_spares, fl, a1, a2, f_floor_eq i0 hcx, f_ceiling_eq j0 hdx, f_led_eq hl]
/-- a switch is legal -/
def legalB (bs : List Bun) (cs : List Bnd) (ms : List Int) (i j : Int) : Bool := (sparesQ bs cs ms i j 1).all fun x => decide (0 ≤ x)
theorem f_is_legal_eq {A : Ad} {bs : List Bun} {cs : List Bnd} {ms : List Int} {i j : Int} {Q : D → Prop} (h : ∀ t ∈ bs, BunOk (cs.length : Int) t) (hc : cs.length ≤ 1000) (hl : ms.length = bs.length) (i0 : 0 ≤ i) (i1 : i < (cs.length : Int)) (j0 : 0 ≤ j) (j1 : j < (cs.length : Int)) :
    f_is_legal A [clW A bs cs, .tup (iW ms), .v (.int i), .v (.int j)] Q = Q (.bl (legalB bs cs ms i j)) := by
  have fs := @f_spares_eq A bs cs ms i j 1
  have hn : ∃ a b c, sparesQ bs cs ms i j 1 = [a, b, c] := ⟨_, _, _, rfl⟩
  unfold legalB
  obtain ⟨a, b, c, e⟩ := hn
  rw [e] at fs ⊢
  simp [f_is_legal, p_is_legal]
  rw [fs h hc hl i0 i1 j0 j1]
  simp
  have key : ∀ m : Int, m ≤ a → m ≤ b → m ≤ c → (m = a ∨ m = b ∨ m = c) → (decide (0 ≤ m)) = (decide (0 ≤ a) && (decide (0 ≤ b) && decide (0 ≤ c))) := by
    intro m h1 h2 h3 h4
    by_cases h0 : 0 ≤ m
    · rw [decide_eq_true h0, decide_eq_true (show 0 ≤ a by omega), decide_eq_true (show 0 ≤ b by omega), decide_eq_true (show 0 ≤ c by omega)]; rfl
    · rw [decide_eq_false h0]
      rcases h4 with rfl | rfl | rfl <;> simp [h0]
  constructor
  · intro ⟨p1, p2, p3⟩
    by_cases h1 : a ≤ b
    · by_cases h2 : a ≤ c
      · have := p1 h1 h2; rwa [key a (by omega) h1 h2 (.inl rfl)] at this
      · have := p3 (by omega) (by omega); rwa [key c (by omega) (by omega) (by omega) (.inr (.inr rfl))] at this
    · by_cases h2 : b ≤ c
      · have := p2 (by omega) (by omega); rwa [key b (by omega) (by omega) (by omega) (.inr (.inl rfl))] at this
      · have := p3 (by omega) (by omega); rwa [key c (by omega) (by omega) (by omega) (.inr (.inr rfl))] at this
  · intro q
    refine ⟨fun h1 h2 => ?_, fun h1 h2 => ?_, fun h1 h2 => ?_⟩
    · rw [key a (by omega) h1 h2 (.inl rfl)]; exact q
    · rw [key b h1 (by omega) h2 (.inr (.inl rfl))]; exact q
    · rw [key c h1 h2 (by omega) (.inr (.inr rfl))]; exact q
end R

/-! ## L8: the law's helpers -/
namespace R
open PySem PySem.Spec PyProof.Rows L2 G
/-- a thing of n levels whose text has B signs at most -/
structure Sh (n B : Nat) (w : W) : Prop where
  ok : w.ok n = true
  sm : Sm n B w.dat
theorem Sh.up {n m B C : Nat} {w : W} (h : Sh n B w) (a : n ≤ m) (b : B ≤ C) : Sh m C w := ⟨W.ok_up w n m h.ok a, h.sm.up a b⟩
theorem Sh.int {i : Int} (h : i.natAbs < 10 ^ 45) : Sh 0 46 (.v (.int i)) := ⟨rfl, Sm.int h⟩
theorem Sh.bl (b : Bool) : Sh 0 5 (.v (.bl b)) := ⟨rfl, Sm.bool b⟩
theorem Sh.non : Sh 0 5 (.v .non) := ⟨rfl, Sm.none⟩
theorem Sh.lst {n B m : Nat} {ws : List W} (h : ∀ w ∈ ws, Sh n B w) (hm : ws.length ≤ m) : Sh (n + 1) ((B + 2) * m + 3) (.lst ws) := by
  refine ⟨by rw [ok_lst, List.all_eq_true]; exact fun w hw => (h w hw).ok, ?_⟩
  rw [W.dat, datL_map]
  exact Sm.list (fun d hd => by obtain ⟨w, hw, rfl⟩ := List.mem_map.mp hd; exact (h w hw).sm) (by rw [List.length_map]; exact hm)
theorem Sh.tup {n B m : Nat} {ws : List W} (h : ∀ w ∈ ws, Sh n B w) (hm : ws.length ≤ m) : Sh (n + 1) ((B + 2) * m + 3) (.tup ws) := by
  refine ⟨by rw [ok_tup, List.all_eq_true]; exact fun w hw => (h w hw).ok, ?_⟩
  rw [W.dat, datL_map]
  exact Sm.tuple (fun d hd => by obtain ⟨w, hw, rfl⟩ := List.mem_map.mp hd; exact (h w hw).sm) (by rw [List.length_map]; exact hm)
theorem Sh.shows {n B : Nat} {w : W} (h : Sh n B w) (a : n ≤ 20) (b : B ≤ 1000000) : shows w := ⟨W.ok_up w n 20 h.ok a, h.sm.up (by omega) b⟩
theorem sh_ints {m : Nat} {is : List Int} (h : ∀ i ∈ is, i.natAbs < 10 ^ 45) (hm : is.length ≤ m) : Sh 1 (48 * m + 3) (.lst (iW is)) := Sh.lst (fun w hw => by obtain ⟨i, hi, rfl⟩ := List.mem_map.mp hw; exact Sh.int (h i hi)) (by rw [List.length_map]; exact hm)
theorem sh_intsT {m : Nat} {is : List Int} (h : ∀ i ∈ is, i.natAbs < 10 ^ 45) (hm : is.length ≤ m) : Sh 1 (48 * m + 3) (.tup (iW is)) := Sh.tup (fun w hw => by obtain ⟨i, hi, rfl⟩ := List.mem_map.mp hw; exact Sh.int (h i hi)) (by rw [List.length_map]; exact hm)
theorem f_alike_eq {A : Ad} {w : W} {Q : D → Prop} (h : shows w) : f__law_alike A [w, w] Q = Q (.bl true) := by
  have h1 := h.1
  simp [f__law_alike, p__law_alike, h1, h, eq_refl h1]
/-- a loop with something that stays true -/
theorem loop_inv {α : Type} {g : TGQ} {b : TSQ} {E : EQ} (enc : α → W) {xs : List α} (I : Nat → List D → Prop) {ρ : List D} (h0 : I 0 ρ) (st : ∀ (i : Nat) x ρ, xs[i]? = some x → I i ρ → ∀ T : List D → Prop, (∀ ρ', I (i + 1) ρ' → T ρ') → g (.sh (enc x)) ρ fun ρ1 => b { nx := T, ct := T, bk := E.nx, rt := E.rt } ρ1) (fin : ∀ ρ, I xs.length ρ → E.nx ρ) : qLoop g b E (xs.map enc) ρ := by
  have : ∀ (n : Nat) (i : Nat) ρ, i + n = xs.length → I i ρ → qLoop g b E ((xs.drop i).map enc) ρ := by
    intro n
    induction n with
    | zero =>
      intro i ρ h hi
      have e : i = xs.length := by omega
      subst e
      rw [List.drop_length]
      simpa using fin ρ hi
    | succ n ih =>
      intro i ρ h hi
      rw [List.drop_eq_getElem_cons (by omega), List.map_cons, qLoop_cons]
      exact st i _ ρ (List.getElem?_eq_getElem (by omega)) hi _ fun ρ' h' => ih (i + 1) ρ' (by omega) h'
  simpa using this xs.length 0 ρ (by omega) h0
theorem onW_pick {ws : List W} {v : Int} {k : W → Prop} {u : Dum k} (h0 : 0 ≤ v) (h1 : v < (ws.length : Int)) (h : ∀ w ∈ ws, k w) : onW (atI ws v) k u := by
  obtain ⟨w, hw⟩ : ∃ w, ws[v.toNat]? = some w := ⟨_, List.getElem?_eq_getElem (by omega)⟩
  have e := atI_at hw
  rw [Int.toNat_of_nonneg h0] at e
  rw [e, onW_some]
  exact h w (List.mem_of_getElem? hw)
theorem cpow18 : CPow 10 18 := by unfold CPow; decide
theorem cpow19 : CPow 10 19 := by unfold CPow; decide
theorem f_amount_of {A : Ad} {g : Bool} {Q : D → Prop} (h : ∀ p : Int, 1 ≤ p → p ≤ 1000000000000000000 → Q (.int p)) : f__law_amount A [.bag, .v (.bl g)] Q := by
  have tl : ∀ v : Int, 0 ≤ v → v < 3 → onW (atI [W.v (V.int 1), W.v (V.int 3), W.v (V.int 9)] v)
            (fun w =>
              lookD (D.sh w) fun w =>
                aNil (List.map D.sh [W.bag, W.v (V.bl g)] ++ []) fun ρ2 ws =>
                  f_take (W.bag :: w :: ws) fun d =>
                    lookD d fun w =>
                      look ρ2 (Sum.inr (W.v (V.int 1))) fun x => look ρ2 (Sum.inr w) fun y => oPlus x y fun d => Q d)
            ⟨⟩ := fun v v0 v1 => onW_pick v0 (by simpa using v1) fun w hw => by
    simp only [List.mem_cons, List.not_mem_nil, or_false] at hw
    rcases hw with rfl | rfl | rfl <;> simp <;> intro v h0 h1 <;> exact h _ (by omega) (by omega)
  simp [f__law_amount, p__law_amount]
  split
  · intro v v0 v1
    split
    · refine ⟨cpow18, fun a a0 a1 => ⟨cpow18, fun b b0 b1 x x0 x1 => onW_pick x0 (by simpa using x1) fun w hw => ?_⟩⟩
      simp only [List.mem_cons, List.not_mem_nil, or_false] at hw
      rcases hw with rfl | rfl <;> exact h _ (by omega) (by omega)
    · exact tl
  · exact tl
theorem loop_rng {g : TGQ} {b : TSQ} {E : EQ} {lo : Int} {n : Nat} (I : Nat → List D → Prop) {ρ : List D} (h0 : I 0 ρ) (st : ∀ (i : Nat) ρ, i < n → I i ρ → ∀ T : List D → Prop, (∀ ρ', I (i + 1) ρ' → T ρ') → g (.sh (W.v (.int (lo + (i : Int))))) ρ fun ρ1 => b { nx := T, ct := T, bk := E.nx, rt := E.rt } ρ1) (fin : ∀ ρ, I n ρ → E.nx ρ) : qLoop g b E (rngW lo n) ρ := by
  have := loop_inv (g := g) (b := b) (E := E) (fun i : Nat => W.v (.int (lo + (i : Int)))) (xs := List.range n) I h0 (fun i x ρ hx hi ws' k => by
    have hl := get_lt hx
    rw [List.length_range] at hl
    rw [List.getElem?_range hl] at hx
    cases hx
    exact st i ρ hl hi ws' k) (fun ρ h => fin ρ (by simpa using h))
  exact this
theorem f_bundles_of {A : Ad} {n : Int} {g : Bool} {Q : D → Prop} (n0 : 2 ≤ n) (n1 : n ≤ 10) (h : ∀ bs : List Bun, BunsOk n bs → bs ≠ [] → Q (.lst (bs.map bunW)) ∧ Q (.sh (.lst (bs.map bunW)))) : f__law_bundles A [.bag, .v (.int n), .v (.bl g)] Q := by
  simp [f__law_bundles, p__law_bundles]
  intro r r0 r1
  refine ⟨by omega, loop_rng (fun i ρ => ∃ bs x5 x6, ρ = [.sh .bag, .int n, .bl g, .int (1 + r), .lst (bs.map bunW), x5, x6] ∧ BunsTo n i 0 bs ∧ bs.length ≤ tri i) ⟨[], _, _, rfl, BunsTo.nil, Nat.le_refl _⟩ ?_ ?_⟩
  · rintro i _ hi ⟨bs, x5, x6, rfl, ho, hlen⟩ T k
    simp [p__law_bundles_g1, p__law_bundles_b1]
    refine ⟨by omega, loop_rng (fun j ρ => ∃ bs x6, ρ = [.sh .bag, .int n, .bl g, .int (1 + r), .lst (bs.map bunW), .int (i : Int), x6] ∧ BunsTo n i (i + 1 + (j : Int)) bs ∧ bs.length ≤ tri i + j) ⟨bs, _, rfl, ho.on (Or.inr ⟨by omega, by omega⟩), by omega⟩ ?_ ?_⟩
    · clear k
      rintro j _ hj ⟨bs, x6, rfl, ho, hlen⟩ T k
      have ht := tri45 i (by omega)
      simp [p__law_bundles_g0, p__law_bundles_b0]
      refine ⟨by omega, fun v v0 v1 => ?_⟩
      split
      · refine f_amount_of fun p p0 p1 => ?_
        simp
        refine ⟨by omega, k _ ⟨bs ++ [((i : Int), (i : Int) + 1 + (j : Int), p)], _, by rw [List.map_append]; rfl, ho.snoc ⟨by show (0 : Int) ≤ i; omega, by show (i : Int) < i + 1 + j; omega, by show (i : Int) + 1 + j < n; omega, p0, p1⟩ (by omega), by rw [List.length_append, List.length_singleton]; omega⟩⟩
      · exact k _ ⟨bs, _, rfl, ho.on (Or.inr ⟨rfl, by omega⟩), by omega⟩
    · rintro _ ⟨bs, x6, rfl, ho, hlen⟩
      refine k _ ⟨bs, _, _, rfl, ho.on (Or.inl (by omega)), ?_⟩
      show bs.length ≤ tri i + (9 - i)
      omega
  · rintro _ ⟨bs, x5, x6, rfl, ho, hlen⟩
    have ht := tri45 n.toNat (by omega)
    have ends : ∀ bs : List Bun, BunsOk n bs → bs ≠ [] → ∀ v : Int, (if v = 0 then Q (D.lst (bs.map bunW).reverse) else Q (D.sh (.lst (bs.map bunW)))) := fun bs ho hne v => by
      split
      · rw [← List.map_reverse]; exact (h _ ho.rev (by simpa using hne)).1
      · exact (h _ ho hne).2
    simp
    split
    · refine f_amount_of fun p p0 p1 => ?_
      simp
      intro v _ _
      refine ends [(0, 1, p)] ⟨n0, n1, by show 1 ≤ 45; decide, fun t ht => ?_, by simp⟩ (by simp) v
      rw [List.mem_singleton.mp ht]
      exact ⟨by show (0 : Int) ≤ 0; decide, by show (0 : Int) < 1; decide, by show 1 < n; omega, p0, p1⟩
    · rename_i hne
      exact fun v _ _ => ends bs ⟨n0, n1, by omega, ho.each, ho.nd⟩ hne v
theorem f_bounds_of {A : Ad} {hs : List Int} {Q : D → Prop} (hl : hs.length ≤ 1000) (hh : ∀ x ∈ hs, 0 ≤ x ∧ x ≤ 100000000000000000000) (h : ∀ cs : List Bnd, BndsAt cs hs → Q (.lst (cs.map bndW))) : f__law_bounds A [.bag, .lst (iW hs)] Q := by
  simp [f__law_bounds, p__law_bounds]
  refine loop_inv (fun x : Int => W.v (.int x)) (fun i ρ => ∃ cs x3 x4 x5, ρ = [.sh .bag, .sh (.lst (iW hs)), .lst (cs.map bndW), x3, x4, x5] ∧ BndsAt cs (hs.take i)) ⟨[], _, _, _, rfl, rfl, fun i c x h => by cases h⟩ ?_ ?_
  · rintro i x _ hx ⟨cs, x3, x4, x5, rfl, hc⟩ T k
    have hm := hh x (List.mem_of_getElem? hx)
    have hlen : cs.length ≤ 1000 := by rw [hc.1, List.length_take]; omega
    simp [p__law_bounds_g0, p__law_bounds_b0]
    intro v v0 v1 v' v0' v1'
    refine onW_pick v0' (by simpa using v1') fun w hw => ?_
    obtain ⟨un, rfl, u0⟩ : ∃ un : Int, w = .v (.int un) ∧ 0 ≤ un := by
      simp only [List.mem_cons, List.not_mem_nil, or_false] at hw
      rcases hw with rfl | rfl | rfl | rfl | rfl <;> exact ⟨_, rfl, by omega⟩
    simp
    refine fun a a0 a1 => ⟨cpow19, fun a' a0' a1' => onW_pick a0' (by simpa using a1') fun w hw => ?_⟩
    obtain ⟨ov, rfl, o0, o1⟩ : ∃ ov : Int, w = .v (.int ov) ∧ 0 ≤ ov ∧ ov ≤ 10000000000000000000 := by
      simp only [List.mem_cons, List.not_mem_nil, or_false] at hw
      rcases hw with rfl | rfl | rfl | rfl | rfl <;> exact ⟨_, rfl, by omega, by omega⟩
    simp
    refine ⟨by omega, k _ ⟨cs ++ [(max 0 (x - un), x + ov)], _, _, _, by rw [List.map_append]; rfl, hc.snoc hx ⟨by show 0 ≤ max 0 (x - un); omega, by show max 0 (x - un) ≤ x; omega, by show x ≤ x + ov; omega, by show x + ov ≤ 1000000000000000000000; omega⟩⟩⟩
  · rintro _ ⟨cs, x3, x4, x5, rfl, hc⟩
    rw [List.take_length] at hc
    simp
    exact h cs hc
theorem f_law_loads_eq {A : Ad} {bs : List Bun} {n : Nat} {ms : List Int} {t : Bool} {Q : D → Prop} (h : ∀ t ∈ bs, BunOk (n : Int) t) (hc : n ≤ 1000) (hl : ms.length = bs.length) :
    f__law_loads A [.v (.int (n : Int)), .lst (bs.map bunW), if t then .tup (iW ms) else .lst (iW ms)] Q = Q (.lst (iW (loadsP n ms bs))) := by
  obtain ⟨w, hw, hs⟩ : ∃ w, (if t then W.tup (iW ms) else .lst (iW ms)) = w ∧ ∀ k, seqW w k = k (iW ms) := ⟨_, rfl, fun k => by cases t <;> simp⟩
  rw [hw]
  have lp : ∀ (E : EQ) Z, (∀ d : D × D × D × D, E.nx [.int (n : Int), .sh (.lst (bs.map bunW)), .sh w, .lst (iW (loadsP n ms bs)), d.1, d.2.1, d.2.2.1, d.2.2.2] = Z) → qLoop (p__law_loads_g0 A) (p__law_loads_b0 A) E ((ms.zip bs).map fun p => W.tup [.v (.int p.1), bunW p.2]) [.int (n : Int), .sh (.lst (bs.map bunW)), .sh w, .lst (List.replicate n (.v (.int 0))), .un, .un, .un, .un] = Z := fun E Z hE => by
    have e0 : List.replicate n (W.v (.int 0)) = iW (List.replicate n 0) := by simp
    rw [e0]
    refine loop_fold' (S := List Int × (D × D × D × D)) (fun p : Int × Bun => W.tup [.v (.int p.1), bunW p.2]) (fun s => [.int (n : Int), .sh (.lst (bs.map bunW)), .sh w, .lst (iW s.1), s.2.1, s.2.2.1, s.2.2.2.1, s.2.2.2.2]) (fun s p => (ld s.1 p.1 p.2, .int p.1, .int p.2.1, .int p.2.2.1, .int p.2.2.2)) (fun s => s.1.length = n) (s := (List.replicate n 0, .un, .un, .un, .un)) (by simp) (fun p hp s hs => ⟨by rw [ld_len]; exact hs, fun ws' => ?_⟩) ?_
    · obtain ⟨m, t⟩ := p
      obtain ⟨acc, d1, d2, d3, d4⟩ := s
      have ob := h t (List.of_mem_zip hp).2
      have f0 := ob.f0
      have fs := ob.fs
      have sn := ob.sn
      have hs' : acc.length = n := hs
      obtain ⟨x, hx⟩ : ∃ x, acc[t.1.toNat]? = some x := ⟨_, List.getElem?_eq_getElem (by omega)⟩
      obtain ⟨y, hy⟩ : ∃ y, acc[t.2.1.toNat]? = some y := ⟨_, List.getElem?_eq_getElem (by omega)⟩
      have i1 := ixN_nat (n := acc.length) f0 (by omega)
      have i2 := ixN_nat (n := acc.length) (k := t.2.1) (by omega) (by omega)
      have ne : t.1.toNat ≠ t.2.1.toNat := by omega
      have f1 : 0 ≤ t.2.1 := by omega
      have el : ld acc m t = (acc.set t.1.toNat (x + m)).set t.2.1.toNat (y + t.2.2 - m) := by
        unfold G.ld ld1
        rw [getD_set_ne ne, List.getD_eq_getElem?_getD, List.getD_eq_getElem?_getD, hx, hy]
        rfl
      have a1 : atI (iW acc) t.1 = some (.v (.int x)) := by
        have := atI_at (xs := iW acc) (n := t.1.toNat) (x := W.v (.int x)) (by simp [hx])
        rwa [Int.toNat_of_nonneg f0] at this
      have a2 : ∀ z, atI ((iW acc).set t.1.toNat z) t.2.1 = some (.v (.int y)) := fun z => by
        have := atI_at (xs := (iW acc).set t.1.toNat z) (n := t.2.1.toNat) (x := W.v (.int y)) (by rw [List.getElem?_set_ne ne]; simp [hy])
        rwa [Int.toNat_of_nonneg f1] at this
      simp [p__law_loads_g0, p__law_loads_b0, bunW, a1, a2, i1, i2, el, List.map_set]
    · rw [← hE ((ms.zip bs).foldl (fun s p => (ld s.1 p.1 p.2, D.int p.1, D.int p.2.1, D.int p.2.2.1, D.int p.2.2.2)) (List.replicate n 0, D.un, D.un, D.un, D.un)).2]
      rw [loadsP, ldAll_fold, foldl_fst (fun a p => ld a p.1 p.2) _ (fun _ _ => rfl)]
  have hc' : (n : Int) ≤ 100000 ∧ n ≤ 100000 := by omega
  simp [f__law_loads, p__law_loads, hs, pairW_zip, hc']
  exact Eq.to_iff (lp _ _ fun d => by simp)
theorem f_net_of {A : Ad} {m : Int} {g : Bool} {Q : D → Prop} (m0 : 2 ≤ m) (m1 : m ≤ 10) (h : ∀ (n : Int) (bs : List Bun) (ms : List Int) (cs : List Bnd), n ≤ m → NetOk n bs ms cs → Q (.sh (.tup [.lst (cs.map bndW), .lst (bs.map bunW), .tup (iW ms)]))) : f__law_net A [.bag, .v (.int m), .v (.bl g)] Q := by
  simp [f__law_net, p__law_net]
  refine ⟨by omega, fun v v0 v1 => f_bundles_of (by omega) (by omega) fun bs ho hne => ?_⟩
  have hn : (2 + v) = ((2 + v).toNat : Int) := by omega
  constructor
  all_goals
    simp
    refine loop_inv bunW (xs := bs) (fun i ρ => ∃ ms y6 y7 y8, ρ = [.sh .bag, .int m, .bl g, .int (2 + v), .sh (.lst (bs.map bunW)), .lst (iW ms), y6, y7, y8] ∧ LeadsOk ms (bs.take i)) ⟨[], _, _, _, rfl, ⟨rfl, fun i c x h => by cases h⟩⟩ ?_ ?_
    · rintro i t _ ht ⟨ms, y6, y7, y8, rfl, hm⟩ T k
      have ob := ho.each t (List.mem_of_getElem? ht)
      have p1 := ob.p1
      have pm := ob.pm
      have hil := get_lt ht
      have hml : ms.length ≤ 45 := by rw [hm.1, List.length_take]; have := ho.len; omega
      simp [p__law_net_g0, p__law_net_b0, bunW]
      refine ⟨by omega, fun u u0 u1 x x0 x1 => onW_pick x0 (by simpa using x1) fun w hw => ?_⟩
      obtain ⟨q, rfl, q0, q1⟩ : ∃ q : Int, w = .v (.int q) ∧ 0 ≤ q ∧ q ≤ t.2.2 := by
        simp only [List.mem_cons, List.not_mem_nil, or_false] at hw
        rcases hw with rfl | rfl | rfl <;> exact ⟨_, rfl, by omega, by omega⟩
      simp
      exact ⟨by omega, k _ ⟨ms ++ [q], .int t.1, .int t.2.1, .int t.2.2, by simp, hm.snoc ht (by omega) (by omega)⟩⟩
    · rintro _ ⟨ms, y6, y7, y8, rfl, hm⟩
      rw [List.take_length] at hm
      have ldin := loads_in (k := (2 + v).toNat) ho hm
      have ldln := loadsP_len (2 + v).toNat ms bs
      have fl : ∀ Q, f__law_loads A [.v (.int (2 + v)), .lst (bs.map bunW), .lst (iW ms)] Q = Q (.lst (iW (loadsP (2 + v).toNat ms bs))) := fun Q => by
        rw [hn]
        exact f_law_loads_eq (t := false) (by rw [← hn]; exact ho.each) (by omega) hm.1
      simp [fl]
      refine f_bounds_of (by omega) ldin fun cs hcs => ?_
      simp
      exact h (2 + v) bs ms cs (by omega) ⟨ho, hne, hm, hcs⟩
end R

/-! ## L9: what a drawn net tells; sums of loads; what _law_led says -/
namespace R
open PySem PySem.Spec PyProof.Rows L2 G
theorem clok_of {bs : List Bun} {cs : List Bnd} (hb : ∀ t ∈ bs, BunOk (cs.length : Int) t) (nd : (bs.map bkey).Nodup) (h45 : bs.length ≤ 45) (c2 : 2 ≤ cs.length) (c10 : cs.length ≤ 10) (hc : ∀ c ∈ cs, 0 ≤ c.1 ∧ c.1 ≤ c.2 ∧ c.2 ≤ 1000000000000000000000000000000) : ClOk bs cs := by
  refine ⟨?_, ?_⟩
  · simp only [areBoundsW, Bool.and_eq_true, decide_eq_true_eq, List.length_map, List.all_eq_true]
    refine ⟨⟨c2, c10⟩, fun w hw => ?_⟩
    obtain ⟨c, hm, rfl⟩ := List.mem_map.mp hw
    obtain ⟨h0, h1, h2⟩ := hc c hm
    simp only [bndW, isBoundW, betwW, leW, Bool.and_eq_true, decide_eq_true_eq]
    omega
  · simp only [areBundlesW, Bool.and_eq_true, decide_eq_true_eq, List.length_map, List.all_eq_true]
    refine ⟨⟨h45, fun w hw => ?_⟩, ?_⟩
    · obtain ⟨t, hm, rfl⟩ := List.mem_map.mp hw
      have o := hb t hm
      have := o.f0
      have := o.fs
      have := o.sn
      have := o.p1
      have := o.pm
      simp only [bunW, isBundleW, betwW, ltW, Bool.and_eq_true, decide_eq_true_eq]
      omega
    · rw [List.map_map]
      have e : (bs.map (rowKey ∘ bunW)) = (bs.map bkey).map fun p => [p.1, p.2] := by
        rw [List.map_map]; rfl
      rw [e]
      exact nodup_map (fun p q z => by cases p; cases q; simpa using z) nd
theorem net_ok {n : Int} {bs : List Bun} {ms : List Int} {cs : List Bnd} (h : NetOk n bs ms cs) : ClOk bs cs := by
  have hs := h.size
  refine clok_of (by rw [hs]; exact h.buns.each) h.buns.nd h.buns.len (by have := h.buns.n2; omega) (by have := h.buns.n10; omega) fun c hc => ?_
  obtain ⟨i, hi, e⟩ := List.mem_iff_getElem.mp hc
  have hl := h.bnds.1
  have q := h.bnds.2 i c _ (by rw [← e]; exact List.getElem?_eq_getElem hi) (List.getElem?_eq_getElem (by omega))
  have := q.lo
  have := q.le
  have := q.ge
  have := q.hi
  omega
/-- Cluster(bounds, bundles) -/
theorem f_eq_same {A : Ad} {bs : List Bun} {cs : List Bnd} {Q : D → Prop} : f_Clusteru_equ A [clW A bs cs, clW A bs cs] Q = Q (.bl true) := by
  have h1 : (W.lst (cs.map bndW)).ok 20 = true := by
    rw [ok_lst, List.all_eq_true]
    intro w hw
    obtain ⟨c, _, rfl⟩ := List.mem_map.mp hw
    rfl
  have h2 : (W.lst (bs.map bunW)).ok 20 = true := by
    rw [ok_lst, List.all_eq_true]
    intro w hw
    obtain ⟨c, _, rfl⟩ := List.mem_map.mp hw
    rfl
  have e1 := eq_refl h1
  have e2 := eq_refl h2
  rw [eq_lst] at e1 e2
  simp only [ok_lst] at h1 h2
  simp [f_Clusteru_equ, p_Clusteru_equ, clW, h1, h2, e1, e2, -List.all_map]
/-! ### sums -/
abbrev Zs := List (Int × Bun)
def ledT (i j : Int) (z : Int × Bun) : Int := if z.2.1 = i ∧ z.2.2.1 = j then z.1 else if z.2.1 = j ∧ z.2.2.1 = i then z.2.2.2 - z.1 else 0
def ledS (zs : Zs) (i j : Int) : Int := (zs.map (ledT i j)).sum
def ledO (i j : Int) (z : Int × Bun) : Option Int := if z.2.1 = i ∧ z.2.2.1 = j then some z.1 else if z.2.1 = j ∧ z.2.2.1 = i then some (z.2.2.2 - z.1) else none
def shT (i : Int) (z : Int × Bun) : Int := if z.2.1 = i then z.1 else if z.2.2.1 = i then z.2.2.2 - z.1 else 0
theorem ledS_zero {i j : Int} : ∀ {zs : Zs}, (∀ z ∈ zs, ledT i j z = 0) → ledS zs i j = 0
  | [], _ => rfl
  | z :: zs, h => by
    show ledT i j z + ledS zs i j = 0
    rw [h z List.mem_cons_self, ledS_zero fun z hz => h z (List.mem_cons_of_mem _ hz)]
    rfl
theorem led_fs {i j : Int} : ∀ {zs : Zs}, (∀ z ∈ zs, z.2.1 < z.2.2.1) → (zs.map fun z => bkey z.2).Nodup → ((zs.findSome? (ledO i j)).getD 0) = ledS zs i j
  | [], _, _ => rfl
  | z :: zs, h, nd => by
    rw [List.map_cons, List.nodup_cons] at nd
    have hz := h z List.mem_cons_self
    have ih := led_fs (i := i) (j := j) (zs := zs) (fun z hz => h z (List.mem_cons_of_mem _ hz)) nd.2
    have nk : ∀ y ∈ zs, ¬ (y.2.1 = z.2.1 ∧ y.2.2.1 = z.2.2.1) := fun y hy e => nd.1 (List.mem_map.mpr ⟨y, hy, by unfold bkey; rw [e.1, e.2]⟩)
    rw [List.findSome?_cons]
    show _ = ledT i j z + ledS zs i j
    unfold ledO ledT
    by_cases h1 : z.2.1 = i ∧ z.2.2.1 = j
    · rw [if_pos h1, if_pos h1, ledS_zero fun y hy => by
        have a := nk y hy
        have b := h y (List.mem_cons_of_mem _ hy)
        unfold ledT
        rw [if_neg (by omega), if_neg (by omega)]]
      simp
    · rw [if_neg h1, if_neg h1]
      by_cases h2 : z.2.1 = j ∧ z.2.2.1 = i
      · rw [if_pos h2, if_pos h2, ledS_zero fun y hy => by
          have a := nk y hy
          have b := h y (List.mem_cons_of_mem _ hy)
          unfold ledT
          rw [if_neg (by omega), if_neg (by omega)]]
        simp
      · rw [if_neg h2, if_neg h2, Int.zero_add]
        exact ih
theorem idx_cons (t : Bun) (bs : List Bun) (f s : Int) : idx (t :: bs) f s = if t.1 = f ∧ t.2.1 = s then some 0 else (idx bs f s).map (· + 1) := by
  unfold idx
  rw [List.findIdx?_cons]
  by_cases h : t.1 = f ∧ t.2.1 = s
  · rw [if_pos h, if_pos (by simp [h])]
  · rw [if_neg h, if_neg (by simpa using h)]
theorem ledQ_cons (m : Int) (ms : List Int) (t : Bun) (bs : List Bun) (i j : Int) : ledQ (t :: bs) (m :: ms) i j = if t.1 = min i j ∧ t.2.1 = max i j then (if i < j then m else t.2.2 - m) else ledQ bs ms i j := by
  unfold ledQ
  rw [idx_cons]
  by_cases h : t.1 = min i j ∧ t.2.1 = max i j
  · rw [if_pos h, if_pos h]
    simp
  · rw [if_neg h, if_neg h]
    cases idx bs (min i j) (max i j) with
    | none => rfl
    | some n => simp
theorem led_of : ∀ {bs : List Bun} {ms : List Int} {i j : Int}, ms.length = bs.length → i ≠ j → (∀ t ∈ bs, t.1 < t.2.1) → ledQ bs ms i j = (((ms.zip bs).findSome? (ledO i j)).getD 0)
  | [], ms, i, j, _, _, _ => by simp [ledQ, idx]
  | t :: bs, [], i, j, hl, _, _ => by cases hl
  | t :: bs, m :: ms, i, j, hl, hij, h => by
    have ht := h t List.mem_cons_self
    rw [ledQ_cons, led_of (bs := bs) (ms := ms) (by simpa using hl) hij fun t ht => h t (List.mem_cons_of_mem _ ht), List.zip_cons_cons, List.findSome?_cons]
    unfold ledO
    simp only
    by_cases h1 : t.1 = i ∧ t.2.1 = j
    · rw [if_pos (by omega), if_pos (by omega), if_pos h1]; rfl
    · rw [if_neg h1]
      by_cases h2 : t.1 = j ∧ t.2.1 = i
      · rw [if_pos (by omega), if_neg (by omega), if_pos h2]; rfl
      · rw [if_neg (by omega), if_neg h2]
theorem sum_ite {m : Int} {a : Int} : ∀ {l : List Int}, l.Nodup → a ∈ l → (l.map fun j => if a = j then m else 0).sum = m
  | [], _, h => by cases h
  | b :: l, nd, h => by
    rw [List.nodup_cons] at nd
    rw [List.map_cons, List.sum_cons]
    by_cases e : a = b
    · subst e
      have : (l.map fun j => if a = j then m else 0).sum = 0 := by
        have q : (l.map fun j => if a = j then m else 0) = l.map fun _ => 0 := List.map_congr_left fun j hj => if_neg fun z => nd.1 (by rw [z]; exact hj)
        rw [q]
        clear q h nd
        induction l with
        | nil => rfl
        | cons x l ih => rw [List.map_cons, List.sum_cons, ih]; rfl
      rw [if_pos rfl, this]
      omega
    · rw [if_neg e, sum_ite nd.2 ((List.mem_cons.mp h).resolve_left e)]
      omega
theorem sum_zero {l : List Int} {f : Int → Int} (h : ∀ j ∈ l, f j = 0) : (l.map f).sum = 0 := by
  induction l with
  | nil => rfl
  | cons x l ih => rw [List.map_cons, List.sum_cons, h x List.mem_cons_self, ih fun j hj => h j (List.mem_cons_of_mem _ hj)]; rfl
theorem sum_add {l : List Int} {f g : Int → Int} : (l.map fun j => f j + g j).sum = (l.map f).sum + (l.map g).sum := by
  induction l with
  | nil => rfl
  | cons x l ih => simp only [List.map_cons, List.sum_cons, ih]; omega
theorem sum_led {n : Nat} {i : Int} {l : List Int} (nd : l.Nodup) (hl : ∀ j : Int, 0 ≤ j → j < (n : Int) → j ≠ i → j ∈ l) (ni : i ∉ l) : ∀ {zs : Zs}, (∀ z ∈ zs, 0 ≤ z.2.1 ∧ z.2.1 < z.2.2.1 ∧ z.2.2.1 < (n : Int)) → (l.map fun j => ledS zs i j).sum = (zs.map (shT i)).sum
  | [], _ => sum_zero fun j _ => rfl
  | z :: zs, h => by
    have hz := h z List.mem_cons_self
    have e : (l.map fun j => ledS (z :: zs) i j) = l.map fun j => ledT i j z + ledS zs i j := rfl
    rw [e, sum_add, sum_led nd hl ni fun z hz => h z (List.mem_cons_of_mem _ hz), List.map_cons, List.sum_cons]
    congr 1
    unfold shT
    by_cases h1 : z.2.1 = i
    · rw [if_pos h1]
      have q : (l.map fun j => ledT i j z) = l.map fun j => if z.2.2.1 = j then z.1 else 0 := List.map_congr_left fun j hj => by
        unfold ledT
        by_cases h2 : z.2.2.1 = j
        · rw [if_pos ⟨h1, h2⟩, if_pos h2]
        · rw [if_neg (by omega), if_neg (by omega), if_neg h2]
      rw [q]
      exact sum_ite nd (hl _ (by omega) (by omega) (by omega))
    · rw [if_neg h1]
      by_cases h2 : z.2.2.1 = i
      · rw [if_pos h2]
        have q : (l.map fun j => ledT i j z) = l.map fun j => if z.2.1 = j then z.2.2.2 - z.1 else 0 := List.map_congr_left fun j hj => by
          unfold ledT
          by_cases h3 : z.2.1 = j
          · rw [if_neg (by omega), if_pos ⟨h3, h2⟩, if_pos h3]
          · rw [if_neg (by omega), if_neg (by omega), if_neg h3]
        rw [q]
        exact sum_ite nd (hl _ (by omega) (by omega) (by omega))
      · rw [if_neg h2]
        exact sum_zero fun j hj => by
          unfold ledT
          rw [if_neg (by omega), if_neg (by omega)]
theorem ld_get {acc : List Int} {m : Int} {t : Bun} {n : Nat} (o : BunOk (n : Int) t) (hl : acc.length = n) (i : Int) (h0 : 0 ≤ i) (h1 : i < (n : Int)) : (G.ld acc m t).getD i.toNat 0 = acc.getD i.toNat 0 + shT i (m, t) := by
  have f0 := o.f0
  have fs := o.fs
  have sn := o.sn
  have ne : t.1.toNat ≠ t.2.1.toNat := by omega
  unfold G.ld ld1 shT
  rw [getD_set_ne ne]
  simp only
  by_cases e1 : t.1 = i
  · subst e1
    rw [if_pos rfl, List.getD_eq_getElem?_getD, List.getElem?_set_ne (Ne.symm ne), List.getElem?_set_self (by omega)]
    rfl
  · rw [if_neg e1]
    by_cases e2 : t.2.1 = i
    · subst e2
      rw [if_pos rfl, List.getD_eq_getElem?_getD, List.getElem?_set_self (by rw [List.length_set]; omega)]
      show _ + _ - _ = _
      omega
    · rw [if_neg e2, List.getD_eq_getElem?_getD, List.getElem?_set_ne (by omega), List.getElem?_set_ne (by omega), ← List.getD_eq_getElem?_getD]
      omega
theorem ldAll_get {n : Nat} (i : Int) (h0 : 0 ≤ i) (h1 : i < (n : Int)) : ∀ (ms : List Int) (bs : List Bun) (acc : List Int), ms.length = bs.length → acc.length = n → (∀ t ∈ bs, BunOk (n : Int) t) → (ldAll acc ms bs).getD i.toNat 0 = acc.getD i.toNat 0 + ((ms.zip bs).map (shT i)).sum
  | [], [], acc, _, _, _ => by simp [ldAll]
  | [], _ :: _, _, h, _, _ => by cases h
  | _ :: _, [], _, h, _, _ => by cases h
  | m :: ms, t :: bs, acc, h, hl, ho => by
    rw [ldAll, ldAll_get i h0 h1 ms bs _ (by simpa using h) (by rw [ld_len]; exact hl) fun t ht => ho t (List.mem_cons_of_mem _ ht), ld_get (ho t List.mem_cons_self) hl i h0 h1, List.zip_cons_cons, List.map_cons, List.sum_cons]
    omega
theorem sum_set {l : List Int} {k : Nat} (h : k < l.length) (x : Int) : (l.set k x).sum = l.sum - l.getD k 0 + x := by
  induction l generalizing k with
  | nil => cases h
  | cons a l ih =>
    cases k with
    | zero => simp; omega
    | succ k =>
      have := ih (k := k) (by simpa using h)
      simp only [List.set_cons_succ, List.sum_cons, List.getD_cons_succ, this]
      omega
theorem ld_sum {acc : List Int} {m : Int} {t : Bun} {n : Nat} (o : BunOk (n : Int) t) (hl : acc.length = n) : (G.ld acc m t).sum = acc.sum + t.2.2 := by
  have f0 := o.f0
  have fs := o.fs
  have sn := o.sn
  have ne : t.1.toNat ≠ t.2.1.toNat := by omega
  unfold G.ld ld1
  rw [sum_set (by rw [List.length_set]; omega), sum_set (by omega)]
  rw [getD_set_ne ne]
  omega
theorem ldAll_sum {n : Nat} : ∀ (ms : List Int) (bs : List Bun) (acc : List Int), ms.length = bs.length → acc.length = n → (∀ t ∈ bs, BunOk (n : Int) t) → (ldAll acc ms bs).sum = acc.sum + (bs.map fun t => t.2.2).sum
  | [], [], acc, _, _, _ => by simp [ldAll]
  | [], _ :: _, _, h, _, _ => by cases h
  | _ :: _, [], _, h, _, _ => by cases h
  | m :: ms, t :: bs, acc, h, hl, ho => by
    rw [ldAll, ldAll_sum ms bs _ (by simpa using h) (by rw [ld_len]; exact hl) fun t ht => ho t (List.mem_cons_of_mem _ ht), ld_sum (ho t List.mem_cons_self) hl, List.map_cons, List.sum_cons]
    omega
theorem sum_rep (n : Nat) : (List.replicate n (0 : Int)).sum = 0 := by
  induction n with
  | zero => rfl
  | succ n ih => rw [List.replicate_succ, List.sum_cons, ih]; rfl
theorem loads_sum {n : Nat} {ms : List Int} {bs : List Bun} (hl : ms.length = bs.length) (ho : ∀ t ∈ bs, BunOk (n : Int) t) : (loadsP n ms bs).sum = (bs.map fun t => t.2.2).sum := by
  rw [loadsP, ldAll_sum ms bs _ hl (by simp) ho, sum_rep]
  omega
/-- the others of one -/
def oth (n i : Nat) : List Int := ((List.range n).filter fun j => decide (j ≠ i)).map fun j : Nat => (j : Int)
theorem oth_nd (n i : Nat) : (oth n i).Nodup := nodup_map (fun a b h => by omega) (List.Pairwise.filter _ List.nodup_range)
theorem oth_mem {n i : Nat} {j : Int} : j ∈ oth n i ↔ 0 ≤ j ∧ j < (n : Int) ∧ j ≠ (i : Int) := by
  unfold oth
  simp only [List.mem_map, List.mem_filter, List.mem_range, decide_eq_true_eq]
  constructor
  · rintro ⟨a, ⟨h1, h2⟩, rfl⟩
    omega
  · rintro ⟨h1, h2, h3⟩
    exact ⟨j.toNat, by omega, by omega⟩
theorem led_sum {n i : Nat} {ms : List Int} {bs : List Bun} (hi : i < n) (hl : ms.length = bs.length) (ho : ∀ t ∈ bs, BunOk (n : Int) t) (nd : (bs.map bkey).Nodup) : ((oth n i).map fun j => ledQ bs ms (i : Int) j).sum = (loadsP n ms bs).getD i 0 := by
  have hz : ∀ z ∈ ms.zip bs, z.2 ∈ bs := fun z hz => (List.of_mem_zip (a := z.1) (b := z.2) hz).2
  have e : ((oth n i).map fun j => ledQ bs ms (i : Int) j) = (oth n i).map fun j => ledS (ms.zip bs) (i : Int) j := List.map_congr_left fun j hj => by
    have hj := oth_mem.mp hj
    rw [led_of hl (by omega) fun t ht => (ho t ht).fs, led_fs (fun z q => (ho _ (hz z q)).fs)]
    have e2 : ((ms.zip bs).map fun z => bkey z.2) = bs.map bkey := by
      rw [show (fun z : Int × Bun => bkey z.2) = bkey ∘ Prod.snd from rfl, ← List.map_map, List.map_snd_zip (by omega)]
    rw [e2]
    exact nd
  rw [e, sum_led (n := n) (oth_nd n i) (fun j h0 h1 h2 => oth_mem.mpr ⟨h0, h1, h2⟩) (fun z => (oth_mem.mp z).2.2 rfl) fun z q => ⟨(ho _ (hz z q)).f0, (ho _ (hz z q)).fs, (ho _ (hz z q)).sn⟩]
  have := ldAll_get (n := n) (i : Int) (by omega) (by omega) ms bs (List.replicate n 0) hl (by simp) ho
  rw [loadsP]
  simp only [Int.toNat_natCast] at this
  rw [this, List.getD_eq_getElem?_getD, List.getElem?_replicate, if_pos hi]
  show _ = 0 + _
  omega
theorem f_law_led_eq {A : Ad} {bs : List Bun} {ms : List Int} {i j : Int} {Q : D → Prop} (hl : ms.length = bs.length) (hij : i ≠ j) (h : ∀ t ∈ bs, t.1 < t.2.1) : f__law_led A [.lst (bs.map bunW), .tup (iW ms), .v (.int i), .v (.int j)] Q = Q (.int (ledQ bs ms i j)) := by
  rw [led_of hl hij h]
  simp [f__law_led, p__law_led, pairW_zip]
  obtain ⟨s', q⟩ := loop_find (S := D × D × D × D) (E := { nx := sRet (qC (.int 0)) { nx := fun x => Q D.non, rt := Q }, rt := Q }) (g := p__law_led_g0 A) (b := p__law_led_b0 A) (fun p : Int × Bun => W.tup [.v (.int p.1), bunW p.2]) (fun s => [.sh (.lst (bs.map bunW)), .sh (.tup (iW ms)), .int i, .int j, s.1, s.2.1, s.2.2.1, s.2.2.2]) (fun s p => (.int p.1, .int p.2.1, .int p.2.2.1, .int p.2.2.2)) (fun z => (ledO i j z).map fun x => D.int x) (xs := ms.zip bs) (.un, .un, .un, .un) fun p hp s ws' => by
    obtain ⟨m, t⟩ := p
    unfold ledO
    simp [p__law_led_g0, p__law_led_b0, bunW]
    by_cases h1 : t.1 = i ∧ t.2.1 = j
    · simp [h1]
    · by_cases h2 : t.1 = j ∧ t.2.1 = i
      · have h3 : ¬ (j = i ∧ i = j) := by omega
        simp [h2, h3]
      · simp [h1, h2]
  have ec : (ms.zip bs).findSome? (fun z => (ledO i j z).map fun x => D.int x) = ((ms.zip bs).findSome? (ledO i j)).map fun x => D.int x := by
    induction (ms.zip bs) with
    | nil => rfl
    | cons z zs ih =>
      rw [List.findSome?_cons, List.findSome?_cons, ih]
      cases ledO i j z <;> rfl
  rw [ec] at q
  refine Eq.to_iff (q.trans ?_)
  cases (ms.zip bs).findSome? (ledO i j) with
  | none => simp
  | some x => rfl
@[simp] theorem atI_c0 {α : Type} (a : α) (l : List α) : atI (a :: l) 0 = some a := atI_at (n := 0) rfl
@[simp] theorem atI_c1 {α : Type} (a b : α) (l : List α) : atI (a :: b :: l) 1 = some b := atI_at (n := 1) rfl
@[simp] theorem atI_c2 {α : Type} (a b c : α) (l : List α) : atI (a :: b :: c :: l) 2 = some c := atI_at (n := 2) rfl
end R

namespace R
open PySem PySem.Spec PyProof.Rows L2 G
def p__law_net_1_g0 (A : Ad) : TGQ :=
    (gqTup 3 (gqCons (gqName 6) (gqCons (gqName 7) (gqCons (gqName 8) gqNil))))
def p__law_net_1_b0 (A : Ad) : TSQ :=
    (sDrop (qAppend 5 (qOp oIx (vE (qLst (aCons (qC (.int 0)) (aCons (qVar 8) (aCons (qCall f_take 2 (aCons (qVar 0) (aCons (qOp oPlus (vVar 8) (vE (qC (.int 1)))) aNil))) aNil))))) (vE (qCall f_take 2 (aCons (qVar 0) (aCons (qC (.int 3)) aNil)))))))
def p__law_net_1 (A : Ad) : TSQ :=
    (sSeq (sAsg (qOp oPlus (vE (qC (.int 2))) (vE (qCall f_take 2 (aCons (qVar 0) (aCons (qOp (oI0 fun i j => .int (i - j)) (vVar 1) (vE (qC (.int 1)))) aNil))))) (gqName 3))
    (sSeq (sAsg (qCall (f__law_bundles A) 3 (aCons (qVar 0) (aCons (qVar 3) (aCons (qVar 2) aNil)))) (gqName 4))
    (sSeq (sAsg (qLst aNil) (gqName 5))
    (sSeq (sFor (iqSeq (qVar 4)) (p__law_net_1_g0 A) (p__law_net_1_b0 A))
    (sRet (qNTup (nCons (qCall (f__law_bounds A) 2 (aCons (qVar 0) (aCons (qCall (f__law_loads A) 3 (aCons (qVar 3) (aCons (qVar 4) (aCons (qVar 5) aNil)))) aNil))) (nCons (qMove 4) (nCons (qCB bTup (vCons (vVar 5) vNil)) nNil)))))))))
def f__law_net_1 (A : Ad) : PF := runF (p__law_net_1 A) 6

def p_switch (A : Ad) (X0 : XQ) : TSQ :=
    (sSeq (sIf (qB (qOp (oIsN false) (vE (qMeth A.Cluster "bundle_of" (f_Cluster_bundle_of A) 2 (qVar 0) (aCons (qVar 2) (aCons (qVar 3) aNil)))) (vE (qC .non)))) (sRaise .noBundle (aCons (qVar 2) (aCons (qVar 3) aNil)) X0) sNext)
    (sSeq (sIf (qNot (qB (qCall (f_is_legal A) 4 (aCons (qVar 0) (aCons (qVar 1) (aCons (qVar 2) (aCons (qVar 3) aNil))))))) (sRaise0 .notLegal X0) sNext)
    (sRet (qCall (f_moved A) 3 (aCons (qVar 0) (aCons (qVar 1) (aCons (qTup (aCons (qVar 2) (aCons (qVar 3) (aCons (qC (.int 1)) aNil)))) aNil)))))))
def f_switch (A : Ad) : PFX := runX (p_switch A) 0

def p__law_told (A : Ad) : TSQ :=
    (sSeq (sTryAs .leadError [.leadError, .notLegal, .noBundle, .notLed] 4 (fun X1 => (sRet (qTup (aCons (qC (.str "told")) (aCons (qCallX (f_switch A) 4 (aCons (qVar 0) (aCons (qVar 1) (aCons (qVar 2) (aCons (qVar 3) aNil)))) X1) aNil))))) (fun a1 x1 => (sSeq (sIf (qB (qXis [.leadError, .notLegal, .noBundle, .notLed] a1 x1 .notLed (qVar 4))) (sRet (qTup (aCons (qC (.str "other")) aNil))) sNext)
    (sIf (qB (qXis [.leadError, .notLegal, .noBundle, .notLed] a1 x1 .noBundle (qVar 4))) (sRet (qTup (aCons (qC (.str "no bundle")) (aCons (qXf [.leadError, .notLegal, .noBundle, .notLed] a1 x1 "one" (qVar 4)) (aCons (qXf [.leadError, .notLegal, .noBundle, .notLed] a1 x1 "other" (qVar 4)) aNil))))) sNext))) noXQ)
    (sRet (qTup (aCons (qC (.str "not legal")) aNil))))
def f__law_told (A : Ad) : PF := runF (p__law_told A) 1

def p__law_raises (A : Ad) : TSQ :=
    (sSeq (sTryAs .notLegal [.notLegal, .noBundle] 4 (fun X1 => (sDrop (qCallX (f_switch A) 4 (aCons (qVar 0) (aCons (qVar 1) (aCons (qVar 2) (aCons (qVar 3) aNil)))) X1))) (fun a1 x1 => (sRet (qXve [.notLegal, .noBundle] a1 x1 (qVar 4)))) noXQ)
    (sRet (qC (.bl false))))
def f__law_raises (A : Ad) : PF := runF (p__law_raises A) 1

def p__law_right_e0 (A : Ad) : TQ :=
    (qSl (vVar 10) oNone (oPart (qC (.int 2))))
def p__law_right (A : Ad) : TSQ :=
    (sSeq (sAsg (qLc (iqSeq (qVar 2)) (gqName 10) qYes (p__law_right_e0 A) [10]) (gqName 6))
    (sSeq (sAsg (qOp (oIn false) (vE (qTup (aCons (qCB bMin (vCons (vVar 4) (vCons (vVar 5) vNil))) (aCons (qCB bMax (vCons (vVar 4) (vCons (vVar 5) vNil))) aNil)))) (vVar 6)) (gqName 7))
    (sSeq (sAsg (qCall (f__law_legal A) 5 (aCons (qVar 1) (aCons (qVar 2) (aCons (qVar 3) (aCons (qVar 4) (aCons (qVar 5) aNil)))))) (gqName 8))
    (sSeq (sIf (qNot (qB (qCB (bF 2 (f__law_alike A)) (vCons (vE (qCall (f_is_legal A) 4 (aCons (qVar 0) (aCons (qVar 3) (aCons (qVar 4) (aCons (qVar 5) aNil)))))) (vCons (vVar 8) vNil))))) (sRet (qC (.bl false))) sNext)
    (sSeq (sIf (qNot (qB (qVar 7))) (sRet (qOp (oEq false) (vE (qCall (f__law_told A) 4 (aCons (qVar 0) (aCons (qVar 3) (aCons (qVar 4) (aCons (qVar 5) aNil)))))) (vE (qTup (aCons (qC (.str "no bundle")) (aCons (qVar 4) (aCons (qVar 5) aNil))))))) sNext)
    (sSeq (sIf (qNot (qB (qVar 8))) (sRet (qCall (f__law_raises A) 4 (aCons (qVar 0) (aCons (qVar 3) (aCons (qVar 4) (aCons (qVar 5) aNil)))))) sNext)
    (sSeq (sAsg (qCall (f__law_moved A) 5 (aCons (qVar 2) (aCons (qVar 3) (aCons (qVar 4) (aCons (qVar 5) (aCons (qC (.int 1)) aNil)))))) (gqName 9))
    (sSeq (sIf (qNot (qB (qCB (bF 2 (f__law_alike A)) (vCons (vE (qCall (f__law_told A) 4 (aCons (qVar 0) (aCons (qVar 3) (aCons (qVar 4) (aCons (qVar 5) aNil)))))) (vCons (vE (qTup (aCons (qC (.str "told")) (aCons (qVar 9) aNil)))) vNil))))) (sRet (qC (.bl false))) sNext)
    (sSeq (sIf (qB (qOp (oIsN true) (vE (qCall (f_first_invalid A) 2 (aCons (qVar 0) (aCons (qVar 9) aNil)))) (vE (qC .non)))) (sRet (qC (.bl false))) sNext)
    (sRet (qAndV (qCall (f_is_legal A) 4 (aCons (qVar 0) (aCons (qVar 9) (aCons (qVar 5) (aCons (qVar 4) aNil))))) (qOp (oEq false) (vE (qCall (noX (f_switch A)) 4 (aCons (qVar 0) (aCons (qVar 9) (aCons (qVar 5) (aCons (qVar 4) aNil)))))) (vVar 3)))))))))))))
def f__law_right (A : Ad) : PF := runF (p__law_right A) 5

def p_law_k20_g0 (A : Ad) : TGQ :=
    (gqName 9)
def p_law_k20_b0 (A : Ad) : TSQ :=
    (sIf (qB (qOp (oEq true) (vVar 9) (vVar 8))) (sIf (qNot (qB (qCall (f__law_right A) 6 (aCons (qVar 6) (aCons (qVar 3) (aCons (qVar 4) (aCons (qVar 5) (aCons (qVar 8) (aCons (qVar 9) aNil))))))))) (sRet (qC (.bl false))) sNext) sNext)
def p_law_k20_g1 (A : Ad) : TGQ :=
    (gqName 7)
def p_law_k20_b1 (A : Ad) : TSQ :=
    (sSeq (sAsg (qCall f_take 2 (aCons (qVar 1) (aCons (qCB bLen (vCons (vVar 3) vNil)) aNil))) (gqName 8))
    (sSeq (sFor (iqRng1 (vCons (vE (qCB bLen (vCons (vVar 3) vNil))) vNil)) (p_law_k20_g0 A) (p_law_k20_b0 A))
    (sSeq (sAsg (qOp oIx (vVar 4) (vE (qCall f_take 2 (aCons (qVar 1) (aCons (qCB bLen (vCons (vVar 4) vNil)) aNil))))) (gqName 10))
    (sIf (qB (qCall (f_is_legal A) 4 (aCons (qVar 6) (aCons (qVar 5) (aCons (qOp oIx (vVar 10) (vE (qC (.int 1)))) (aCons (qOp oIx (vVar 10) (vE (qC (.int 0)))) aNil)))))) (sAsg (qCall (noX (f_switch A)) 4 (aCons (qVar 6) (aCons (qVar 5) (aCons (qOp oIx (vVar 10) (vE (qC (.int 1)))) (aCons (qOp oIx (vVar 10) (vE (qC (.int 0)))) aNil))))) (gqName 5)) sNext))))
def p_law_k20_g2 (A : Ad) : TGQ :=
    (gqName 2)
def p_law_k20_b2 (A : Ad) : TSQ :=
    (sSeq (sAsg (qCall (f__law_net_1 A) 3 (aCons (qVar 1) (aCons (qC (.int 10)) (aCons (qC (.bl true)) aNil)))) (gqTup 3 (gqCons (gqName 3) (gqCons (gqName 4) (gqCons (gqName 5) gqNil)))))
    (sSeq (sIf (qB (qOp (oEq false) (vE (qCall f_take 2 (aCons (qVar 1) (aCons (qC (.int 4)) aNil)))) (vE (qC (.int 0))))) (sAsg (qTup (aCons (qOp oIx (vE (qOp oIx (vVar 3) (vE (qUn (oU fun i => .int (-i)) (vE (qC (.int 1))))))) (vE (qC (.int 0)))) (aCons (qOp (oI CPow fun i j => .int (i ^ j.toNat)) (vE (qC (.int 10))) (vE (qC (.int 30)))) aNil))) (gqSub 3 (qUn (oU fun i => .int (-i)) (vE (qC (.int 1)))))) sNext)
    (sSeq (sAsg (qMake A.Cluster (f_Clusteru_initu A) (aCons (qVar 3) (aCons (qVar 4) aNil))) (gqName 6))
    (sSeq (sFor (iqRng1 (vCons (vE (qC (.int 6))) vNil)) (p_law_k20_g1 A) (p_law_k20_b1 A))
    (sIf (qB (qCmpO true A.Cluster (f_Clusteru_equ A) (qVar 6) (qMake A.Cluster (f_Clusteru_initu A) (aCons (qVar 3) (aCons (qVar 4) aNil))))) (sRet (qC (.bl false))) sNext)))))
def p_law_k20 (A : Ad) : TSQ :=
    (sSeq (sFor (iqRng1 (vCons (vE (qC (.int 3))) vNil)) (p_law_k20_g2 A) (p_law_k20_b2 A))
    (sRet (qC (.bl true))))

end R

/-! ## L10: a net whose bounds are the caller's; switch; what the law's own legal and moved say -/
namespace R
open PySem PySem.Spec PyProof.Rows L2 G
theorem f_net1_of {A : Ad} {m : Int} {g : Bool} {Q : D → Prop} (m0 : 2 ≤ m) (m1 : m ≤ 10) (h : ∀ (n : Int) (bs : List Bun) (ms : List Int) (cs : List Bnd), n ≤ m → NetOk n bs ms cs → Q (.ntup [.lst (cs.map bndW), .sh (.lst (bs.map bunW)), .sh (.tup (iW ms))])) : f__law_net_1 A [.bag, .v (.int m), .v (.bl g)] Q := by
  simp [f__law_net_1, p__law_net_1]
  refine ⟨by omega, fun v v0 v1 => f_bundles_of (by omega) (by omega) fun bs ho hne => ?_⟩
  have hn : (2 + v) = ((2 + v).toNat : Int) := by omega
  constructor
  all_goals
    simp
    refine loop_inv bunW (xs := bs) (fun i ρ => ∃ ms y6 y7 y8, ρ = [.sh .bag, .int m, .bl g, .int (2 + v), .sh (.lst (bs.map bunW)), .lst (iW ms), y6, y7, y8] ∧ LeadsOk ms (bs.take i)) ⟨[], _, _, _, rfl, ⟨rfl, fun i c x h => by cases h⟩⟩ ?_ ?_
    · rintro i t _ ht ⟨ms, y6, y7, y8, rfl, hm⟩ T k
      have ob := ho.each t (List.mem_of_getElem? ht)
      have p1 := ob.p1
      have pm := ob.pm
      have hil := get_lt ht
      have hml : ms.length ≤ 45 := by rw [hm.1, List.length_take]; have := ho.len; omega
      simp [p__law_net_1_g0, p__law_net_1_b0, bunW]
      refine ⟨by omega, fun u u0 u1 x x0 x1 => onW_pick x0 (by simpa using x1) fun w hw => ?_⟩
      obtain ⟨q, rfl, q0, q1⟩ : ∃ q : Int, w = .v (.int q) ∧ 0 ≤ q ∧ q ≤ t.2.2 := by
        simp only [List.mem_cons, List.not_mem_nil, or_false] at hw
        rcases hw with rfl | rfl | rfl <;> exact ⟨_, rfl, by omega, by omega⟩
      simp
      exact ⟨by omega, k _ ⟨ms ++ [q], .int t.1, .int t.2.1, .int t.2.2, by simp, hm.snoc ht (by omega) (by omega)⟩⟩
    · rintro _ ⟨ms, y6, y7, y8, rfl, hm⟩
      rw [List.take_length] at hm
      have ldin := loads_in (k := (2 + v).toNat) ho hm
      have ldln := loadsP_len (2 + v).toNat ms bs
      have fl : ∀ Q, f__law_loads A [.v (.int (2 + v)), .lst (bs.map bunW), .lst (iW ms)] Q = Q (.lst (iW (loadsP (2 + v).toNat ms bs))) := fun Q => by
        rw [hn]
        exact f_law_loads_eq (t := false) (by rw [← hn]; exact ho.each) (by omega) hm.1
      simp [fl]
      refine f_bounds_of (by omega) ldin fun cs hcs => ?_
      exact h (2 + v) bs ms cs (by omega) ⟨ho, hne, hm, hcs⟩
/-- a switch as it may end -/
theorem f_switch_none {A : Ad} {bs : List Bun} {cs : List Bnd} {ms : List Int} {i j : Int} {Q : D → Prop} {X : XW → Prop} (hn : idx bs (min i j) (max i j) = none) :
    f_switch A [clW A bs cs, .tup (iW ms), .v (.int i), .v (.int j)] Q X = X ⟨.noBundle, [.v (.int i), .v (.int j)]⟩ := by
  simp [f_switch, p_switch, f_bundle_of_eq, hn, numD, Ek.flds]
theorem f_switch_no {A : Ad} {bs : List Bun} {cs : List Bnd} {ms : List Int} {i j : Int} {n : Nat} {Q : D → Prop} {X : XW → Prop} (h : ∀ t ∈ bs, BunOk (cs.length : Int) t) (hc : cs.length ≤ 1000) (hl : ms.length = bs.length) (i0 : 0 ≤ i) (i1 : i < (cs.length : Int)) (j0 : 0 ≤ j) (j1 : j < (cs.length : Int)) (hn : idx bs (min i j) (max i j) = some n) (hg : legalB bs cs ms i j = false) :
    f_switch A [clW A bs cs, .tup (iW ms), .v (.int i), .v (.int j)] Q X = X ⟨.notLegal, []⟩ := by
  simp [f_switch, p_switch, f_bundle_of_eq, hn, numD, Ek.flds, f_is_legal_eq h hc hl i0 i1 j0 j1, hg]
theorem f_switch_yes {A : Ad} {bs : List Bun} {cs : List Bnd} {ms : List Int} {i j : Int} {n : Nat} {Q : D → Prop} {X : XW → Prop} (h : ∀ t ∈ bs, BunOk (cs.length : Int) t) (hc : cs.length ≤ 1000) (h45 : bs.length ≤ 1000) (hl : ms.length = bs.length) (i0 : 0 ≤ i) (i1 : i < (cs.length : Int)) (j0 : 0 ≤ j) (j1 : j < (cs.length : Int)) (hn : idx bs (min i j) (max i j) = some n) (hg : legalB bs cs ms i j = true) :
    f_switch A [clW A bs cs, .tup (iW ms), .v (.int i), .v (.int j)] Q X = Q (.sh (.tup (iW (movedQ ms n i j 1)))) := by
  simp [f_switch, p_switch, f_bundle_of_eq, hn, numD, Ek.flds, f_is_legal_eq h hc hl i0 i1 j0 j1, hg, f_moved_eq hl h45 hn]
end R

/-! ## L11: switches, in plain lists -/
namespace R
open PySem PySem.Spec PyProof.Rows L2 G
/-- the load of a broker -/
def ldg (n : Nat) (bs : List Bun) (ms : List Int) (x : Int) : Int := (loadsP n ms bs).getD x.toNat 0
theorem ldg_sum {n : Nat} {bs : List Bun} {ms : List Int} {x : Int} (hl : ms.length = bs.length) (ho : ∀ t ∈ bs, BunOk (n : Int) t) (x0 : 0 ≤ x) (x1 : x < (n : Int)) : ldg n bs ms x = ((ms.zip bs).map (shT x)).sum := by
  have := ldAll_get (n := n) x x0 x1 ms bs (List.replicate n 0) hl (by simp) ho
  unfold ldg
  rw [loadsP, this, List.getD_eq_getElem?_getD, List.getElem?_replicate, if_pos (by omega)]
  show 0 + _ = _
  omega
theorem zip_set_sum (f : Int × Bun → Int) : ∀ {ms : List Int} {bs : List Bun} {k : Nat} {m y : Int} {t : Bun}, ms[k]? = some m → bs[k]? = some t → (((ms.set k y).zip bs).map f).sum = ((ms.zip bs).map f).sum + (f (y, t) - f (m, t))
  | [], _, k, _, _, _, h, _ => by cases h
  | _ :: _, [], k, _, _, _, _, h => by cases h
  | a :: ms, b :: bs, 0, m, y, t, h1, h2 => by
    cases h1
    cases h2
    simp only [List.set_cons_zero, List.zip_cons_cons, List.map_cons, List.sum_cons]
    omega
  | a :: ms, b :: bs, k + 1, m, y, t, h1, h2 => by
    have := zip_set_sum f (ms := ms) (bs := bs) (k := k) (m := m) (y := y) (t := t) (by simpa using h1) (by simpa using h2)
    simp only [List.set_cons_succ, List.zip_cons_cons, List.map_cons, List.sum_cons, this]
    omega
theorem idx_get {bs : List Bun} {f s : Int} {n : Nat} (h : idx bs f s = some n) : ∃ t, bs[n]? = some t ∧ t.1 = f ∧ t.2.1 = s := by
  unfold idx at h
  rw [List.findIdx?_eq_some_iff_getElem] at h
  obtain ⟨hl, h1, _⟩ := h
  simp only [Bool.and_eq_true, decide_eq_true_eq, beq_iff_eq] at h1
  exact ⟨_, List.getElem?_eq_getElem hl, by simpa using h1⟩
theorem idx_of : ∀ {bs : List Bun} {n : Nat} {t : Bun}, (bs.map bkey).Nodup → bs[n]? = some t → idx bs t.1 t.2.1 = some n
  | [], _, _, _, h => by cases h
  | b :: bs, 0, t, nd, h => by
    cases h
    rw [idx_cons, if_pos ⟨rfl, rfl⟩]
  | b :: bs, n + 1, t, nd, h => by
    rw [List.map_cons, List.nodup_cons] at nd
    have h' : bs[n]? = some t := by simpa using h
    rw [idx_cons, if_neg, idx_of nd.2 h']
    · rfl
    · intro e
      exact nd.1 (List.mem_map.mpr ⟨t, List.mem_of_getElem? h', by unfold bkey; rw [e.1, e.2]⟩)
theorem idx_none_of {bs : List Bun} {f s : Int} (h : idx bs f s = none) : ∀ t ∈ bs, ¬ (t.1 = f ∧ t.2.1 = s) := by
  intro t ht e
  unfold idx at h
  rw [List.findIdx?_eq_none_iff] at h
  have := h t ht
  simp [e.1, e.2] at this
section
variable {bs : List Bun} {cs : List Bnd} {ms : List Int} {i j q x : Int} {k n : Nat}
theorem movedQ_len : (movedQ ms k i j q).length = ms.length := by unfold movedQ; rw [List.length_set]
theorem moved_get (hl : ms.length = bs.length) (hk : idx bs (min i j) (max i j) = some k) : ∃ m t, ms[k]? = some m ∧ bs[k]? = some t ∧ t.1 = min i j ∧ t.2.1 = max i j ∧ movedQ ms k i j q = ms.set k (m + chg i j q) := by
  obtain ⟨t, h1, h2, h3⟩ := idx_get hk
  have := get_lt h1
  obtain ⟨m, hm⟩ : ∃ m, ms[k]? = some m := ⟨_, List.getElem?_eq_getElem (by omega)⟩
  refine ⟨m, t, hm, h1, h2, h3, ?_⟩
  unfold movedQ
  rw [List.getD_eq_getElem?_getD, hm]
  rfl
theorem moved_load (hl : ms.length = bs.length) (ho : ∀ t ∈ bs, BunOk (n : Int) t) (hij : i ≠ j) (hk : idx bs (min i j) (max i j) = some k) (x0 : 0 ≤ x) (x1 : x < (n : Int)) :
    ldg n bs (movedQ ms k i j q) x = ldg n bs ms x - (if x = i then q else 0) + (if x = j then q else 0) := by
  obtain ⟨m, t, hm, ht, e1, e2, e⟩ := moved_get (q := q) hl hk
  rw [ldg_sum (by rw [movedQ_len]; exact hl) ho x0 x1, ldg_sum hl ho x0 x1, e, zip_set_sum (shT x) hm ht]
  generalize ((ms.zip bs).map (shT x)).sum = S
  unfold shT chg
  simp only [e1, e2]
  rcases Int.lt_or_gt_of_ne hij with h | h
  · rw [Int.min_eq_left (by omega), Int.max_eq_right (by omega)]
    repeat' split
    all_goals omega
  · rw [Int.min_eq_right (by omega), Int.max_eq_left (by omega)]
    repeat' split
    all_goals omega
theorem ledQ_some (hk : idx bs (min i j) (max i j) = some k) {m : Int} {t : Bun} (hm : ms[k]? = some m) (ht : bs[k]? = some t) : ledQ bs ms i j = if i < j then m else t.2.2 - m := by
  unfold ledQ
  rw [hk]
  simp [List.getD_eq_getElem?_getD, hm, ht]
theorem moved_led (hl : ms.length = bs.length) (hij : i ≠ j) (hk : idx bs (min i j) (max i j) = some k) : ledQ bs (movedQ ms k i j q) i j = ledQ bs ms i j - q := by
  obtain ⟨m, t, hm, ht, e1, e2, e⟩ := moved_get (q := q) hl hk
  have hlt := get_lt hm
  rw [ledQ_some hk hm ht, e, ledQ_some hk (m := m + chg i j q) (by rw [List.getElem?_set_self hlt]) ht]
  unfold chg
  by_cases h : i < j
  · rw [if_pos h, if_pos h, if_pos h]; omega
  · rw [if_neg h, if_neg h, if_neg h]; omega
theorem moved_led' (hl : ms.length = bs.length) (hij : i ≠ j) (hk : idx bs (min i j) (max i j) = some k) : ledQ bs (movedQ ms k i j q) j i = ledQ bs ms j i + q := by
  obtain ⟨m, t, hm, ht, e1, e2, e⟩ := moved_get (q := q) hl hk
  have hlt := get_lt hm
  have hk' : idx bs (min j i) (max j i) = some k := by rw [Int.min_comm, Int.max_comm]; exact hk
  rw [ledQ_some hk' hm ht, e, ledQ_some hk' (m := m + chg i j q) (by rw [List.getElem?_set_self hlt]) ht]
  unfold chg
  by_cases h : i < j
  · rw [if_neg (by omega), if_pos h, if_neg (by omega)]; omega
  · rw [if_pos (by omega), if_neg h, if_pos (by omega)]
theorem moved_back (hl : ms.length = bs.length) (hk : idx bs (min i j) (max i j) = some k) : movedQ (movedQ ms k i j q) k j i q = if i = j then ms.set k (ms.getD k 0 + q + q) else ms := by
  obtain ⟨m, t, hm, ht, e1, e2, e⟩ := moved_get (q := q) hl hk
  have hlt := get_lt hm
  have e3 : ms.getD k 0 = m := by rw [List.getD_eq_getElem?_getD, hm]; rfl
  unfold movedQ
  rw [e3, List.getD_eq_getElem?_getD, List.getElem?_set_self hlt, List.set_set]
  show ms.set k (m + chg i j q + chg j i q) = _
  unfold chg
  by_cases h : i = j
  · rw [if_pos h, if_neg (by omega), if_neg (by omega)]
  · rw [if_neg h]
    have : m + (if i < j then -q else q) + (if j < i then -q else q) = m := by
      by_cases h1 : i < j
      · rw [if_pos h1, if_neg (by omega)]; omega
      · rw [if_neg h1, if_pos (by omega)]; omega
    rw [this]
    obtain ⟨h1, h2⟩ := List.getElem?_eq_some_iff.mp hm
    rw [← h2]
    exact List.set_getElem_self h1
theorem moved_ok (hm : LeadsOk ms bs) (hk : idx bs (min i j) (max i j) = some k) (q0 : 0 ≤ q) (q1 : q ≤ ledQ bs ms i j) : LeadsOk (movedQ ms k i j q) bs := by
  obtain ⟨m, t, em, et, e1, e2, e⟩ := moved_get (q := q) hm.1 hk
  refine ⟨by rw [movedQ_len]; exact hm.1, fun y v u h1 h2 => ?_⟩
  rw [e] at h1
  by_cases hy : k = y
  · subst hy
    rw [List.getElem?_set_self (get_lt em)] at h1
    rw [et] at h2
    cases h1
    cases h2
    rw [ledQ_some hk em et] at q1
    have := hm.2 k m t em et
    unfold chg
    by_cases h : i < j
    · rw [if_pos h] at q1 ⊢; omega
    · rw [if_neg h] at q1 ⊢; omega
  · rw [List.getElem?_set_ne hy] at h1
    exact hm.2 y v u h1 h2
theorem legal_iff : legalB bs cs ms i j = true ↔ 1 ≤ ledQ bs ms i j ∧ (cs.getD i.toNat (0, 0)).1 < ldg cs.length bs ms i ∧ ldg cs.length bs ms j < (cs.getD j.toNat (0, 0)).2 := by
  unfold legalB sparesQ ldg
  simp only [List.all_cons, List.all_nil, Bool.and_true, Bool.and_eq_true, decide_eq_true_eq]
  omega
/-- leads, all loads within their bounds -/
def VL (bs : List Bun) (cs : List Bnd) (ms : List Int) : Prop := LeadsOk ms bs ∧ ∀ x : Int, 0 ≤ x → x < (cs.length : Int) → (cs.getD x.toNat (0, 0)).1 ≤ ldg cs.length bs ms x ∧ ldg cs.length bs ms x ≤ (cs.getD x.toNat (0, 0)).2
theorem VL.moved (v : VL bs cs ms) (ho : ∀ t ∈ bs, BunOk (cs.length : Int) t) (hij : i ≠ j) (hk : idx bs (min i j) (max i j) = some k) (hg : legalB bs cs ms i j = true) : VL bs cs (movedQ ms k i j 1) := by
  obtain ⟨h1, h2, h3⟩ := legal_iff.mp hg
  refine ⟨moved_ok v.1 hk (by omega) h1, fun x x0 x1 => ?_⟩
  rw [moved_load v.1.1 ho hij hk x0 x1]
  have := v.2 x x0 x1
  by_cases e1 : x = i
  · subst e1
    rw [if_pos rfl, if_neg hij]
    omega
  · rw [if_neg e1]
    by_cases e2 : x = j
    · subst e2
      rw [if_pos rfl]
      omega
    · rw [if_neg e2]; omega
theorem legal_back (hl : ms.length = bs.length) (v : VL bs cs ms) (ho : ∀ t ∈ bs, BunOk (cs.length : Int) t) (hij : i ≠ j) (i0 : 0 ≤ i) (i1 : i < (cs.length : Int)) (j0 : 0 ≤ j) (j1 : j < (cs.length : Int)) (hk : idx bs (min i j) (max i j) = some k) (hb : ∀ t ∈ bs, 1 ≤ t.2.2 ∧ t.2.2 ≤ 1000000000000000000) : legalB bs cs (movedQ ms k i j 1) j i = true := by
  rw [legal_iff, moved_led' hl hij hk, moved_load hl ho hij hk j0 j1, moved_load hl ho hij hk i0 i1, if_neg hij.symm, if_pos rfl, if_pos rfl, if_neg hij]
  have v1 := v.2 i i0 i1
  have v2 := v.2 j j0 j1
  have h0 : 0 ≤ ledQ bs ms j i := by
    have hk' : idx bs (min j i) (max j i) = some k := by rw [Int.min_comm, Int.max_comm]; exact hk
    obtain ⟨m, t, em, et, _⟩ := moved_get (q := 0) hl hk
    rw [ledQ_some hk' em et]
    have := v.1.2 k m t em et
    split <;> omega
  omega
theorem firstQ_none (v : VL bs cs ms) : firstQ cs (loadsP cs.length ms bs) = none := by
  unfold firstQ
  rw [List.findIdx?_eq_none_iff]
  intro p hp
  obtain ⟨y, hy, e⟩ := List.mem_iff_getElem.mp hp
  rw [List.length_zip, loadsP_len] at hy
  have := v.2 (y : Int) (by omega) (by omega)
  unfold ldg at this
  rw [← e, List.getElem_zip]
  have g1 : cs.getD (y : Int).toNat (0, 0) = cs[y]'(by omega) := by rw [Int.toNat_natCast, List.getD_eq_getElem?_getD, List.getElem?_eq_getElem (by omega)]; rfl
  have g2 : (loadsP cs.length ms bs).getD (y : Int).toNat 0 = (loadsP cs.length ms bs)[y]'(by rw [loadsP_len]; omega) := by rw [Int.toNat_natCast, List.getD_eq_getElem?_getD, List.getElem?_eq_getElem (by rw [loadsP_len]; omega)]; rfl
  rw [g1, g2] at this
  simp [withinB, this.1, this.2]
end
end R

/-! ## L12: what the law's own legal and moved say -/
namespace R
open PySem PySem.Spec PyProof.Rows L2 G
theorem ledQ_in' {bs : List Bun} {ms : List Int} (hm : LeadsOk ms bs) (i j : Int) : 0 ≤ ledQ bs ms i j := by
  cases e : idx bs (min i j) (max i j) with
  | none => unfold ledQ; rw [e]; simp
  | some n =>
    obtain ⟨m, t, em, et, _⟩ := moved_get (q := 0) hm.1 e
    rw [ledQ_some e em et]
    have := hm.2 n m t em et
    split <;> omega
theorem at_int {xs : List Int} {i x : Int} (i0 : 0 ≤ i) (h : xs[i.toNat]? = some x) : atI (iW xs) i = some (.v (.int x)) := by
  have := atI_at (xs := iW xs) (n := i.toNat) (x := W.v (.int x)) (by simp [h])
  rwa [Int.toNat_of_nonneg i0] at this
theorem at_map {α : Type} {f : α → W} {xs : List α} {i : Int} {x : α} (i0 : 0 ≤ i) (h : xs[i.toNat]? = some x) : atI (xs.map f) i = some (f x) := by
  have := atI_at (xs := xs.map f) (n := i.toNat) (x := f x) (by simp [h])
  rwa [Int.toNat_of_nonneg i0] at this
theorem at2_0 {α : Type} (a b : α) : atI [a, b] 0 = some a := rfl
theorem at2_1 {α : Type} (a b : α) : atI [a, b] 1 = some b := rfl
theorem f_law_legal_eq {A : Ad} {bs : List Bun} {cs : List Bnd} {ms : List Int} {i j : Int} {Q : D → Prop} (h : ∀ t ∈ bs, BunOk (cs.length : Int) t) (hc : cs.length ≤ 1000) (hm : LeadsOk ms bs) (hij : i ≠ j) (i0 : 0 ≤ i) (i1 : i < (cs.length : Int)) (j0 : 0 ≤ j) (j1 : j < (cs.length : Int)) :
    f__law_legal A [.lst (cs.map bndW), .lst (bs.map bunW), .tup (iW ms), .v (.int i), .v (.int j)] Q = Q (.bl (legalB bs cs ms i j)) := by
  have fl : ∀ Q, f__law_loads A [.v (.int (cs.length : Int)), .lst (bs.map bunW), .tup (iW ms)] Q = Q (.lst (iW (loadsP cs.length ms bs))) := fun Q => f_law_loads_eq (t := true) h hc hm.1
  have fd : ∀ Q, f__law_led A [.lst (bs.map bunW), .tup (iW ms), .v (.int i), .v (.int j)] Q = Q (.int (ledQ bs ms i j)) := fun Q => f_law_led_eq hm.1 hij fun t ht => (h t ht).fs
  have h0 := ledQ_in' hm i j
  have lg : legalB bs cs ms i j = (decide (1 ≤ ledQ bs ms i j) && (decide ((cs.getD i.toNat (0, 0)).1 < ldg cs.length bs ms i) && decide (ldg cs.length bs ms j < (cs.getD j.toNat (0, 0)).2))) := by
    rw [Bool.eq_iff_iff, legal_iff]
    simp
  rw [lg]
  unfold ldg
  have hlen : (loadsP cs.length ms bs).length = cs.length := loadsP_len _ _ _
  clear lg
  generalize loadsP cs.length ms bs = hs at *
  generalize ledQ bs ms i j = e at *
  obtain ⟨x, hx⟩ : ∃ x, hs[i.toNat]? = some x := ⟨_, List.getElem?_eq_getElem (by omega)⟩
  obtain ⟨y, hy⟩ : ∃ y, hs[j.toNat]? = some y := ⟨_, List.getElem?_eq_getElem (by omega)⟩
  obtain ⟨c, hcx⟩ : ∃ c, cs[i.toNat]? = some c := ⟨_, List.getElem?_eq_getElem (by omega)⟩
  obtain ⟨d, hdx⟩ : ∃ d, cs[j.toNat]? = some d := ⟨_, List.getElem?_eq_getElem (by omega)⟩
  have a1 := at_int i0 hx
  have a2 := at_int j0 hy
  have a3 := at_map (f := bndW) i0 hcx
  have a4 := at_map (f := bndW) j0 hdx
  have e1 : hs.getD i.toNat 0 = x := by rw [List.getD_eq_getElem?_getD, hx]; rfl
  have e2 : hs.getD j.toNat 0 = y := by rw [List.getD_eq_getElem?_getD, hy]; rfl
  have e3 : cs.getD i.toNat (0, 0) = c := by rw [List.getD_eq_getElem?_getD, hcx]; rfl
  have e4 : cs.getD j.toNat (0, 0) = d := by rw [List.getD_eq_getElem?_getD, hdx]; rfl
  rw [e1, e2, e3, e4]
  simp [f__law_legal, p__law_legal, fl, fd, a1, a2, a3, a4, -Option.map_some]
  by_cases he : e = 0
  · rw [if_pos he, decide_eq_false (by omega : ¬ 1 ≤ e)]; simp
  · rw [if_neg he, decide_eq_true (by omega : 1 ≤ e)]
    by_cases h1 : c.1 < x
    · simp [bndW, at2_0]
      rw [if_pos h1, a2]
      simp [a4]
      simp [bndW, at2_1, h1]
    · simp [h1, bndW, at2_0, at2_1]
/-- what _law_moved makes of one row -/
def mvT (i j q : Int) (z : Int × Bun) : Int := if z.2.1 = i ∧ z.2.2.1 = j then z.1 - q else if z.2.1 = j ∧ z.2.2.1 = i then z.1 + q else z.1
theorem mvT_none {i j q : Int} : ∀ {ms : List Int} {bs : List Bun}, ms.length = bs.length → (∀ t ∈ bs, ¬ (t.1 = i ∧ t.2.1 = j) ∧ ¬ (t.1 = j ∧ t.2.1 = i)) → (ms.zip bs).map (mvT i j q) = ms
  | [], [], _, _ => rfl
  | [], _ :: _, h, _ => by cases h
  | _ :: _, [], h, _ => by cases h
  | m :: ms, t :: bs, h, hn => by
    have := hn t List.mem_cons_self
    rw [List.zip_cons_cons, List.map_cons, mvT_none (by simpa using h) fun t ht => hn t (List.mem_cons_of_mem _ ht)]
    unfold mvT
    rw [if_neg this.1, if_neg this.2]
theorem mvT_eq {i j q : Int} (hij : i ≠ j) : ∀ {ms : List Int} {bs : List Bun} {k : Nat}, ms.length = bs.length → (∀ t ∈ bs, t.1 < t.2.1) → (bs.map bkey).Nodup → idx bs (min i j) (max i j) = some k → (ms.zip bs).map (mvT i j q) = movedQ ms k i j q
  | [], [], k, _, _, _, h => by cases h
  | [], _ :: _, _, h, _, _, _ => by cases h
  | _ :: _, [], _, h, _, _, _ => by cases h
  | m :: ms, t :: bs, k, hl, hf, nd, h => by
    rw [List.map_cons, List.nodup_cons] at nd
    rw [idx_cons] at h
    have ht := hf t List.mem_cons_self
    rw [List.zip_cons_cons, List.map_cons]
    by_cases e : t.1 = min i j ∧ t.2.1 = max i j
    · rw [if_pos e] at h
      cases h
      rw [mvT_none (by simpa using hl) fun u hu => by
        have nk : ¬ (u.1 = t.1 ∧ u.2.1 = t.2.1) := fun z => nd.1 (List.mem_map.mpr ⟨u, hu, by unfold bkey; rw [z.1, z.2]⟩)
        have := hf u (List.mem_cons_of_mem _ hu)
        omega]
      unfold mvT movedQ chg
      simp only [List.getD_cons_zero, List.set_cons_zero]
      congr 1
      rcases Int.lt_or_gt_of_ne hij with h1 | h1
      · rw [if_pos (by omega), if_pos h1]; omega
      · rw [if_neg (by omega), if_pos (by omega), if_neg (by omega)]
    · rw [if_neg e] at h
      cases e1 : idx bs (min i j) (max i j) with
      | none => rw [e1] at h; cases h
      | some k' =>
        rw [e1] at h
        cases h
        rw [mvT_eq hij (by simpa using hl) (fun t ht => hf t (List.mem_cons_of_mem _ ht)) nd.2 e1]
        unfold mvT movedQ
        simp only [List.getD_cons_succ, List.set_cons_succ]
        congr 1
        rw [if_neg (by omega), if_neg (by omega)]
theorem f_law_moved_eq {A : Ad} {bs : List Bun} {ms : List Int} {i j q : Int} {Q : D → Prop} (hl : ms.length = bs.length) (h1000 : bs.length ≤ 1000) : f__law_moved A [.lst (bs.map bunW), .tup (iW ms), .v (.int i), .v (.int j), .v (.int q)] Q = Q (.sh (.tup (iW ((ms.zip bs).map (mvT i j q))))) := by
  have lp : ∀ (E : EQ) Z, (∀ d : D × D × D × D, E.nx [.sh (.lst (bs.map bunW)), .sh (.tup (iW ms)), .int i, .int j, .int q, .lst (iW ((ms.zip bs).map (mvT i j q))), d.1, d.2.1, d.2.2.1, d.2.2.2] = Z) → qLoop (p__law_moved_g0 A) (p__law_moved_b0 A) E ((ms.zip bs).map fun p => W.tup [.v (.int p.1), bunW p.2]) [.sh (.lst (bs.map bunW)), .sh (.tup (iW ms)), .int i, .int j, .int q, .lst [], .un, .un, .un, .un] = Z := fun E Z hE => by
    have hz : (ms.zip bs).length ≤ 1000 := by rw [List.length_zip]; omega
    generalize ms.zip bs = zs at *
    have key : ∀ (zs : Zs) (acc : List Int) (d : D × D × D × D), acc.length + zs.length ≤ 1000 → (∀ d : D × D × D × D, E.nx [.sh (.lst (bs.map bunW)), .sh (.tup (iW ms)), .int i, .int j, .int q, .lst (iW (acc ++ zs.map (mvT i j q))), d.1, d.2.1, d.2.2.1, d.2.2.2] = Z) → qLoop (p__law_moved_g0 A) (p__law_moved_b0 A) E (zs.map fun p => W.tup [.v (.int p.1), bunW p.2]) [.sh (.lst (bs.map bunW)), .sh (.tup (iW ms)), .int i, .int j, .int q, .lst (iW acc), d.1, d.2.1, d.2.2.1, d.2.2.2] = Z := by
      intro zs
      induction zs with
      | nil => intro acc d _ h; simpa using h d
      | cons z zs ih =>
        intro acc d hlen h
        obtain ⟨m, f, s, p⟩ := z
        rw [List.length_cons] at hlen
        rw [List.map_cons]
        have ih' := fun x d => ih (acc ++ [x]) d (by rw [List.length_append, List.length_singleton]; omega)
        have hacc : acc.length < 100000 := by omega
        simp only [List.append_assoc, List.map_append, List.map_cons, List.map_nil] at ih' h
        by_cases c1 : f = i ∧ s = j
        · have e : mvT i j q (m, f, s, p) = m - q := by unfold mvT; exact if_pos c1
          rw [e] at h
          simp [p__law_moved_g0, p__law_moved_b0, bunW, c1.1, c1.2, hacc]
          exact Eq.to_iff (ih' (m - q) (.int (m - q), .int i, .int j, .int p) h)
        · by_cases c2 : f = j ∧ s = i
          · have e : mvT i j q (m, f, s, p) = m + q := by unfold mvT; rw [if_neg c1, if_pos c2]
            rw [e] at h
            have c1' : ¬ (j = i ∧ i = j) := fun z => c1 (by omega)
            simp [p__law_moved_g0, p__law_moved_b0, bunW, c2.1, c2.2, c1', hacc]
            exact Eq.to_iff (ih' (m + q) (.int (m + q), .int j, .int i, .int p) h)
          · have e : mvT i j q (m, f, s, p) = m := by unfold mvT; rw [if_neg c1, if_neg c2]
            rw [e] at h
            simp [p__law_moved_g0, p__law_moved_b0, bunW, c1, c2, hacc]
            exact Eq.to_iff (ih' m (.int m, .int f, .int s, .int p) h)
    exact key zs [] (.un, .un, .un, .un) (by simpa using hz) (by simpa using hE)
  have hzl : ((ms.zip bs).map (mvT i j q)).length ≤ 100000 := by rw [List.length_map, List.length_zip]; omega
  simp [f__law_moved, p__law_moved, pairW_zip]
  exact Eq.to_iff (lp _ _ fun d => by simp)
end R

namespace R
open PySem PySem.Spec PyProof.Rows L2 G
def p__law_strewn_g0 (A : Ad) : TGQ :=
    (gqName 6)
def p__law_strewn_b0 (A : Ad) : TSQ :=
    (sIf (qB (qOp (oEq false) (vE (qCall f_take 2 (aCons (qVar 0) (aCons (qVar 3) aNil)))) (vE (qC (.int 0))))) (sDrop (qInsert 4 (qCall f_take 2 (aCons (qVar 0) (aCons (qOp oPlus (vE (qCB bLen (vCons (vVar 4) vNil))) (vE (qC (.int 1)))) aNil))) (qTup (aCons (qVar 5) (aCons (qVar 6) (aCons (qCall (f__law_amount A) 2 (aCons (qVar 0) (aCons (qVar 2) aNil))) aNil)))))) sNext)
def p__law_strewn_g1 (A : Ad) : TGQ :=
    (gqName 5)
def p__law_strewn_b1 (A : Ad) : TSQ :=
    (sFor (iqRng2 (vCons (vE (qOp oPlus (vVar 5) (vE (qC (.int 1))))) (vCons (vVar 1) vNil))) (p__law_strewn_g0 A) (p__law_strewn_b0 A))
def p__law_strewn (A : Ad) : TSQ :=
    (sSeq (sPar 3 4 (qOp oPlus (vE (qC (.int 1))) (vE (qCall f_take 2 (aCons (qVar 0) (aCons (qC (.int 3)) aNil))))) (qLst aNil))
    (sSeq (sFor (iqRng1 (vCons (vVar 1) vNil)) (p__law_strewn_g1 A) (p__law_strewn_b1 A))
    (sRet (qOrT (qVar 4) (qLst (aCons (qTup (aCons (qC (.int 0)) (aCons (qC (.int 1)) (aCons (qCall (f__law_amount A) 2 (aCons (qVar 0) (aCons (qVar 2) aNil))) aNil)))) aNil))))))
def f__law_strewn (A : Ad) : PF := runF (p__law_strewn A) 4

def p__law_net_2_g0 (A : Ad) : TGQ :=
    (gqTup 3 (gqCons (gqName 6) (gqCons (gqName 7) (gqCons (gqName 8) gqNil))))
def p__law_net_2_b0 (A : Ad) : TSQ :=
    (sDrop (qAppend 5 (qOp oIx (vE (qLst (aCons (qC (.int 0)) (aCons (qVar 8) (aCons (qCall f_take 2 (aCons (qVar 0) (aCons (qOp oPlus (vVar 8) (vE (qC (.int 1)))) aNil))) aNil))))) (vE (qCall f_take 2 (aCons (qVar 0) (aCons (qC (.int 3)) aNil)))))))
def p__law_net_2 (A : Ad) : TSQ :=
    (sSeq (sAsg (qOp oPlus (vE (qC (.int 2))) (vE (qCall f_take 2 (aCons (qVar 0) (aCons (qOp (oI0 fun i j => .int (i - j)) (vVar 1) (vE (qC (.int 1)))) aNil))))) (gqName 3))
    (sSeq (sAsg (qCall (f__law_strewn A) 3 (aCons (qVar 0) (aCons (qVar 3) (aCons (qVar 2) aNil)))) (gqName 4))
    (sSeq (sAsg (qLst aNil) (gqName 5))
    (sSeq (sFor (iqSeq (qVar 4)) (p__law_net_2_g0 A) (p__law_net_2_b0 A))
    (sRet (qNTup (nCons (qCall (f__law_bounds A) 2 (aCons (qVar 0) (aCons (qCall (f__law_loads A) 3 (aCons (qVar 3) (aCons (qVar 4) (aCons (qVar 5) aNil)))) aNil))) (nCons (qMove 4) (nCons (qCB bTup (vCons (vVar 5) vNil)) nNil)))))))))
def f__law_net_2 (A : Ad) : PF := runF (p__law_net_2 A) 6

def p__law_pairs_g0 (A : Ad) : TGQ :=
    (gqTup 3 (gqCons (gqName 2) (gqCons (gqName 3) (gqCons (gqName 4) gqNil))))
def p__law_pairs_b0 (A : Ad) : TSQ :=
    (sAsg (qOp oPlus (vVar 1) (vE (qLst (aCons (qTup (aCons (qVar 2) (aCons (qVar 3) aNil))) (aCons (qTup (aCons (qVar 3) (aCons (qVar 2) aNil))) aNil))))) (gqName 1))
def p__law_pairs (A : Ad) : TSQ :=
    (sSeq (sAsg (qLst aNil) (gqName 1))
    (sSeq (sFor (iqSeq (qVar 0)) (p__law_pairs_g0 A) (p__law_pairs_b0 A))
    (sRetV 1)))
def f__law_pairs (A : Ad) : PF := runF (p__law_pairs A) 4

def p__law_legal_pairs_g0 (A : Ad) : TGQ :=
    (gqTup 2 (gqCons (gqName 4) (gqCons (gqName 5) gqNil)))
def p__law_legal_pairs_b0 (A : Ad) : TSQ :=
    (sIf (qB (qCall (f__law_legal A) 5 (aCons (qVar 0) (aCons (qVar 1) (aCons (qVar 2) (aCons (qVar 4) (aCons (qVar 5) aNil))))))) (sDrop (qAppend 3 (qTup (aCons (qVar 4) (aCons (qVar 5) aNil))))) sNext)
def p__law_legal_pairs (A : Ad) : TSQ :=
    (sSeq (sAsg (qLst aNil) (gqName 3))
    (sSeq (sFor (iqSeq (qCall (f__law_pairs A) 1 (aCons (qVar 1) aNil))) (p__law_legal_pairs_g0 A) (p__law_legal_pairs_b0 A))
    (sRetV 3)))
def f__law_legal_pairs (A : Ad) : PF := runF (p__law_legal_pairs A) 3

def p__law_walk_g0 (A : Ad) : TGQ :=
    (gqName 6)
def p__law_walk_b0 (A : Ad) : TSQ :=
    (sSeq (sAsg (qCall (f__law_legal_pairs A) 3 (aCons (qVar 1) (aCons (qVar 2) (aCons (qVar 3) aNil)))) (gqName 7))
    (sIf (qB (qOp (oEq true) (vVar 7) (vE (qLst aNil)))) (sSeq (sDrop (qAppend 5 (qOp oIx (vVar 7) (vE (qCall f_take 2 (aCons (qVar 0) (aCons (qCB bLen (vCons (vVar 7) vNil)) aNil)))))))
    (sAsg (qCall (f__law_moved A) 5 (aCons (qVar 2) (aCons (qVar 3) (aCons (qOp oIx (vE (qOp oIx (vVar 5) (vE (qUn (oU fun i => .int (-i)) (vE (qC (.int 1))))))) (vE (qC (.int 0)))) (aCons (qOp oIx (vE (qOp oIx (vVar 5) (vE (qUn (oU fun i => .int (-i)) (vE (qC (.int 1))))))) (vE (qC (.int 1)))) (aCons (qC (.int 1)) aNil)))))) (gqName 3))) sNext))
def p__law_walk (A : Ad) : TSQ :=
    (sSeq (sAsg (qLst aNil) (gqName 5))
    (sSeq (sFor (iqRng1 (vCons (vE (qCall f_take 2 (aCons (qVar 0) (aCons (qOp oPlus (vVar 4) (vE (qC (.int 1)))) aNil)))) vNil)) (p__law_walk_g0 A) (p__law_walk_b0 A))
    (sRet (qTup (aCons (qVar 5) (aCons (qVar 3) aNil))))))
def f__law_walk (A : Ad) : PF := runF (p__law_walk A) 3

def p_legal_g0 (A : Ad) : TGQ :=
    (gqTup 2 (gqCons (gqName 6) (gqCons (gqName 7) gqNil)))
def p_legal_b0 (A : Ad) : TSQ :=
    (sIf (qB (qCall (f_is_legal A) 4 (aCons (qVar 0) (aCons (qVar 1) (aCons (qVar 6) (aCons (qVar 7) aNil)))))) (sDrop (qAppend 2 (qTup (aCons (qVar 6) (aCons (qVar 7) aNil))))) sNext)
def p_legal_g1 (A : Ad) : TGQ :=
    (gqTup 3 (gqCons (gqName 3) (gqCons (gqName 4) (gqCons (gqName 5) gqNil))))
def p_legal_b1 (A : Ad) : TSQ :=
    (sFor (iqSeq (qTup (aCons (qTup (aCons (qVar 3) (aCons (qVar 4) aNil))) (aCons (qTup (aCons (qVar 4) (aCons (qVar 3) aNil))) aNil)))) (p_legal_g0 A) (p_legal_b0 A))
def p_legal (A : Ad) : TSQ :=
    (sSeq (sAsg (qLst aNil) (gqName 2))
    (sSeq (sFor (iqSeq (qMeth A.Cluster "bundles" (f_Cluster_bundles A) 0 (qVar 0) aNil)) (p_legal_g1 A) (p_legal_b1 A))
    (sRet (qCB bSorted (vCons (vVar 2) vNil)))))
def f_legal (A : Ad) : PF := runF (p_legal A) 6

def p_law_k21_g0 (A : Ad) : TGQ :=
    (gqName 9)
def p_law_k21_b0 (A : Ad) : TSQ :=
    (sSeq (sAsg (qCB bSorted (vCons (vE (qCall (f__law_legal_pairs A) 3 (aCons (qVar 3) (aCons (qVar 4) (aCons (qVar 9) aNil))))) vNil)) (gqName 10))
    (sSeq (sAsg (qCall (f_legal A) 2 (aCons (qVar 6) (aCons (qVar 9) aNil))) (gqName 11))
    (sSeq (sIf (qNot (qB (qCB (bF 2 (f__law_alike A)) (vCons (vVar 11) (vCons (vVar 10) vNil))))) (sRet (qC (.bl false))) sNext)
    (sSeq (sDrop (qAppend 11 (qTup (aCons (qC (.int 0)) (aCons (qC (.int 1)) aNil)))))
    (sIf (qNot (qB (qCB (bF 2 (f__law_alike A)) (vCons (vE (qCall (f_legal A) 2 (aCons (qVar 6) (aCons (qVar 9) aNil)))) (vCons (vVar 10) vNil))))) (sRet (qC (.bl false))) sNext)))))
def p_law_k21_g1 (A : Ad) : TGQ :=
    (gqName 2)
def p_law_k21_b1 (A : Ad) : TSQ :=
    (sSeq (sAsg (qCall (f__law_net_2 A) 3 (aCons (qVar 1) (aCons (qC (.int 10)) (aCons (qC (.bl true)) aNil)))) (gqTup 3 (gqCons (gqName 3) (gqCons (gqName 4) (gqCons (gqName 5) gqNil)))))
    (sSeq (sAsg (qMake A.Cluster (f_Clusteru_initu A) (aCons (qVar 3) (aCons (qVar 4) aNil))) (gqName 6))
    (sSeq (sAsg (qCall (f__law_walk A) 5 (aCons (qVar 1) (aCons (qVar 3) (aCons (qVar 4) (aCons (qVar 5) (aCons (qC (.int 8)) aNil)))))) (gqTup 2 (gqCons (gqName 7) (gqCons (gqName 8) gqNil))))
    (sFor (iqSeq (qLst (aCons (qVar 5) (aCons (qVar 8) aNil)))) (p_law_k21_g0 A) (p_law_k21_b0 A)))))
def p_law_k21 (A : Ad) : TSQ :=
    (sSeq (sFor (iqRng1 (vCons (vE (qC (.int 4))) vNil)) (p_law_k21_g1 A) (p_law_k21_b1 A))
    (sRet (qOp (oEq false) (vE (qCall (f_legal A) 2 (aCons (qMake A.Cluster (f_Clusteru_initu A) (aCons (qLst (aCons (qTup (aCons (qC (.int 0)) (aCons (qC (.int 1)) aNil))) (aCons (qTup (aCons (qC (.int 0)) (aCons (qC (.int 1)) aNil))) aNil))) (aCons (qLst aNil) aNil))) (aCons (qTup aNil) aNil)))) (vE (qLst aNil)))))

end R

/-! ## L13: bundles strewn; any net; pairs, legal ones, walks of the law -/
namespace R
open PySem PySem.Spec PyProof.Rows L2 G
/-- a loop that adds to a list -/
theorem loop_acc {α β J : Type} {g : TGQ} {b : TSQ} {E : EQ} (enc : α → W) (Rr : List β → J → List D) (f : α → List β) (jk : List β → α → J → J) (m : Nat) {Z : Prop} : ∀ {xs : List α} {acc : List β} {j : J}, acc.length + m * xs.length ≤ 99990 → (∀ x ∈ xs, (f x).length ≤ m) →
    (∀ x ∈ xs, ∀ acc j ws', acc.length + m ≤ 99990 → qLoop g b E (enc x :: ws') (Rr acc j) = qLoop g b E ws' (Rr (acc ++ f x) (jk acc x j))) → (∀ j, E.nx (Rr (acc ++ xs.flatMap f) j) = Z) → qLoop g b E (xs.map enc) (Rr acc j) = Z
  | [], acc, j, _, _, _, hZ => by simpa using hZ j
  | x :: xs, acc, j, hl, hm, h, hZ => by
    have hx := hm x List.mem_cons_self
    rw [List.length_cons, Nat.mul_add] at hl
    rw [List.map_cons, h x List.mem_cons_self acc j _ (by omega)]
    refine loop_acc enc Rr f jk m (by rw [List.length_append]; omega) (fun y hy => hm y (List.mem_cons_of_mem _ hy)) (fun y hy => h y (List.mem_cons_of_mem _ hy)) fun j => ?_
    rw [← hZ j, List.flatMap_cons, List.append_assoc]
theorem bunsTo_perm {n i j : Int} {bs cs : List Bun} (h : BunsTo n i j bs) (p : cs.Perm bs) : BunsTo n i j cs := ⟨fun t ht => h.each t (p.mem_iff.mp ht), fun t ht => h.lt t (p.mem_iff.mp ht), (p.map bkey).nodup_iff.mpr h.nd⟩
theorem ins_perm {α : Type} (xs : List α) (k : Nat) (x : α) : (xs.take k ++ [x] ++ xs.drop k).Perm (xs ++ [x]) := by
  have h : (xs.take k ++ [x] ++ xs.drop k).Perm (xs.take k ++ (xs.drop k ++ [x])) := by
    rw [List.append_assoc]
    exact (List.perm_append_comm).append_left _
  rwa [← List.append_assoc, List.take_append_drop] at h
theorem insW_map {α : Type} (f : α → W) (xs : List α) (k : Nat) (x : α) : insW (xs.map f) k (f x) = (xs.take k ++ [x] ++ xs.drop k).map f := by
  unfold insW
  rw [List.map_append, List.map_append, List.map_take, List.map_drop]
  rfl
/-- what a def that draws bundles promises -/
def DrawsB (fb : PF) : Prop := ∀ (n : Int) (g : Bool) (Q : D → Prop), 2 ≤ n → n ≤ 10 → (∀ bs : List Bun, BunsOk n bs → bs ≠ [] → Q (.lst (bs.map bunW)) ∧ Q (.sh (.lst (bs.map bunW)))) → fb [.bag, .v (.int n), .v (.bl g)] Q
theorem draws_bundles (A : Ad) : DrawsB (f__law_bundles A) := fun n g Q n0 n1 h => f_bundles_of n0 n1 h
theorem draws_strewn (A : Ad) : DrawsB (f__law_strewn A) := fun n g Q n0 n1 h => by
  simp [f__law_strewn, p__law_strewn]
  intro r r0 r1
  refine ⟨by omega, loop_rng (fun i ρ => ∃ bs x5 x6, ρ = [.sh .bag, .int n, .bl g, .int (1 + r), .lst (bs.map bunW), x5, x6] ∧ BunsTo n i 0 bs ∧ bs.length ≤ tri i) ⟨[], _, _, rfl, BunsTo.nil, Nat.le_refl _⟩ ?_ ?_⟩
  · rintro i _ hi ⟨bs, x5, x6, rfl, ho, hlen⟩ T k
    simp [p__law_strewn_g1, p__law_strewn_b1]
    refine ⟨by omega, loop_rng (fun j ρ => ∃ bs x6, ρ = [.sh .bag, .int n, .bl g, .int (1 + r), .lst (bs.map bunW), .int (i : Int), x6] ∧ BunsTo n i (i + 1 + (j : Int)) bs ∧ bs.length ≤ tri i + j) ⟨bs, _, rfl, ho.on (Or.inr ⟨by omega, by omega⟩), by omega⟩ ?_ ?_⟩
    · clear k
      rintro j _ hj ⟨bs, x6, rfl, ho, hlen⟩ T k
      have ht := tri45 i (by omega)
      simp [p__law_strewn_g0, p__law_strewn_b0]
      refine ⟨by omega, fun v v0 v1 => ?_⟩
      split
      · refine ⟨by omega, fun u u0 u1 => f_amount_of fun p p0 p1 => ?_⟩
        have e := insW_map bunW bs u.toNat ((i : Int), (i : Int) + 1 + (j : Int), p)
        have hp := ins_perm bs u.toNat ((i : Int), (i : Int) + 1 + (j : Int), p)
        have sn := ho.snoc (j' := (i : Int) + 1 + ((j + 1 : Nat) : Int)) (p := p) ⟨by show (0 : Int) ≤ i; omega, by show (i : Int) < i + 1 + j; omega, by show (i : Int) + 1 + j < n; omega, p0, p1⟩ (by omega)
        have sl := hp.length_eq
        generalize bs.take u.toNat ++ [((i : Int), (i : Int) + 1 + (j : Int), p)] ++ bs.drop u.toNat = bs2 at e hp sl
        rw [List.length_append, List.length_singleton] at sl
        simp
        refine ⟨by omega, ?_⟩
        have e' : insW (bs.map bunW) u.toNat (.tup [.v (.int (i : Int)), .v (.int ((i : Int) + 1 + (j : Int))), .v (.int p)]) = bs2.map bunW := e
        rw [e']
        exact k _ ⟨bs2, _, rfl, bunsTo_perm sn hp, by omega⟩
      · exact k _ ⟨bs, _, rfl, ho.on (Or.inr ⟨rfl, by omega⟩), by omega⟩
    · rintro _ ⟨bs, x6, rfl, ho, hlen⟩
      refine k _ ⟨bs, _, _, rfl, ho.on (Or.inl (by omega)), ?_⟩
      show bs.length ≤ tri i + (9 - i)
      omega
  · rintro _ ⟨bs, x5, x6, rfl, ho, hlen⟩
    have ht := tri45 n.toNat (by omega)
    simp
    split
    · refine f_amount_of fun p p0 p1 => ?_
      simp
      refine (h [(0, 1, p)] ⟨n0, n1, by show 1 ≤ 45; decide, fun t ht => ?_, by simp⟩ (by simp)).1
      rw [List.mem_singleton.mp ht]
      exact ⟨by show (0 : Int) ≤ 0; decide, by show (0 : Int) < 1; decide, by show 1 < n; omega, p0, p1⟩
    · rename_i hne
      exact (h bs ⟨n0, n1, by omega, ho.each, ho.nd⟩ hne).2
/-- a net's program, whatever draws the bundles -/
def netG : TGQ := gqTup 3 (gqCons (gqName 6) (gqCons (gqName 7) (gqCons (gqName 8) gqNil)))
def netB : TSQ := sDrop (qAppend 5 (qOp oIx (vE (qLst (aCons (qC (.int 0)) (aCons (qVar 8) (aCons (qCall f_take 2 (aCons (qVar 0) (aCons (qOp oPlus (vVar 8) (vE (qC (.int 1)))) aNil))) aNil))))) (vE (qCall f_take 2 (aCons (qVar 0) (aCons (qC (.int 3)) aNil))))))
def netP (A : Ad) (fb : PF) : TSQ :=
    (sSeq (sAsg (qOp oPlus (vE (qC (.int 2))) (vE (qCall f_take 2 (aCons (qVar 0) (aCons (qOp (oI0 fun i j => .int (i - j)) (vVar 1) (vE (qC (.int 1)))) aNil))))) (gqName 3))
    (sSeq (sAsg (qCall fb 3 (aCons (qVar 0) (aCons (qVar 3) (aCons (qVar 2) aNil)))) (gqName 4))
    (sSeq (sAsg (qLst aNil) (gqName 5))
    (sSeq (sFor (iqSeq (qVar 4)) netG netB)
    (sRet (qNTup (nCons (qCall (f__law_bounds A) 2 (aCons (qVar 0) (aCons (qCall (f__law_loads A) 3 (aCons (qVar 3) (aCons (qVar 4) (aCons (qVar 5) aNil)))) aNil))) (nCons (qMove 4) (nCons (qCB bTup (vCons (vVar 5) vNil)) nNil)))))))))
theorem netP_of {A : Ad} {fb : PF} {m : Int} {g : Bool} {Q : D → Prop} (fbo : DrawsB fb) (m0 : 2 ≤ m) (m1 : m ≤ 10) (h : ∀ (n : Int) (bs : List Bun) (ms : List Int) (cs : List Bnd), n ≤ m → NetOk n bs ms cs → Q (.ntup [.lst (cs.map bndW), .sh (.lst (bs.map bunW)), .sh (.tup (iW ms))])) : runF (netP A fb) 6 [.bag, .v (.int m), .v (.bl g)] Q := by
  simp [netP]
  refine ⟨by omega, fun v v0 v1 => fbo _ _ _ (by omega) (by omega) fun bs ho hne => ?_⟩
  have hn : (2 + v) = ((2 + v).toNat : Int) := by omega
  constructor
  all_goals
    simp
    refine loop_inv bunW (xs := bs) (fun i ρ => ∃ ms y6 y7 y8, ρ = [.sh .bag, .int m, .bl g, .int (2 + v), .sh (.lst (bs.map bunW)), .lst (iW ms), y6, y7, y8] ∧ LeadsOk ms (bs.take i)) ⟨[], _, _, _, rfl, ⟨rfl, fun i c x h => by cases h⟩⟩ ?_ ?_
    · rintro i t _ ht ⟨ms, y6, y7, y8, rfl, hm⟩ T k
      have ob := ho.each t (List.mem_of_getElem? ht)
      have p1 := ob.p1
      have pm := ob.pm
      have hil := get_lt ht
      have hml : ms.length ≤ 45 := by rw [hm.1, List.length_take]; have := ho.len; omega
      simp [netG, netB, bunW]
      refine ⟨by omega, fun u u0 u1 x x0 x1 => onW_pick x0 (by simpa using x1) fun w hw => ?_⟩
      obtain ⟨q, rfl, q0, q1⟩ : ∃ q : Int, w = .v (.int q) ∧ 0 ≤ q ∧ q ≤ t.2.2 := by
        simp only [List.mem_cons, List.not_mem_nil, or_false] at hw
        rcases hw with rfl | rfl | rfl <;> exact ⟨_, rfl, by omega, by omega⟩
      simp
      exact ⟨by omega, k _ ⟨ms ++ [q], .int t.1, .int t.2.1, .int t.2.2, by simp, hm.snoc ht (by omega) (by omega)⟩⟩
    · rintro _ ⟨ms, y6, y7, y8, rfl, hm⟩
      rw [List.take_length] at hm
      have ldin := loads_in (k := (2 + v).toNat) ho hm
      have ldln := loadsP_len (2 + v).toNat ms bs
      have fl : ∀ Q, f__law_loads A [.v (.int (2 + v)), .lst (bs.map bunW), .lst (iW ms)] Q = Q (.lst (iW (loadsP (2 + v).toNat ms bs))) := fun Q => by
        rw [hn]
        exact f_law_loads_eq (t := false) (by rw [← hn]; exact ho.each) (by omega) hm.1
      simp [fl]
      refine f_bounds_of (by omega) ldin fun cs hcs => ?_
      exact h (2 + v) bs ms cs (by omega) ⟨ho, hne, hm, hcs⟩
theorem f_net2_of {A : Ad} {m : Int} {g : Bool} {Q : D → Prop} (m0 : 2 ≤ m) (m1 : m ≤ 10) (h : ∀ (n : Int) (bs : List Bun) (ms : List Int) (cs : List Bnd), n ≤ m → NetOk n bs ms cs → Q (.ntup [.lst (cs.map bndW), .sh (.lst (bs.map bunW)), .sh (.tup (iW ms))])) : f__law_net_2 A [.bag, .v (.int m), .v (.bl g)] Q := netP_of (fb := f__law_strewn A) (draws_strewn A) m0 m1 h
/-- both orders of each bundle -/
def pairsQ (bs : List Bun) : List (Int × Int) := bs.flatMap fun t => [(t.1, t.2.1), (t.2.1, t.1)]
theorem pairsQ_len (bs : List Bun) : (pairsQ bs).length = 2 * bs.length := by
  unfold pairsQ
  induction bs with
  | nil => rfl
  | cons t bs ih => rw [List.flatMap_cons, List.length_append, ih, List.length_cons]; simp; omega
theorem pairsQ_mem {bs : List Bun} {p : Int × Int} (h : p ∈ pairsQ bs) : ∃ t ∈ bs, p = (t.1, t.2.1) ∨ p = (t.2.1, t.1) := by
  unfold pairsQ at h
  obtain ⟨t, ht, hp⟩ := List.mem_flatMap.mp h
  exact ⟨t, ht, by simpa using hp⟩
theorem f_pairs_eq {A : Ad} {bs : List Bun} {Q : D → Prop} (h : bs.length ≤ 1000) : f__law_pairs A [.lst (bs.map bunW)] Q = Q (.lst ((pairsQ bs).map pW)) := by
  simp [f__law_pairs, p__law_pairs]
  refine Eq.to_iff ?_
  have := loop_acc (E := { nx := sRetV 1 { nx := fun x => Q D.non, rt := Q }, rt := Q }) (g := p__law_pairs_g0 A) (b := p__law_pairs_b0 A) bunW (fun (acc : List (Int × Int)) (j : D × D × D) => [.sh (.lst (bs.map bunW)), .lst (acc.map pW), j.1, j.2.1, j.2.2]) (fun t : Bun => [(t.1, t.2.1), (t.2.1, t.1)]) (fun _ t _ => (.int t.1, .int t.2.1, .int t.2.2)) 2 (Z := Q (.lst ((pairsQ bs).map pW))) (xs := bs) (acc := []) (j := (.un, .un, .un)) (by simp; omega) (fun _ _ => by simp) (fun t ht acc j ws' hl => by
    have : acc.length + 2 ≤ 100000 := by omega
    simp [p__law_pairs_g0, p__law_pairs_b0, bunW, this, pW]) (fun j => by simp [pairsQ])
  simpa using this
/-- the legal ones, bundle by bundle -/
def legalP (bs : List Bun) (cs : List Bnd) (ms : List Int) : List (Int × Int) := (pairsQ bs).filter fun p => legalB bs cs ms p.1 p.2
theorem flatMap_filter {α : Type} (p : α → Bool) (xs : List α) : (xs.flatMap fun x => if p x then [x] else []) = xs.filter p := by
  induction xs with
  | nil => rfl
  | cons x xs ih => rw [List.flatMap_cons, ih, List.filter_cons]; split <;> rfl
theorem f_legal_pairs_eq {A : Ad} {bs : List Bun} {cs : List Bnd} {ms : List Int} {Q : D → Prop} (ok : ClOk bs cs) (hm : LeadsOk ms bs) : f__law_legal_pairs A [.lst (cs.map bndW), .lst (bs.map bunW), .tup (iW ms)] Q = Q (.lst ((legalP bs cs ms).map pW)) := by
  have hlen := ok.len
  simp [f__law_legal_pairs, p__law_legal_pairs, f_pairs_eq (A := A) (bs := bs) (by omega)]
  refine Eq.to_iff ?_
  have hp := pairsQ_len bs
  have := loop_acc (E := { nx := sRetV 3 { nx := fun x => Q D.non, rt := Q }, rt := Q }) (g := p__law_legal_pairs_g0 A) (b := p__law_legal_pairs_b0 A) pW (fun (acc : List (Int × Int)) (j : D × D) => [.sh (.lst (cs.map bndW)), .sh (.lst (bs.map bunW)), .sh (.tup (iW ms)), .lst (acc.map pW), j.1, j.2]) (fun p : Int × Int => if legalB bs cs ms p.1 p.2 then [p] else []) (fun _ p _ => (.int p.1, .int p.2)) 1 (Z := Q (.lst ((legalP bs cs ms).map pW))) (xs := pairsQ bs) (acc := []) (j := (.un, .un)) (by simp; omega) (fun _ _ => by split <;> simp) (fun p hp acc j ws' hl => by
    obtain ⟨t, ht, e⟩ := pairsQ_mem hp
    have ot := ok.each t ht
    have f0 := ot.f0
    have fs := ot.fs
    have sn := ot.sn
    have hl2 : acc.length < 100000 := by omega
    obtain ⟨a, b⟩ := p
    have fg : ∀ Q, f__law_legal A [.lst (cs.map bndW), .lst (bs.map bunW), .tup (iW ms), .v (.int a), .v (.int b)] Q = Q (.bl (legalB bs cs ms a b)) := fun Q => by
      rcases e with e | e <;> cases e <;> exact f_law_legal_eq ok.each (by omega) hm (by omega) (by omega) (by omega) (by omega) (by omega)
    cases hg : legalB bs cs ms a b with
    | true => simp [p__law_legal_pairs_g0, p__law_legal_pairs_b0, pW, fg, hg, hl2]
    | false => simp [p__law_legal_pairs_g0, p__law_legal_pairs_b0, pW, fg, hg]) (fun j => by
      simp only [List.nil_append, flatMap_filter (fun p : Int × Int => legalB bs cs ms p.1 p.2)]
      simp [legalP])
  simpa using this
theorem f_legal_eq {A : Ad} {bs : List Bun} {cs : List Bnd} {ms : List Int} {Q : D → Prop} (ok : ClOk bs cs) (hm : LeadsOk ms bs) : f_legal A [clW A bs cs, .tup (iW ms)] Q = Q (.lst ((psort (legalP bs cs ms)).map pW)) := by
  have hlen := ok.len
  simp [f_legal, p_legal, f_bundles_eq]
  refine Eq.to_iff ?_
  have e0 : legalP bs cs ms = bs.flatMap fun t => [(t.1, t.2.1), (t.2.1, t.1)].filter fun p => legalB bs cs ms p.1 p.2 := by
    unfold legalP pairsQ
    rw [List.filter_flatMap]
  have := loop_acc (E := { nx := sRet (qCB bSorted (vCons (vVar 2) vNil)) { nx := fun x => Q D.non, rt := Q }, rt := Q }) (g := p_legal_g1 A) (b := p_legal_b1 A) bunW (fun (acc : List (Int × Int)) (j : D × D × D × D × D) => [.sh (clW A bs cs), .sh (.tup (iW ms)), .lst (acc.map pW), j.1, j.2.1, j.2.2.1, j.2.2.2.1, j.2.2.2.2]) (fun t : Bun => [(t.1, t.2.1), (t.2.1, t.1)].filter fun p => legalB bs cs ms p.1 p.2) (fun _ t _ => (.int t.1, .int t.2.1, .int t.2.2, .int t.2.1, .int t.1)) 2 (Z := Q (.lst ((psort (legalP bs cs ms)).map pW))) (xs := bs) (acc := []) (j := (.un, .un, .un, .un, .un)) (by simp; omega) (fun t _ => by have := List.length_filter_le (fun p : Int × Int => legalB bs cs ms p.1 p.2) [(t.1, t.2.1), (t.2.1, t.1)]; simpa using this) (fun t ht acc j ws' hl => by
    have ot := ok.each t ht
    have f0 := ot.f0
    have fs := ot.fs
    have sn := ot.sn
    have hl2 : acc.length < 100000 := by omega
    have hl3 : acc.length + 1 < 100000 := by omega
    have g1 : ∀ Q, f_is_legal A [clW A bs cs, .tup (iW ms), .v (.int t.1), .v (.int t.2.1)] Q = Q (.bl (legalB bs cs ms t.1 t.2.1)) := fun Q => f_is_legal_eq ok.each (by omega) hm.1 (by omega) (by omega) (by omega) (by omega)
    have g2 : ∀ Q, f_is_legal A [clW A bs cs, .tup (iW ms), .v (.int t.2.1), .v (.int t.1)] Q = Q (.bl (legalB bs cs ms t.2.1 t.1)) := fun Q => f_is_legal_eq ok.each (by omega) hm.1 (by omega) (by omega) (by omega) (by omega)
    cases h1 : legalB bs cs ms t.1 t.2.1 <;> cases h2 : legalB bs cs ms t.2.1 t.1 <;>
      simp [p_legal_g1, p_legal_b1, p_legal_g0, p_legal_b0, bunW, g1, g2, h1, h2, hl2, hl3, pW]) (fun j => by
      rw [List.nil_append, ← e0]
      simp [sortW_ps])
  simpa using this
end R

/-! ## LG: small things for all laws -/
namespace R
open PySem PySem.Spec PyProof.Rows L2 G
theorem clW_fold' (A : Ad) (bs : List Bun) (cs : List Bnd) : W.obj A.Cluster clF [.lst (cs.map bndW), .lst (bs.map bunW), .dit (bs.map kK) (numW bs.length)] = clW A bs cs := rfl
/-- a Cluster, own or shared -/
def isCl (A : Ad) (bs : List Bun) (cs : List Bnd) (x : D) : Prop := x = .sh (clW A bs cs) ∨ x = .obj A.Cluster clF [.lst (cs.map bndW), .lst (bs.map bunW), .dit (bs.map kK) (numW bs.length)]
theorem vl_net {n : Int} {bs : List Bun} {ms : List Int} {cs : List Bnd} (h : NetOk n bs ms cs) : VL bs cs ms := by
  have hs := h.size
  have hb := h.bnds
  have n2 := h.buns.n2
  rw [show n.toNat = cs.length by omega] at hb
  refine ⟨h.leads, fun x x0 x1 => ?_⟩
  have hl := loadsP_len cs.length ms bs
  have q := hb.2 x.toNat (cs[x.toNat]'(by omega)) ((loadsP cs.length ms bs)[x.toNat]'(by omega)) (List.getElem?_eq_getElem (by omega)) (List.getElem?_eq_getElem (by omega))
  have e1 : cs.getD x.toNat (0, 0) = cs[x.toNat]'(by omega) := by rw [List.getD_eq_getElem?_getD, List.getElem?_eq_getElem (by omega)]; rfl
  have e2 : ldg cs.length bs ms x = (loadsP cs.length ms bs)[x.toNat]'(by omega) := by unfold ldg; rw [List.getD_eq_getElem?_getD, List.getElem?_eq_getElem (by omega)]; rfl
  rw [e1, e2]
  exact ⟨q.le, q.ge⟩
theorem at3_0 {α : Type} (a b c : α) : atI [a, b, c] 0 = some a := rfl
theorem at3_1 {α : Type} (a b c : α) : atI [a, b, c] 1 = some b := rfl
theorem at3_2 {α : Type} (a b c : α) : atI [a, b, c] 2 = some c := rfl
theorem f_init2' {A : Ad} {bs : List Bun} {cs : List Bnd} (h : ClOk bs cs) {Q : List Str → List W → Prop} : f_Clusteru_initu A [.lst (cs.map bndW), .lst (bs.map bunW)] Q = Q clF [.lst (cs.map bndW), .lst (bs.map bunW), .dit (bs.map kK) (numW bs.length)] := f_init_eq h
theorem ixN_last {n : Nat} (h : 0 < n) : ixN n (-1) = some (n - 1) := by
  unfold ixN
  rw [if_neg (by omega), if_pos (by omega)]
  congr 1
  omega
theorem atI_last {α : Type} {xs : List α} {x : α} (h : xs[xs.length - 1]? = some x) : atI xs (-1) = some x := by
  have hl := get_lt h
  unfold atI
  rw [ixN_last (by omega)]
  simpa using h
theorem vl_lift {bs : List Bun} {cs cs' : List Bnd} {ms : List Int} (v : VL bs cs ms) (hl : cs'.length = cs.length) (h : ∀ (i : Nat) c c', cs[i]? = some c → cs'[i]? = some c' → c'.1 ≤ c.1 ∧ c.2 ≤ c'.2) : VL bs cs' ms := by
  refine ⟨v.1, fun x x0 x1 => ?_⟩
  have q := v.2 x x0 (by omega)
  obtain ⟨c, hc⟩ : ∃ c, cs[x.toNat]? = some c := ⟨_, List.getElem?_eq_getElem (by omega)⟩
  obtain ⟨c', hc'⟩ : ∃ c, cs'[x.toNat]? = some c := ⟨_, List.getElem?_eq_getElem (by omega)⟩
  have := h x.toNat c c' hc hc'
  rw [List.getD_eq_getElem?_getD, hc] at q
  rw [List.getD_eq_getElem?_getD, hc', hl]
  simp only [Option.getD_some] at q ⊢
  omega
theorem bnd_in {bs : List Bun} {cs : List Bnd} (ok : ClOk bs cs) : ∀ c ∈ cs, 0 ≤ c.1 ∧ c.1 ≤ c.2 ∧ c.2 ≤ 1000000000000000000000000000000 := fun c hc => by
  have h := ok.bnds
  simp only [areBoundsW, Bool.and_eq_true, List.all_eq_true] at h
  have := h.2 _ (List.mem_map_of_mem (f := bndW) hc)
  simp only [bndW, isBoundW, betwW, leW, Bool.and_eq_true, decide_eq_true_eq] at this
  omega
end R

/-! ## LG2: pairs -/
namespace R
open PySem PySem.Spec PyProof.Rows L2 G
theorem legalP_mem {bs : List Bun} {cs : List Bnd} {ms : List Int} (ok : ClOk bs cs) {p : Int × Int} (h : p ∈ legalP bs cs ms) : legalB bs cs ms p.1 p.2 = true ∧ p.1 ≠ p.2 ∧ 0 ≤ p.1 ∧ p.1 < (cs.length : Int) ∧ 0 ≤ p.2 ∧ p.2 < (cs.length : Int) ∧ ∃ k, idx bs (min p.1 p.2) (max p.1 p.2) = some k := by
  obtain ⟨hp, hg⟩ := List.mem_filter.mp h
  obtain ⟨t, ht, e⟩ := pairsQ_mem hp
  have ot := ok.each t ht
  have f0 := ot.f0
  have fs := ot.fs
  have sn := ot.sn
  obtain ⟨n, hn, en⟩ := List.mem_iff_getElem.mp ht
  have hx := idx_of ok.nd (n := n) (t := t) (by rw [← en]; exact List.getElem?_eq_getElem hn)
  refine ⟨hg, ?_⟩
  rcases e with rfl | rfl
  · exact ⟨by show t.1 ≠ t.2.1; omega, f0, by show t.1 < _; omega, by show 0 ≤ t.2.1; omega, sn, n, by show idx bs (min t.1 t.2.1) (max t.1 t.2.1) = _; rw [Int.min_eq_left (by omega), Int.max_eq_right (by omega)]; exact hx⟩
  · exact ⟨by show t.2.1 ≠ t.1; omega, by show 0 ≤ t.2.1; omega, sn, f0, by show t.1 < _; omega, n, by show idx bs (min t.2.1 t.1) (max t.2.1 t.1) = _; rw [Int.min_eq_right (by omega), Int.max_eq_left (by omega)]; exact hx⟩
theorem ok_pairs (ps : List (Int × Int)) : (W.lst (ps.map pW)).ok 20 = true := by
  rw [ok_lst, List.all_eq_true]
  intro w hw
  obtain ⟨c, _, rfl⟩ := List.mem_map.mp hw
  rfl
theorem at_snoc {α : Type} (xs : List α) (x : α) : atI (xs ++ [x]) (-1) = some x := atI_last (by simp)
theorem sh_pairs {m : Nat} {ps : List (Int × Int)} (h : ∀ p ∈ ps, p.1.natAbs < 10 ^ 45 ∧ p.2.natAbs < 10 ^ 45) (hm : ps.length ≤ m) : Sh 2 (101 * m + 3) (.lst (ps.map pW)) := Sh.lst (n := 1) (B := 99) (fun w hw => by
  obtain ⟨p, hp, rfl⟩ := List.mem_map.mp hw
  exact Sh.tup (n := 0) (B := 46) (m := 2) (fun w hw => by
    simp only [List.mem_cons, List.not_mem_nil, or_false] at hw
    rcases hw with rfl | rfl
    · exact Sh.int (h p hp).1
    · exact Sh.int (h p hp).2) (by simp)) (by rw [List.length_map]; exact hm)
end R

/-! ## PT: plans in plain lists -/
namespace R
open PySem PySem.Spec PyProof.Rows L2 G
abbrev Run := Int × Int × Int
/-- a run of two brokers with a bundle -/
structure RunOk (bs : List Bun) (n : Nat) (r : Run) : Prop where
  a0 : 0 ≤ r.1
  a1 : r.1 < (n : Int)
  b0 : 0 ≤ r.2.1
  b1 : r.2.1 < (n : Int)
  ne : r.1 ≠ r.2.1
  ex : ∃ k, idx bs (min r.1 r.2.1) (max r.1 r.2.1) = some k
def rIdx (bs : List Bun) (r : Run) : Nat := (idx bs (min r.1 r.2.1) (max r.1 r.2.1)).getD 0
/-- the leads after a run, legal or not -/
def mvR (bs : List Bun) (ms : List Int) (r : Run) : List Int := movedQ ms (rIdx bs r) r.1 r.2.1 r.2.2
def aft (bs : List Bun) (ms : List Int) (rs : List Run) : List Int := rs.foldl (mvR bs) ms
def aftN (bs : List Bun) (ms : List Int) (rs : List Run) : Nat → List Int
  | 0 => ms
  | t + 1 => aft bs (aftN bs ms rs t) rs
section
variable {bs : List Bun} {cs : List Bnd} {ms : List Int} {rs : List Run} {r : Run}
theorem rIdx_of {n : Nat} (h : RunOk bs n r) : idx bs (min r.1 r.2.1) (max r.1 r.2.1) = some (rIdx bs r) := by
  obtain ⟨k, hk⟩ := h.ex
  unfold rIdx
  rw [hk]
  rfl
theorem mvR_len : (mvR bs ms r).length = ms.length := movedQ_len
theorem aft_len : ∀ {rs : List Run} {ms : List Int}, (aft bs ms rs).length = ms.length
  | [], _ => rfl
  | r :: rs, ms => by
    show (aft bs (mvR bs ms r) rs).length = _
    rw [aft_len, mvR_len]
theorem aftN_len : ∀ {t : Nat}, (aftN bs ms rs t).length = ms.length
  | 0 => rfl
  | t + 1 => by rw [aftN, aft_len, aftN_len]
theorem aft_app (rs rs' : List Run) : aft bs ms (rs ++ rs') = aft bs (aft bs ms rs) rs' := List.foldl_append
/-- an affine reading of leads -/
def Aff (bs : List Bun) (φ : List Int → Int) (c : Run → Int) (rs : List Run) : Prop := ∀ ms : List Int, ms.length = bs.length → ∀ r ∈ rs, φ (mvR bs ms r) = φ ms + c r
theorem Aff.aft {φ : List Int → Int} {c : Run → Int} : ∀ {rs : List Run} {ms : List Int}, Aff bs φ c rs → ms.length = bs.length → φ (aft bs ms rs) = φ ms + (rs.map c).sum
  | [], ms, _, _ => by simp [R.aft]
  | r :: rs, ms, h, hl => by
    show φ (R.aft bs (mvR bs ms r) rs) = _
    rw [Aff.aft (rs := rs) (fun ms hl r hr => h ms hl r (List.mem_cons_of_mem _ hr)) (by rw [mvR_len]; exact hl), h ms hl r List.mem_cons_self, List.map_cons, List.sum_cons]
    omega
theorem Aff.aftN {φ : List Int → Int} {c : Run → Int} (h : Aff bs φ c rs) (hl : ms.length = bs.length) : ∀ t : Nat, φ (aftN bs ms rs t) = φ ms + (t : Int) * (φ (R.aft bs ms rs) - φ ms)
  | 0 => by simp [R.aftN]
  | t + 1 => by
    rw [R.aftN, h.aft (by rw [aftN_len]; exact hl), Aff.aftN h hl t, h.aft hl]
    have e : φ ms + (rs.map c).sum - φ ms = (rs.map c).sum := by omega
    rw [e]
    push_cast
    rw [Int.add_mul]
    omega
/-- .. behind some turns and some of the runs -/
theorem Aff.at {φ : List Int → Int} {c : Run → Int} {pre post : List Run} (h : Aff bs φ c (pre ++ post)) (hl : ms.length = bs.length) (t : Nat) : φ (R.aft bs (R.aftN bs ms (pre ++ post) t) pre) = φ (R.aft bs ms pre) + (t : Int) * (φ (R.aft bs (R.aft bs ms (pre ++ post)) pre) - φ (R.aft bs ms pre)) := by
  have hp : Aff bs φ c pre := fun ms hl r hr => h ms hl r (List.mem_append_left _ hr)
  rw [hp.aft (by rw [aftN_len]; exact hl), h.aftN hl, hp.aft hl, hp.aft (by rw [aft_len]; exact hl)]
  have e : φ (R.aft bs ms (pre ++ post)) + (pre.map c).sum - (φ ms + (pre.map c).sum) = φ (R.aft bs ms (pre ++ post)) - φ ms := by omega
  rw [e]
  omega
theorem aff_lead (k : Nat) (hr : ∀ r ∈ rs, ∃ n, RunOk bs n r) : Aff bs (fun ms => ms.getD k 0) (fun r => if rIdx bs r = k then chg r.1 r.2.1 r.2.2 else 0) rs := fun ms hl r hm => by
  obtain ⟨n, ok⟩ := hr r hm
  obtain ⟨m, t, em, et, _, _, e⟩ := moved_get (q := r.2.2) hl (rIdx_of ok)
  show (mvR bs ms r).getD k 0 = ms.getD k 0 + (if rIdx bs r = k then chg r.1 r.2.1 r.2.2 else 0)
  unfold mvR
  rw [e, List.getD_eq_getElem?_getD, List.getD_eq_getElem?_getD]
  by_cases hk : rIdx bs r = k
  · rw [← hk, List.getElem?_set_self (get_lt em), if_pos rfl, em]; rfl
  · rw [List.getElem?_set_ne hk, if_neg hk]; omega
theorem aff_load {n : Nat} {x : Int} (ho : ∀ t ∈ bs, BunOk (n : Int) t) (x0 : 0 ≤ x) (x1 : x < (n : Int)) (hr : ∀ r ∈ rs, ∃ n, RunOk bs n r) : Aff bs (fun ms => ldg n bs ms x) (fun r => (if x = r.2.1 then r.2.2 else 0) - (if x = r.1 then r.2.2 else 0)) rs := fun ms hl r hm => by
  obtain ⟨n', ok⟩ := hr r hm
  show ldg n bs (mvR bs ms r) x = _
  unfold mvR
  rw [moved_load hl ho ok.ne (rIdx_of ok) x0 x1]
  show _ = ldg n bs ms x + ((if x = r.2.1 then r.2.2 else 0) - (if x = r.1 then r.2.2 else 0))
  omega
theorem aff_led {i j : Int} (hij : i ≠ j) (hr : ∀ r ∈ rs, ∃ n, RunOk bs n r) : ∃ c, Aff bs (fun ms => ledQ bs ms i j) c rs := by
  cases e : idx bs (min i j) (max i j) with
  | none =>
    refine ⟨fun _ => 0, fun ms hl r hm => ?_⟩
    show ledQ bs _ i j = ledQ bs _ i j + 0
    unfold ledQ
    rw [e]
    rfl
  | some k =>
    obtain ⟨t, ht, _⟩ := idx_get e
    by_cases h : i < j
    · refine ⟨fun r => if rIdx bs r = k then chg r.1 r.2.1 r.2.2 else 0, fun ms hl r hm => ?_⟩
      have := aff_lead k hr ms hl r hm
      show ledQ bs _ i j = ledQ bs _ i j + _
      unfold ledQ
      rw [e]
      simp only [if_pos h]
      exact this
    · refine ⟨fun r => - (if rIdx bs r = k then chg r.1 r.2.1 r.2.2 else 0), fun ms hl r hm => ?_⟩
      have := aff_lead k hr ms hl r hm
      show ledQ bs _ i j = ledQ bs _ i j + _
      unfold ledQ
      rw [e]
      simp only [if_neg h]
      have t2 : (mvR bs ms r).getD k 0 = ms.getD k 0 + (if rIdx bs r = k then chg r.1 r.2.1 r.2.2 else 0) := this
      rw [t2]
      omega
/-- leads after some turns, as numbers -/
theorem aftN_get (hl : ms.length = bs.length) (hr : ∀ r ∈ rs, ∃ n, RunOk bs n r) (t k : Nat) : (aftN bs ms rs t).getD k 0 = ms.getD k 0 + (t : Int) * ((aft bs ms rs).getD k 0 - ms.getD k 0) := (aff_lead k hr).aftN hl t
theorem getD_ext {xs ys : List Int} (hl : xs.length = ys.length) (h : ∀ k, xs.getD k 0 = ys.getD k 0) : xs = ys := by
  refine List.ext_getElem hl fun k h1 h2 => ?_
  have := h k
  rwa [List.getD_eq_getElem?_getD, List.getD_eq_getElem?_getD, List.getElem?_eq_getElem h1, List.getElem?_eq_getElem h2] at this
theorem aftN_zip (hl : ms.length = bs.length) (hr : ∀ r ∈ rs, ∃ n, RunOk bs n r) (t : Nat) : ((ms.zip (aft bs ms rs)).map fun p => p.1 + (t : Int) * (p.2 - p.1)) = aftN bs ms rs t := by
  refine getD_ext (by rw [List.length_map, List.length_zip, aft_len, aftN_len, Nat.min_self]) fun k => ?_
  rw [aftN_get hl hr]
  by_cases hk : k < ms.length
  · have h2 : k < (aft bs ms rs).length := by rw [aft_len]; exact hk
    simp only [List.getD_eq_getElem?_getD, List.getElem?_map]
    rw [List.getElem?_eq_getElem (by rw [List.length_zip, aft_len, Nat.min_self]; exact hk), List.getElem?_eq_getElem hk, List.getElem?_eq_getElem h2, List.getElem_zip]
    rfl
  · have e1 : ms[k]? = none := List.getElem?_eq_none (by omega)
    have e2 : (aft bs ms rs)[k]? = none := List.getElem?_eq_none (by rw [aft_len]; omega)
    simp only [List.getD_eq_getElem?_getD, List.getElem?_map]
    rw [List.getElem?_eq_none (by rw [List.length_zip, aft_len, Nat.min_self]; omega), e1, e2]
    simp
/-! ### where a plan stops -/
/-- the run can be done -/
def runB (bs : List Bun) (cs : List Bnd) (ms : List Int) (r : Run) : Bool := (sparesQ bs cs ms r.1 r.2.1 r.2.2).all fun x => decide (0 ≤ x)
/-- the turn at which a spare that begins with s, and has u one turn later, is used up -/
def trn (s u : Int) : Option Int := if s < 0 then some 0 else if u < s then some (s / (s - u) + 1) else none
theorem trn_none {s u : Int} (h : trn s u = none) : 0 ≤ s ∧ s ≤ u := by
  unfold trn at h
  split at h
  · cases h
  · split at h
    · cases h
    · omega
theorem trn_none_ok {s u : Int} (h : trn s u = none) (t : Nat) : 0 ≤ s + (t : Int) * (u - s) := by
  obtain ⟨h1, h2⟩ := trn_none h
  have : 0 ≤ (t : Int) * (u - s) := Int.mul_nonneg (by omega) (by omega)
  omega
theorem trn_some {s u t0 : Int} (h : trn s u = some t0) : 0 ≤ t0 ∧ (∀ t : Nat, (t : Int) < t0 → 0 ≤ s + (t : Int) * (u - s)) ∧ ∀ t : Nat, (t : Int) = t0 → s + (t : Int) * (u - s) < 0 := by
  unfold trn at h
  split at h
  next h1 =>
    cases h
    refine ⟨by omega, fun t q => by omega, fun t q => ?_⟩
    rw [q]
    omega
  next h1 =>
    split at h
    next h2 =>
      cases h
      have hd : 0 < s - u := by omega
      have q0 : 0 ≤ s / (s - u) := Int.ediv_nonneg (by omega) (by omega)
      have q1 := Int.ediv_mul_le s (show s - u ≠ 0 by omega)
      have q2 := Int.lt_ediv_add_one_mul_self s hd
      have neg : ∀ t : Int, s + t * (u - s) = s - t * (s - u) := fun t => by
        rw [show u - s = -(s - u) by omega, Int.mul_neg]
        omega
      refine ⟨by omega, fun t q => ?_, fun t q => ?_⟩
      · have : (t : Int) * (s - u) ≤ s / (s - u) * (s - u) := Int.mul_le_mul_of_nonneg_right (by omega) (by omega)
        rw [neg]
        omega
      · rw [neg, q]
        omega
    next => cases h
def upd1 (n : Nat) (f : Option (Int × Nat)) (p : Int × Int) : Option (Int × Nat) := match trn p.1 p.2 with
  | none => f
  | some t => match f with
    | none => some (t, n)
    | some q => if t < q.1 then some (t, n) else some q
/-- f is the first place where Q fails -/
def FstBad (f : Option (Int × Nat)) (Q : Nat → Nat → Prop) (n : Nat) : Prop := match f with
  | none => ∀ t j, j ≤ n → Q t j
  | some q => 0 ≤ q.1 ∧ q.2 ≤ n ∧ ¬ Q q.1.toNat q.2 ∧ ∀ (t j : Nat), j ≤ n → ((t : Int) < q.1 ∨ ((t : Int) = q.1 ∧ j < q.2)) → Q t j
theorem FstBad.congr {f : Option (Int × Nat)} {Q Q' : Nat → Nat → Prop} {n : Nat} (h : FstBad f Q n) (e : ∀ t j, j ≤ n → (Q t j ↔ Q' t j)) : FstBad f Q' n := by
  unfold FstBad at h ⊢
  split at h
  · exact fun t j hj => (e t j hj).mp (h t j hj)
  · obtain ⟨h1, h2, h3, h4⟩ := h
    exact ⟨h1, h2, fun z => h3 ((e _ _ h2).mpr z), fun t j hj q => (e t j hj).mp (h4 t j hj q)⟩
theorem FstBad.up {f : Option (Int × Nat)} {Q : Nat → Nat → Prop} {n : Nat} (h : FstBad f Q n) (e : ∀ t, Q t (n + 1)) : FstBad f Q (n + 1) := by
  unfold FstBad at h ⊢
  split at h
  · intro t j hj
    by_cases q : j = n + 1
    · rw [q]; exact e t
    · exact h t j (by omega)
  · obtain ⟨h1, h2, h3, h4⟩ := h
    refine ⟨h1, by omega, h3, fun t j hj q => ?_⟩
    by_cases q' : j = n + 1
    · rw [q']; exact e t
    · exact h4 t j (by omega) q
theorem FstBad.step {f : Option (Int × Nat)} {Q : Nat → Nat → Prop} {n : Nat} (h : FstBad f Q n) (p : Int × Int) : FstBad (upd1 n f p) (fun t j => Q t j ∧ (j = n → 0 ≤ p.1 + (t : Int) * (p.2 - p.1))) n := by
  unfold upd1
  cases e : trn p.1 p.2 with
  | none =>
    have ok := trn_none_ok e
    exact h.congr fun t j hj => ⟨fun q => ⟨q, fun _ => ok t⟩, fun q => q.1⟩
  | some t1 =>
    obtain ⟨k1, k2, k3⟩ := trn_some e
    have kt : ((t1.toNat : Nat) : Int) = t1 := Int.toNat_of_nonneg k1
    cases f with
    | none =>
      refine ⟨k1, Nat.le_refl _, fun z => ?_, fun t j hj q => ⟨h t j hj, fun hn => ?_⟩⟩
      · have z2 : 0 ≤ p.1 + ((t1.toNat : Nat) : Int) * (p.2 - p.1) := z.2 rfl
        have := k3 t1.toNat kt
        omega
      · rcases q with q | q
        · exact k2 t q
        · have : j < n := q.2
          omega
    | some q0 =>
      obtain ⟨h1, h2, h3, h4⟩ := h
      dsimp only
      split
      next hlt =>
        refine ⟨k1, Nat.le_refl _, fun z => ?_, fun t j hj q => ⟨h4 t j hj (.inl ?_), fun hn => ?_⟩⟩
        · have z2 : 0 ≤ p.1 + ((t1.toNat : Nat) : Int) * (p.2 - p.1) := z.2 rfl
          have := k3 t1.toNat kt
          omega
        · rcases q with q | q
          · have q : (t : Int) < t1 := q; omega
          · have q : (t : Int) = t1 := q.1; omega
        · rcases q with q | q
          · exact k2 t q
          · have : j < n := q.2
            omega
      next hge =>
        refine ⟨h1, h2, fun z => h3 z.1, fun t j hj q => ⟨h4 t j hj q, fun hn => ?_⟩⟩
        rcases q with q | q
        · exact k2 t (by omega)
        · omega
theorem FstBad.steps {n : Nat} : ∀ {ps : List (Int × Int)} {f : Option (Int × Nat)} {Q : Nat → Nat → Prop}, FstBad f Q n → FstBad (ps.foldl (upd1 n) f) (fun t j => Q t j ∧ (j = n → ∀ p ∈ ps, 0 ≤ p.1 + (t : Int) * (p.2 - p.1))) n
  | [], f, Q, h => h.congr fun t j hj => ⟨fun q => ⟨q, fun _ p hp => nomatch hp⟩, fun q => q.1⟩
  | p :: ps, f, Q, h => by
    rw [List.foldl_cons]
    refine (FstBad.steps (ps := ps) (h.step p)).congr fun t j hj => ⟨fun q => ⟨q.1.1, fun e p' hp => ?_⟩, fun q => ⟨⟨q.1, fun e => q.2 e p List.mem_cons_self⟩, fun e p' hp => q.2 e p' (List.mem_cons_of_mem _ hp)⟩⟩
    rcases List.mem_cons.mp hp with rfl | hp
    · exact q.1.2 e
    · exact q.2 e p' hp
/-- the loop of first_stop -/
def fsGo (bs : List Bun) (cs : List Bnd) : List Int → List Int → Nat → List Run → Option (Int × Nat) → Option (Int × Nat)
  | _, _, _, [], f => f
  | now, later, n, r :: rs, f => fsGo bs cs (mvR bs now r) (mvR bs later r) (n + 1) rs (((sparesQ bs cs now r.1 r.2.1 r.2.2).zip (sparesQ bs cs later r.1 r.2.1 r.2.2)).foldl (upd1 n) f)
def fstop (bs : List Bun) (cs : List Bnd) (ms : List Int) (rs : List Run) : Option (Int × Nat) := fsGo bs cs ms (aft bs ms rs) 0 rs none
/-- in turn t the run j can be done -/
def OkAt (bs : List Bun) (cs : List Bnd) (ms : List Int) (rs : List Run) (t j : Nat) : Prop := ∀ r, rs[j]? = some r → runB bs cs (aft bs (aftN bs ms rs t) (rs.take j)) r = true
theorem okAt_iff {pre post : List Run} (ho : ∀ t ∈ bs, BunOk (cs.length : Int) t) (hl : ms.length = bs.length) (hr : ∀ r ∈ pre ++ post, RunOk bs cs.length r) (hm : r ∈ pre ++ post) (t : Nat) :
    runB bs cs (aft bs (aftN bs ms (pre ++ post) t) pre) r = true ↔ ∀ p ∈ (sparesQ bs cs (aft bs ms pre) r.1 r.2.1 r.2.2).zip (sparesQ bs cs (aft bs (aft bs ms (pre ++ post)) pre) r.1 r.2.1 r.2.2), 0 ≤ p.1 + (t : Int) * (p.2 - p.1) := by
  have hr' : ∀ r ∈ pre ++ post, ∃ n, RunOk bs n r := fun r h => ⟨_, hr r h⟩
  have o := hr r hm
  obtain ⟨c, h1⟩ := aff_led o.ne hr'
  have e1 := h1.at (pre := pre) (post := post) hl t
  have e2 := (aff_load (n := cs.length) ho o.a0 o.a1 hr').at (pre := pre) (post := post) hl t
  have e3 := (aff_load (n := cs.length) ho o.b0 o.b1 hr').at (pre := pre) (post := post) hl t
  unfold ldg at e2 e3
  unfold runB sparesQ
  rw [e1, e2, e3]
  simp only [List.all_cons, List.all_nil, Bool.and_true, Bool.and_eq_true, decide_eq_true_eq, List.zip_cons_cons, List.zip_nil_right, List.mem_cons, List.not_mem_nil, or_false, forall_eq_or_imp, forall_eq]
  have rw1 : ∀ a b q d : Int, a - q + d * (b - q - (a - q)) = a + d * (b - a) - q := fun a b q d => by rw [show b - q - (a - q) = b - a by omega]; omega
  have rw2 : ∀ a b f q d : Int, a - f - q + d * (b - f - q - (a - f - q)) = a + d * (b - a) - f - q := fun a b f q d => by rw [show b - f - q - (a - f - q) = b - a by omega]; omega
  have rw3 : ∀ a b f q d : Int, f - a - q + d * (f - b - q - (f - a - q)) = f - (a + d * (b - a)) - q := fun a b f q d => by rw [show f - b - q - (f - a - q) = -(b - a) by omega, Int.mul_neg]; omega
  rw [rw1, rw2, rw3]
theorem fsGo_ok (ho : ∀ t ∈ bs, BunOk (cs.length : Int) t) (hl : ms.length = bs.length) (hr : ∀ r ∈ rs, RunOk bs cs.length r) : ∀ {post pre : List Run} {f : Option (Int × Nat)}, rs = pre ++ post → (∀ n, pre.length = n + 1 → FstBad f (OkAt bs cs ms rs) n) → (pre = [] → f = none) →
    (rs = [] → fsGo bs cs (aft bs ms pre) (aft bs (aft bs ms rs) pre) pre.length post f = none) ∧ ∀ n, rs.length = n + 1 → FstBad (fsGo bs cs (aft bs ms pre) (aft bs (aft bs ms rs) pre) pre.length post f) (OkAt bs cs ms rs) n
  | [], pre, f, e, h, h0 => by
    rw [List.append_nil] at e
    subst e
    exact ⟨h0, h⟩
  | r :: post, pre, f, e, h, h0 => by
    have hm : r ∈ pre ++ r :: post := List.mem_append_right _ List.mem_cons_self
    have a1 : mvR bs (aft bs ms pre) r = aft bs ms (pre ++ [r]) := by rw [aft_app]; rfl
    have a2 : mvR bs (aft bs (aft bs ms rs) pre) r = aft bs (aft bs ms rs) (pre ++ [r]) := by rw [aft_app]; rfl
    have a3 : pre.length + 1 = (pre ++ [r]).length := by rw [List.length_append]; rfl
    show (_ → fsGo bs cs (mvR bs _ r) (mvR bs _ r) (pre.length + 1) post _ = none) ∧ ∀ n, _ → FstBad (fsGo bs cs (mvR bs _ r) (mvR bs _ r) (pre.length + 1) post _) _ n
    rw [a1, a2, a3]
    refine fsGo_ok ho hl hr (by rw [e, List.append_assoc]; rfl) (fun n hn => ?_) (fun z => ?_)
    · have hn' : n = pre.length := by rw [List.length_append] at hn; simpa using hn.symm
      subst hn'
      have base : FstBad f (fun t j => j < pre.length → OkAt bs cs ms rs t j) pre.length := by
        cases pre with
        | nil => rw [h0 rfl]; exact fun t j hj q => nomatch q
        | cons p pre =>
          have := (h pre.length rfl).congr (Q' := fun t j => j < (p :: pre).length → OkAt bs cs ms rs t j) fun t j hj => ⟨fun q _ => q, fun q => q (by rw [List.length_cons]; omega)⟩
          exact this.up fun t q => absurd q (by rw [List.length_cons]; omega)
      refine (base.steps (ps := (sparesQ bs cs (aft bs ms pre) r.1 r.2.1 r.2.2).zip (sparesQ bs cs (aft bs (aft bs ms rs) pre) r.1 r.2.1 r.2.2))).congr fun t j hj => ?_
      have key : j = pre.length → (OkAt bs cs ms rs t j ↔ ∀ p ∈ (sparesQ bs cs (aft bs ms pre) r.1 r.2.1 r.2.2).zip (sparesQ bs cs (aft bs (aft bs ms rs) pre) r.1 r.2.1 r.2.2), 0 ≤ p.1 + (t : Int) * (p.2 - p.1)) := fun q => by
        subst q
        have := okAt_iff (ms := ms) (pre := pre) (post := r :: post) ho hl (by rw [← e]; exact hr) hm t
        rw [← e] at this
        rw [← this]
        unfold OkAt
        rw [e, List.take_left', List.getElem?_append_right (Nat.le_refl _)]
        · simp
        · rfl
      constructor
      · intro q
        by_cases hj' : j = pre.length
        · exact (key hj').mpr (q.2 hj')
        · exact q.1 (by omega)
      · exact fun q => ⟨fun _ => q, fun hj' => (key hj').mp q⟩
    · simp at z
/-- where a block stops first -/
theorem fstop_ok (ho : ∀ t ∈ bs, BunOk (cs.length : Int) t) (hl : ms.length = bs.length) (hr : ∀ r ∈ rs, RunOk bs cs.length r) : match fstop bs cs ms rs with
    | none => ∀ t j, OkAt bs cs ms rs t j
    | some q => 0 ≤ q.1 ∧ q.2 < rs.length ∧ ¬ OkAt bs cs ms rs q.1.toNat q.2 ∧ ∀ (t j : Nat), ((t : Int) < q.1 ∨ ((t : Int) = q.1 ∧ j < q.2)) → OkAt bs cs ms rs t j := by
  have out : ∀ t j, rs.length ≤ j → OkAt bs cs ms rs t j := fun t j hj r hx => by
    have := get_lt hx
    omega
  have h := fsGo_ok (cs := cs) ho hl hr (pre := []) (post := rs) (f := none) rfl (fun n hn => nomatch hn) (fun _ => rfl)
  have e : fsGo bs cs (aft bs ms []) (aft bs (aft bs ms rs) []) ([] : List Run).length rs none = fstop bs cs ms rs := rfl
  rw [e] at h
  cases hn : rs.length with
  | zero =>
    have hz := List.length_eq_zero_iff.mp hn
    rw [h.1 hz]
    exact fun t j => out t j (by omega)
  | succ n =>
    have h2 := h.2 n hn
    unfold FstBad at h2
    cases ef : fstop bs cs ms rs with
    | none =>
      rw [ef] at h2
      intro t j
      by_cases hj : j ≤ n
      · exact h2 t j hj
      · exact out t j (by omega)
    | some q =>
      rw [ef] at h2
      obtain ⟨h1, h3, h4, h5⟩ := h2
      refine ⟨h1, by omega, h4, fun t j hq => ?_⟩
      by_cases hj : j ≤ n
      · exact h5 t j hj hq
      · exact out t j (by omega)
end
end R

namespace R
open PySem PySem.Spec PyProof.Rows L2 G
def p__law_room (A : Ad) : TSQ :=
    (sSeq (sAsg (qCall (f__law_loads A) 3 (aCons (qCB bLen (vCons (vVar 0) vNil)) (aCons (qVar 1) (aCons (qVar 2) aNil)))) (gqName 5))
    (sSeq (sAsg (qOp (oI0 fun i j => .int (i - j)) (vE (qOp oIx (vVar 5) (vVar 3))) (vE (qOp oIx (vE (qOp oIx (vVar 0) (vVar 3))) (vE (qC (.int 0)))))) (gqName 6))
    (sSeq (sAsg (qOp (oI0 fun i j => .int (i - j)) (vE (qOp oIx (vE (qOp oIx (vVar 0) (vVar 4))) (vE (qC (.int 1))))) (vE (qOp oIx (vVar 5) (vVar 4)))) (gqName 7))
    (sRet (qCB bMin3 (vCons (vE (qCall (f__law_led A) 4 (aCons (qVar 1) (aCons (qVar 2) (aCons (qVar 3) (aCons (qVar 4) aNil)))))) (vCons (vVar 6) (vCons (vVar 7) vNil))))))))
def f__law_room (A : Ad) : PF := runF (p__law_room A) 3

def p__law_free_runs_g0 (A : Ad) : TGQ :=
    (gqName 6)
def p__law_free_runs_b0 (A : Ad) : TSQ :=
    (sSeq (sAsg (qCall (f__law_legal_pairs A) 3 (aCons (qVar 1) (aCons (qVar 2) (aCons (qVar 3) aNil)))) (gqName 7))
    (sIf (qB (qOp (oEq true) (vVar 7) (vE (qLst aNil)))) (sSeq (sAsg (qOp oIx (vVar 7) (vE (qCall f_take 2 (aCons (qVar 0) (aCons (qCB bLen (vCons (vVar 7) vNil)) aNil))))) (gqTup 2 (gqCons (gqName 8) (gqCons (gqName 9) gqNil))))
    (sSeq (sAsg (qCall (f__law_room A) 5 (aCons (qVar 1) (aCons (qVar 2) (aCons (qVar 3) (aCons (qVar 8) (aCons (qVar 9) aNil)))))) (gqName 10))
    (sSeq (sAsg (qOp oIx (vE (qLst (aCons (qC (.int 1)) (aCons (qVar 10) (aCons (qOp oPlus (vE (qC (.int 1))) (vE (qCall f_take 2 (aCons (qVar 0) (aCons (qVar 10) aNil))))) aNil))))) (vE (qCall f_take 2 (aCons (qVar 0) (aCons (qC (.int 3)) aNil))))) (gqName 11))
    (sSeq (sDrop (qAppend 5 (qTup (aCons (qVar 8) (aCons (qVar 9) (aCons (qCB bMin (vCons (vVar 11) (vCons (vE (qOp (oI CPow fun i j => .int (i ^ j.toNat)) (vE (qC (.int 10))) (vE (qC (.int 18))))) vNil))) aNil))))))
    (sAsg (qCall (f__law_moved A) 5 (aCons (qVar 2) (aCons (qVar 3) (aCons (qVar 8) (aCons (qVar 9) (aCons (qOp oIx (vE (qOp oIx (vVar 5) (vE (qUn (oU fun i => .int (-i)) (vE (qC (.int 1))))))) (vE (qC (.int 2)))) aNil)))))) (gqName 3)))))) sNext))
def p__law_free_runs (A : Ad) : TSQ :=
    (sSeq (sAsg (qLst aNil) (gqName 5))
    (sSeq (sFor (iqRng1 (vCons (vE (qOp oPlus (vE (qC (.int 1))) (vE (qCall f_take 2 (aCons (qVar 0) (aCons (qVar 4) aNil)))))) vNil)) (p__law_free_runs_g0 A) (p__law_free_runs_b0 A))
    (sRetV 5)))
def f__law_free_runs (A : Ad) : PF := runF (p__law_free_runs A) 7

def p__law_run (A : Ad) : TSQ :=
    (sSeq (sAsg (qOp oIx (vVar 1) (vE (qCall f_take 2 (aCons (qVar 0) (aCons (qCB bLen (vCons (vVar 1) vNil)) aNil))))) (gqName 3))
    (sSeq (sAsg (qOp oIx (vE (qLst (aCons (qC (.int 1)) (aCons (qOp oPlus (vE (qC (.int 1))) (vE (qCall f_take 2 (aCons (qVar 0) (aCons (qC (.int 3)) aNil))))) (aCons (qOp oPlus (vE (qC (.int 1))) (vE (qCall f_take 2 (aCons (qVar 0) (aCons (qOp oIx (vVar 3) (vE (qC (.int 2)))) aNil))))) aNil))))) (vE (qCall f_take 2 (aCons (qVar 0) (aCons (qC (.int 3)) aNil))))) (gqName 4))
    (sSeq (sIf (qAnd (qB (qVar 2)) (qB (qOp (oEq false) (vE (qCall f_take 2 (aCons (qVar 0) (aCons (qC (.int 6)) aNil)))) (vE (qC (.int 0)))))) (sAsg (qOp oPlus (vE (qC (.int 1))) (vE (qCall f_take 2 (aCons (qVar 0) (aCons (qOp (oI CPow fun i j => .int (i ^ j.toNat)) (vE (qC (.int 10))) (vE (qC (.int 18)))) aNil))))) (gqName 4)) sNext)
    (sRet (qOp oIx (vE (qLst (aCons (qTup (aCons (qOp oIx (vVar 3) (vE (qC (.int 0)))) (aCons (qOp oIx (vVar 3) (vE (qC (.int 1)))) (aCons (qVar 4) aNil)))) (aCons (qTup (aCons (qOp oIx (vVar 3) (vE (qC (.int 1)))) (aCons (qOp oIx (vVar 3) (vE (qC (.int 0)))) (aCons (qVar 4) aNil)))) aNil)))) (vE (qCall f_take 2 (aCons (qVar 0) (aCons (qC (.int 2)) aNil)))))))))
def f__law_run (A : Ad) : PF := runF (p__law_run A) 2

def p_after_turn_g0 (A : Ad) : TGQ :=
    (gqName 3)
def p_after_turn_b0 (A : Ad) : TSQ :=
    (sAsg (qCall (f_moved A) 3 (aCons (qVar 0) (aCons (qVar 1) (aCons (qVar 3) aNil)))) (gqName 1))
def p_after_turn (A : Ad) : TSQ :=
    (sSeq (sFor (iqSeq (qVar 2)) (p_after_turn_g0 A) (p_after_turn_b0 A))
    (sRetV 1))
def f_after_turn (A : Ad) : PF := runF (p_after_turn A) 1

def p_first_stop_g0 (A : Ad) : TGQ :=
    (gqTup 2 (gqCons (gqName 8) (gqCons (gqName 9) gqNil)))
def p_first_stop_b0 (A : Ad) : TSQ :=
    (sSeq (sAsg (qC .non) (gqName 10))
    (sSeq (sIf (qB (qOp (oI0 fun i j => .bl (decide (i < j))) (vVar 8) (vE (qC (.int 0))))) (sAsg (qC (.int 0)) (gqName 10)) (sIf (qB (qOp (oI0 fun i j => .bl (decide (i < j))) (vVar 9) (vVar 8))) (sAsg (qOp oPlus (vE (qOp (oI CDivW fun i j => .int (i / j)) (vVar 8) (vE (qOp (oI0 fun i j => .int (i - j)) (vVar 8) (vVar 9))))) (vE (qC (.int 1)))) (gqName 10)) sNext))
    (sIf (qAnd (qB (qOp (oIsN true) (vVar 10) (vE (qC .non)))) (qOr (qB (qOp (oIsN false) (vVar 5) (vE (qC .non)))) (qB (qOp (oI0 fun i j => .bl (decide (i < j))) (vVar 10) (vE (qOp oIx (vVar 5) (vE (qC (.int 0))))))))) (sAsg (qTup (aCons (qVar 10) (aCons (qVar 6) aNil))) (gqName 5)) sNext)))
def p_first_stop_g1 (A : Ad) : TGQ :=
    (gqTup 2 (gqCons (gqName 6) (gqCons (gqName 7) gqNil)))
def p_first_stop_b1 (A : Ad) : TSQ :=
    (sSeq (sFor (iqZip (aCons (qCall (f_spares A) 3 (aCons (qVar 0) (aCons (qVar 3) (aCons (qVar 7) aNil)))) (aCons (qCall (f_spares A) 3 (aCons (qVar 0) (aCons (qVar 4) (aCons (qVar 7) aNil)))) aNil))) (p_first_stop_g0 A) (p_first_stop_b0 A))
    (sPar 3 4 (qCall (f_moved A) 3 (aCons (qVar 0) (aCons (qVar 3) (aCons (qVar 7) aNil)))) (qCall (f_moved A) 3 (aCons (qVar 0) (aCons (qVar 4) (aCons (qVar 7) aNil))))))
def p_first_stop (A : Ad) : TSQ :=
    (sSeq (sPar 3 4 (qVar 1) (qCall (f_after_turn A) 3 (aCons (qVar 0) (aCons (qVar 1) (aCons (qVar 2) aNil)))))
    (sSeq (sAsg (qC .non) (gqName 5))
    (sSeq (sFor (iqEnum (aCons (qVar 2) aNil)) (p_first_stop_g1 A) (p_first_stop_b1 A))
    (sRetV 5))))
def f_first_stop (A : Ad) : PF := runF (p_first_stop A) 8

def p_play_e0 (A : Ad) (X0 : XQ) : TQ :=
    (qOp oPlus (vVar 8) (vE (qOp oTimes (vVar 4) (vE (qOp (oI0 fun i j => .int (i - j)) (vVar 9) (vVar 8))))))
def p_play_g0 (A : Ad) (X0 : XQ) : TGQ :=
    (gqTup 2 (gqCons (gqName 3) (gqCons (gqTup 2 (gqCons (gqName 4) (gqCons (gqName 5) gqNil))) gqNil)))
def p_play_b0 (A : Ad) (X0 : XQ) : TSQ :=
    (sSeq (sAsg (qCall (f_first_stop A) 3 (aCons (qVar 0) (aCons (qVar 1) (aCons (qVar 5) aNil)))) (gqName 6))
    (sSeq (sIf (qAnd (qB (qOp (oIsN true) (vVar 6) (vE (qC .non)))) (qB (qOp (oI0 fun i j => .bl (decide (i < j))) (vE (qOp oIx (vVar 6) (vE (qC (.int 0))))) (vVar 4)))) (sRaise .stopped (aCons (qVar 3) (aCons (qOp oIx (vVar 6) (vE (qC (.int 0)))) (aCons (qOp oIx (vVar 6) (vE (qC (.int 1)))) aNil))) X0) sNext)
    (sSeq (sAsg (qCall (f_after_turn A) 3 (aCons (qVar 0) (aCons (qVar 1) (aCons (qVar 5) aNil)))) (gqName 7))
    (sAsg (qCB bTup (vCons (vE (qLc (iqZip (aCons (qVar 1) (aCons (qVar 7) aNil))) (gqTup 2 (gqCons (gqName 8) (gqCons (gqName 9) gqNil))) qYes (p_play_e0 A X0) [8, 9])) vNil)) (gqName 1)))))
def p_play (A : Ad) (X0 : XQ) : TSQ :=
    (sSeq (sFor (iqEnum (aCons (qVar 2) aNil)) (p_play_g0 A X0) (p_play_b0 A X0))
    (sRetV 1))
def f_play (A : Ad) : PFX := runX (p_play A) 7

def p_most_turns (A : Ad) : TSQ :=
    (sSeq (sAsg (qCall (f_first_stop A) 3 (aCons (qVar 0) (aCons (qVar 1) (aCons (qVar 2) aNil)))) (gqName 3))
    (sRet (qIf (qB (qOp (oIsN false) (vVar 3) (vE (qC .non)))) (qC .non) (qOp oIx (vVar 3) (vE (qC (.int 0)))))))
def f_most_turns (A : Ad) : PF := runF (p_most_turns A) 1

end R

/-! ## L14: after_turn, first_stop, play, most_turns -/
namespace R
open PySem PySem.Spec PyProof.Rows L2 G
/-- all switches of some runs -/
def tms (rs : List Run) : Nat := (rs.map fun r => r.2.2.natAbs).sum
theorem sum_abs {c : Run → Int} : ∀ {rs : List Run}, (∀ r ∈ rs, (c r).natAbs ≤ r.2.2.natAbs) → ((rs.map c).sum).natAbs ≤ tms rs
  | [], _ => by simp [tms]
  | r :: rs, h => by
    have h1 := h r List.mem_cons_self
    have h2 := sum_abs fun r hr => h r (List.mem_cons_of_mem _ hr)
    show ((c r) + (rs.map c).sum).natAbs ≤ r.2.2.natAbs + tms rs
    omega
theorem chg_abs (i j q : Int) : (chg i j q).natAbs = q.natAbs := by
  unfold chg
  split <;> simp
section
variable {A : Ad} {bs : List Bun} {cs : List Bnd} {ms : List Int} {rs : List Run}
theorem aff_led' {i j : Int} (hij : i ≠ j) (hr : ∀ r ∈ rs, ∃ n, RunOk bs n r) : ∃ c, Aff bs (fun ms => ledQ bs ms i j) c rs ∧ ∀ r : Run, (c r).natAbs ≤ r.2.2.natAbs := by
  cases e : idx bs (min i j) (max i j) with
  | none =>
    refine ⟨fun _ => 0, fun ms hl r hm => ?_, fun r => by simp⟩
    show ledQ bs _ i j = ledQ bs _ i j + 0
    unfold ledQ
    rw [e]
    rfl
  | some k =>
    by_cases h : i < j
    · refine ⟨fun r => if rIdx bs r = k then chg r.1 r.2.1 r.2.2 else 0, fun ms hl r hm => ?_, fun r => ?_⟩
      · have := aff_lead k hr ms hl r hm
        show ledQ bs _ i j = ledQ bs _ i j + _
        unfold ledQ
        rw [e]
        simp only [if_pos h]
        exact this
      · have := chg_abs r.1 r.2.1 r.2.2
        dsimp only
        split <;> omega
    · refine ⟨fun r => - (if rIdx bs r = k then chg r.1 r.2.1 r.2.2 else 0), fun ms hl r hm => ?_, fun r => ?_⟩
      · have := aff_lead k hr ms hl r hm
        show ledQ bs _ i j = ledQ bs _ i j + _
        unfold ledQ
        rw [e]
        simp only [if_neg h]
        have t2 : (mvR bs ms r).getD k 0 = ms.getD k 0 + (if rIdx bs r = k then chg r.1 r.2.1 r.2.2 else 0) := this
        rw [t2]
        omega
      · have := chg_abs r.1 r.2.1 r.2.2
        dsimp only
        split <;> omega
theorem Aff.diff {φ : List Int → Int} {c : Run → Int} {pre post : List Run} (h : Aff bs φ c (pre ++ post)) (hl : ms.length = bs.length) : φ (R.aft bs (R.aft bs ms (pre ++ post)) pre) = φ (R.aft bs ms pre) + ((pre ++ post).map c).sum := by
  have hp : Aff bs φ c pre := fun ms hl r hr => h ms hl r (List.mem_append_left _ hr)
  rw [hp.aft (by rw [aft_len]; exact hl), h.aft hl, hp.aft hl]
  omega
/-- a spare changes from turn to turn by all switches at most -/
theorem spare_diff {pre post : List Run} {r : Run} (ho : ∀ t ∈ bs, BunOk (cs.length : Int) t) (hl : ms.length = bs.length) (hr : ∀ r ∈ pre ++ post, RunOk bs cs.length r) (hm : r ∈ pre ++ post) :
    ∀ p ∈ (sparesQ bs cs (aft bs ms pre) r.1 r.2.1 r.2.2).zip (sparesQ bs cs (aft bs (aft bs ms (pre ++ post)) pre) r.1 r.2.1 r.2.2), (p.2 - p.1).natAbs ≤ tms (pre ++ post) := by
  have hr' : ∀ r ∈ pre ++ post, ∃ n, RunOk bs n r := fun r h => ⟨_, hr r h⟩
  have o := hr r hm
  obtain ⟨c, h1, hc⟩ := aff_led' o.ne hr'
  have e1 := h1.diff (pre := pre) (post := post) hl
  have e2 := (aff_load (n := cs.length) ho o.a0 o.a1 hr').diff (pre := pre) (post := post) hl
  have e3 := (aff_load (n := cs.length) ho o.b0 o.b1 hr').diff (pre := pre) (post := post) hl
  have b1 := sum_abs (c := c) (rs := pre ++ post) fun r _ => hc r
  have b2 := sum_abs (c := fun q => (if r.1 = q.2.1 then q.2.2 else 0) - (if r.1 = q.1 then q.2.2 else 0)) (rs := pre ++ post) fun q hq => by
    have := (hr q hq).ne
    show Int.natAbs ((if r.1 = q.2.1 then q.2.2 else 0) - (if r.1 = q.1 then q.2.2 else 0)) ≤ _
    split <;> split <;> omega
  have b3 := sum_abs (c := fun q => (if r.2.1 = q.2.1 then q.2.2 else 0) - (if r.2.1 = q.1 then q.2.2 else 0)) (rs := pre ++ post) fun q hq => by
    have := (hr q hq).ne
    show Int.natAbs ((if r.2.1 = q.2.1 then q.2.2 else 0) - (if r.2.1 = q.1 then q.2.2 else 0)) ≤ _
    split <;> split <;> omega
  unfold ldg at e2 e3
  unfold sparesQ
  rw [e1, e2, e3]
  intro p hp
  simp only [List.zip_cons_cons, List.zip_nil_right, List.mem_cons, List.not_mem_nil, or_false] at hp
  rcases hp with rfl | rfl | rfl
  · show Int.natAbs (_ - _ - (_ - _)) ≤ _; omega
  · show Int.natAbs (_ - _ - _ - (_ - _ - _)) ≤ _; omega
  · show Int.natAbs (_ - _ - _ - (_ - _ - _)) ≤ _; omega
theorem f_after_eq {Q : D → Prop} (h1000 : bs.length ≤ 1000) (hl : ms.length = bs.length) (hr : ∀ r ∈ rs, RunOk bs cs.length r) : f_after_turn A [clW A bs cs, .tup (iW ms), .lst (rs.map bunW)] Q = Q (.sh (.tup (iW (aft bs ms rs)))) := by
  simp [f_after_turn, p_after_turn]
  have := loop_fold (g := p_after_turn_g0 A) (b := p_after_turn_b0 A) (E := { nx := sRetV 1 { nx := fun x => Q D.non, rt := Q }, rt := Q }) bunW (fun s : List Int × D => [.sh (clW A bs cs), .sh (.tup (iW s.1)), .sh (.lst (rs.map bunW)), s.2]) (fun s r => (mvR bs s.1 r, .sh (bunW r))) (fun s => s.1.length = bs.length) (xs := rs) (s := (ms, .un)) hl fun r hm s hs => by
    have o := hr r hm
    refine ⟨by rw [mvR_len]; exact hs, fun ws' => ?_⟩
    have fm : ∀ Q, f_moved A [clW A bs cs, .tup (iW s.1), bunW r] Q = Q (.sh (.tup (iW (mvR bs s.1 r)))) := fun Q => f_moved_eq hs h1000 (rIdx_of o)
    simp [p_after_turn_g0, p_after_turn_b0, fm]
  have e : (rs.foldl (fun s r => (mvR bs s.1 r, D.sh (bunW r))) (ms, D.un)).1 = aft bs ms rs := by
    rw [foldl_fst (fun a r => mvR bs a r) _ (fun _ _ => rfl)]
    rfl
  refine Eq.to_iff (this.trans ?_)
  simp [e]
/-- what first_stop tells -/
def optS : Option (Int × Nat) → D
  | none => .non
  | some q => .sh (.tup [.v (.int q.1), .v (.int (q.2 : Int))])
theorem cdiv_of {i j : Int} {N : Nat} (h : 0 < j) (hN : j.natAbs ≤ N) (hb : N < 2 ^ 9000) : CDivW i j := by
  refine ⟨h, ?_⟩
  rw [Nat.log2_lt (by omega)]
  omega
theorem fs_pair {now later : List Int} {n : Nat} {r : Run} {N : Nat} (hN : N < 2 ^ 9000) {E : EQ} {x1 x2 : D} (f : Option (Int × Nat)) (p : Int × Int) (hp : (p.2 - p.1).natAbs ≤ N) (j : D × D × D) (ws' : List W) :
    ∃ j' : D × D × D, qLoop (p_first_stop_g0 A) (p_first_stop_b0 A) E (pW p :: ws') [.sh (clW A bs cs), x1, x2, .sh (.tup (iW now)), .sh (.tup (iW later)), optS f, .int (n : Int), .sh (bunW r), j.1, j.2.1, j.2.2] = qLoop (p_first_stop_g0 A) (p_first_stop_b0 A) E ws' [.sh (clW A bs cs), x1, x2, .sh (.tup (iW now)), .sh (.tup (iW later)), optS (upd1 n f p), .int (n : Int), .sh (bunW r), j'.1, j'.2.1, j'.2.2] := by
  obtain ⟨s, u⟩ := p
  unfold upd1 trn
  simp only at hp ⊢
  by_cases h1 : s < 0
  · refine ⟨(.int s, .int u, .int 0), ?_⟩
    rw [if_pos h1]
    cases f with
    | none => simp [p_first_stop_g0, p_first_stop_b0, pW, optS, h1]
    | some q =>
      by_cases hq : 0 < q.1
      · simp [p_first_stop_g0, p_first_stop_b0, pW, optS, h1, at2_0, hq]
      · simp [p_first_stop_g0, p_first_stop_b0, pW, optS, h1, at2_0, hq]
  · rw [if_neg h1]
    by_cases h2 : u < s
    · refine ⟨(.int s, .int u, .int (s / (s - u) + 1)), ?_⟩
      rw [if_pos h2]
      have cd : CDivW s (s - u) := cdiv_of (N := N) (by omega) (by omega) hN
      cases f with
      | none => simp [p_first_stop_g0, p_first_stop_b0, pW, optS, h1, h2, cd]
      | some q =>
        by_cases hq : s / (s - u) + 1 < q.1
        · simp [p_first_stop_g0, p_first_stop_b0, pW, optS, h1, h2, cd, at2_0, hq]
        · simp [p_first_stop_g0, p_first_stop_b0, pW, optS, h1, h2, cd, at2_0, hq]
    · refine ⟨(.int s, .int u, .non), ?_⟩
      rw [if_neg h2]
      cases f with
      | none => simp [p_first_stop_g0, p_first_stop_b0, pW, optS, h1, h2]
      | some q => simp [p_first_stop_g0, p_first_stop_b0, pW, optS, h1, h2]
theorem fs_pairs {now later : List Int} {n : Nat} {r : Run} {N : Nat} (hN : N < 2 ^ 9000) {E : EQ} {x1 x2 : D} : ∀ (ps : List (Int × Int)) (f : Option (Int × Nat)) (j : D × D × D), (∀ p ∈ ps, (p.2 - p.1).natAbs ≤ N) →
    ∃ j' : D × D × D, qLoop (p_first_stop_g0 A) (p_first_stop_b0 A) E (ps.map pW) [.sh (clW A bs cs), x1, x2, .sh (.tup (iW now)), .sh (.tup (iW later)), optS f, .int (n : Int), .sh (bunW r), j.1, j.2.1, j.2.2] = E.nx [.sh (clW A bs cs), x1, x2, .sh (.tup (iW now)), .sh (.tup (iW later)), optS (ps.foldl (upd1 n) f), .int (n : Int), .sh (bunW r), j'.1, j'.2.1, j'.2.2]
  | [], f, j, _ => ⟨j, by simp⟩
  | p :: ps, f, j, h => by
    obtain ⟨j1, e1⟩ := fs_pair (A := A) (bs := bs) (cs := cs) (now := now) (later := later) (n := n) (r := r) hN (E := E) (x1 := x1) (x2 := x2) f p (h p List.mem_cons_self) j (ps.map pW)
    obtain ⟨j2, e2⟩ := fs_pairs hN (E := E) (x1 := x1) (x2 := x2) ps (upd1 n f p) j1 fun p hp => h p (List.mem_cons_of_mem _ hp)
    exact ⟨j2, by rw [List.map_cons, e1, e2]; rfl⟩
theorem pairW_iW (xs ys : List Int) : pairW (iW xs) (iW ys) = (xs.zip ys).map pW := by
  unfold pairW
  rw [List.zipWith_map, List.zip, List.map_zipWith]
  rfl
theorem fs_go {E : EQ} {x1 x2 : D} (h1000 : bs.length ≤ 1000) (hc : cs.length ≤ 1000) (ho : ∀ t ∈ bs, BunOk (cs.length : Int) t) (hl : ms.length = bs.length) (hN : tms rs < 2 ^ 9000) (hr : ∀ r ∈ rs, RunOk bs cs.length r) {Z : Option (Int × Nat) → Prop} (hZ : ∀ now later f a b c d e, E.nx [.sh (clW A bs cs), x1, x2, .sh (.tup (iW now)), .sh (.tup (iW later)), optS f, a, b, c, d, e] = Z f) :
    ∀ {post pre : List Run} {f : Option (Int × Nat)} {a b c d e : D}, rs = pre ++ post → qLoop (p_first_stop_g1 A) (p_first_stop_b1 A) E ((post.zipIdx pre.length).map fun p => W.tup [.v (.int (p.2 : Int)), bunW p.1]) [.sh (clW A bs cs), x1, x2, .sh (.tup (iW (aft bs ms pre))), .sh (.tup (iW (aft bs (aft bs ms rs) pre))), optS f, a, b, c, d, e] = Z (fsGo bs cs (aft bs ms pre) (aft bs (aft bs ms rs) pre) pre.length post f)
  | [], pre, f, a, b, c, d, e, _ => by simp [fsGo, hZ]
  | r :: post, pre, f, a, b, c, d, e, er => by
    have hm : r ∈ pre ++ r :: post := List.mem_append_right _ List.mem_cons_self
    have o := hr r (by rw [er]; exact hm)
    have l1 : (aft bs ms pre).length = bs.length := by rw [aft_len]; exact hl
    have l2 : (aft bs (aft bs ms rs) pre).length = bs.length := by rw [aft_len, aft_len]; exact hl
    have a1 : mvR bs (aft bs ms pre) r = aft bs ms (pre ++ [r]) := by rw [aft_app]; rfl
    have a2 : mvR bs (aft bs (aft bs ms rs) pre) r = aft bs (aft bs ms rs) (pre ++ [r]) := by rw [aft_app]; rfl
    have sd := spare_diff (ms := ms) (pre := pre) (post := r :: post) ho hl (by rw [← er]; exact hr) hm
    rw [← er] at sd
    have f1 : ∀ Q, f_spares A [clW A bs cs, .tup (iW (aft bs ms pre)), bunW r] Q = Q (.lst (iW (sparesQ bs cs (aft bs ms pre) r.1 r.2.1 r.2.2))) := fun Q => f_spares_eq ho hc l1 o.a0 o.a1 o.b0 o.b1
    have f2 : ∀ Q, f_spares A [clW A bs cs, .tup (iW (aft bs (aft bs ms rs) pre)), bunW r] Q = Q (.lst (iW (sparesQ bs cs (aft bs (aft bs ms rs) pre) r.1 r.2.1 r.2.2))) := fun Q => f_spares_eq ho hc l2 o.a0 o.a1 o.b0 o.b1
    have m1 : ∀ Q, f_moved A [clW A bs cs, .tup (iW (aft bs ms pre)), bunW r] Q = Q (.sh (.tup (iW (aft bs ms (pre ++ [r]))))) := fun Q => by rw [← a1]; exact f_moved_eq l1 h1000 (rIdx_of o)
    have m2 : ∀ Q, f_moved A [clW A bs cs, .tup (iW (aft bs (aft bs ms rs) pre)), bunW r] Q = Q (.sh (.tup (iW (aft bs (aft bs ms rs) (pre ++ [r]))))) := fun Q => by rw [← a2]; exact f_moved_eq l2 h1000 (rIdx_of o)
    have a3 : pre.length + 1 = (pre ++ [r]).length := by rw [List.length_append]; rfl
    have ih := fun f a b c d e => fs_go (E := E) (x1 := x1) (x2 := x2) h1000 hc ho hl hN hr hZ (post := post) (pre := pre ++ [r]) (f := f) (a := a) (b := b) (c := c) (d := d) (e := e) (by rw [er, List.append_assoc]; rfl)
    rw [← a3] at ih
    rw [fsGo, a1, a2]
    generalize aft bs ms pre = now at *
    generalize aft bs (aft bs ms rs) pre = later at *
    generalize aft bs ms (pre ++ [r]) = now2 at *
    generalize aft bs (aft bs ms rs) (pre ++ [r]) = later2 at *
    generalize sparesQ bs cs now r.1 r.2.1 r.2.2 = s1 at *
    generalize sparesQ bs cs later r.1 r.2.1 r.2.2 = s2 at *
    rw [List.zipIdx_cons, List.map_cons]
    simp only [qLoop_cons]
    simp [p_first_stop_g1, p_first_stop_b1, f1, f2, pairW_iW, -qLoop_cons]
    obtain ⟨j', ej⟩ := fs_pairs (A := A) (bs := bs) (cs := cs) (now := now) (later := later) (n := pre.length) (r := r) hN (x1 := x1) (x2 := x2) (E := { nx := sPar 3 4 (qCall (f_moved A) 3 (aCons (qVar 0) (aCons (qVar 3) (aCons (qVar 7) aNil)))) (qCall (f_moved A) 3 (aCons (qVar 0) (aCons (qVar 4) (aCons (qVar 7) aNil)))) { nx := qLoop (p_first_stop_g1 A) (p_first_stop_b1 A) E ((post.zipIdx (pre.length + 1)).map fun p => W.tup [.v (.int (p.2 : Int)), bunW p.1]), ct := qLoop (p_first_stop_g1 A) (p_first_stop_b1 A) E ((post.zipIdx (pre.length + 1)).map fun p => W.tup [.v (.int (p.2 : Int)), bunW p.1]), bk := E.nx, rt := E.rt }, ct := qLoop (p_first_stop_g1 A) (p_first_stop_b1 A) E ((post.zipIdx (pre.length + 1)).map fun p => W.tup [.v (.int (p.2 : Int)), bunW p.1]), bk := E.nx, rt := E.rt }) (s1.zip s2) f (c, d, e) sd
    refine Eq.to_iff (ej.trans ?_)
    simp [m1, m2]
    exact Eq.to_iff (ih _ _ _ _ _ _)
theorem f_first_stop_eq {Q : D → Prop} (h1000 : bs.length ≤ 1000) (hc : cs.length ≤ 1000) (ho : ∀ t ∈ bs, BunOk (cs.length : Int) t) (hl : ms.length = bs.length) (hN : tms rs < 2 ^ 9000) (hr : ∀ r ∈ rs, RunOk bs cs.length r) : f_first_stop A [clW A bs cs, .tup (iW ms), .lst (rs.map bunW)] Q = Q (optS (fstop bs cs ms rs)) := by
  have fa : ∀ Q, f_after_turn A [clW A bs cs, .tup (iW ms), .lst (rs.map bunW)] Q = Q (.sh (.tup (iW (aft bs ms rs)))) := fun Q => f_after_eq h1000 hl hr
  simp [f_first_stop, p_first_stop, fa]
  rw [pairW_enum]
  refine Eq.to_iff ((fs_go (E := { nx := sRetV 5 { nx := fun x => Q D.non, rt := Q }, rt := Q }) (Z := fun f => Q (optS f)) h1000 hc ho hl hN hr (fun now later f a b c d e => by cases f <;> simp [optS]) (post := rs) (pre := []) (f := none) rfl).trans ?_)
  rfl
end
end R

/-! ## L15: play, most_turns -/
namespace R
open PySem PySem.Spec PyProof.Rows L2 G
abbrev Blk := Int × List Run
def blkW (b : Blk) : W := .tup [.v (.int b.1), .lst (b.2.map bunW)]
/-- where a plan leads, or where it is stopped -/
def playQ (bs : List Bun) (cs : List Bnd) : List Int → Nat → List Blk → Sum (Nat × Int × Nat) (List Int)
  | ms, _, [] => .inr ms
  | ms, n, b :: bl => match fstop bs cs ms b.2 with
    | some q => if q.1 < b.1 then .inl (n, q.1, q.2) else playQ bs cs (aftN bs ms b.2 b.1.toNat) (n + 1) bl
    | none => playQ bs cs (aftN bs ms b.2 b.1.toNat) (n + 1) bl
structure BlkOk (bs : List Bun) (n : Nat) (b : Blk) : Prop where
  t0 : 0 ≤ b.1
  t1 : b.1.natAbs < 2 ^ 9000
  tm : tms b.2 < 2 ^ 9000
  rn : ∀ r ∈ b.2, RunOk bs n r
/-- what a play ends in -/
def endP (Q : D → Prop) (X : XW → Prop) : Sum (Nat × Int × Nat) (List Int) → Prop
  | .inl q => X ⟨.stopped, [.v (.int (q.1 : Int)), .v (.int q.2.1), .v (.int (q.2.2 : Int))]⟩
  | .inr ms => Q (.sh (.tup (iW ms)))
theorem log2_lt9 {n : Nat} (h : n < 2 ^ 9000) : n.log2 < 9000 := by
  by_cases e : n = 0
  · rw [e]; decide
  · exact (Nat.log2_lt e).mpr h
section
variable {A : Ad} {bs : List Bun} {cs : List Bnd} {ms : List Int} {rs : List Run}
theorem lead_diff (hl : ms.length = bs.length) (hr : ∀ r ∈ rs, RunOk bs cs.length r) : ∀ p ∈ ms.zip (aft bs ms rs), (p.2 - p.1).natAbs ≤ tms rs := fun p hp => by
  obtain ⟨k, hk, e⟩ := List.mem_iff_getElem.mp hp
  rw [List.length_zip] at hk
  have h1 : k < ms.length := by omega
  have h2 : k < (aft bs ms rs).length := by omega
  rw [List.getElem_zip] at e
  have q := (aff_lead k (rs := rs) (bs := bs) fun r h => ⟨cs.length, hr r h⟩).aft hl
  have b := sum_abs (c := fun r => if rIdx bs r = k then chg r.1 r.2.1 r.2.2 else 0) (rs := rs) fun r _ => by
    have := chg_abs r.1 r.2.1 r.2.2
    split <;> omega
  simp only [List.getD_eq_getElem?_getD] at q
  rw [List.getElem?_eq_getElem h1, List.getElem?_eq_getElem h2] at q
  simp only [Option.getD_some] at q
  subst e
  show Int.natAbs ((aft bs ms rs)[k] - ms[k]) ≤ _
  omega
theorem play_go {X0 : XQ} {E : EQ} {x2 : D} {Q : D → Prop} {Xp : XW → Prop} (hX : ∀ ρ x, X0 ρ x = Xp x) (hE : ∀ ms a b c d e f g, E.nx [.sh (clW A bs cs), .sh (.tup (iW ms)), x2, a, b, c, d, e, f, g] = Q (.sh (.tup (iW ms)))) (h1000 : bs.length ≤ 1000) (hc : cs.length ≤ 1000) (ho : ∀ t ∈ bs, BunOk (cs.length : Int) t) :
    ∀ {bl : List Blk} {n : Nat} {ms : List Int} {a b c d e : D}, (∀ b ∈ bl, BlkOk bs cs.length b) → ms.length = bs.length → qLoop (p_play_g0 A X0) (p_play_b0 A X0) E ((bl.zipIdx n).map fun p => W.tup [.v (.int (p.2 : Int)), blkW p.1]) [.sh (clW A bs cs), .sh (.tup (iW ms)), x2, a, b, c, d, e, .un, .un] = endP Q Xp (playQ bs cs ms n bl)
  | [], n, ms, a, b, c, d, e, _, _ => by simp [playQ, endP, hE]
  | (t, rs) :: bl, n, ms, a, b, c, d, e, hb, hl => by
    have o := hb _ List.mem_cons_self
    have ih := fun ms a b c d e hl => play_go (X0 := X0) (E := E) (x2 := x2) hX hE h1000 hc ho (bl := bl) (n := n + 1) (ms := ms) (a := a) (b := b) (c := c) (d := d) (e := e) (fun b h => hb b (List.mem_cons_of_mem _ h)) hl
    have fs : ∀ Q, f_first_stop A [clW A bs cs, .tup (iW ms), .lst (rs.map bunW)] Q = Q (optS (fstop bs cs ms rs)) := fun Q => f_first_stop_eq h1000 hc ho hl o.tm o.rn
    have fa : ∀ Q, f_after_turn A [clW A bs cs, .tup (iW ms), .lst (rs.map bunW)] Q = Q (.sh (.tup (iW (aft bs ms rs)))) := fun Q => f_after_eq h1000 hl o.rn
    have t0 : 0 ≤ t := o.t0
    have tt : ((t.toNat : Nat) : Int) = t := Int.toNat_of_nonneg t0
    have hr' : ∀ r ∈ rs, ∃ n, RunOk bs n r := fun r h => ⟨_, o.rn r h⟩
    have mz := aftN_zip (bs := bs) (ms := ms) (rs := rs) hl hr' t.toNat
    rw [tt] at mz
    have ld := lead_diff (cs := cs) (ms := ms) (rs := rs) hl o.rn
    have zl : (ms.zip (aft bs ms rs)).length ≤ 100000 := by rw [List.length_zip]; omega
    have zl2 : (pairW (iW ms) (iW (aft bs ms rs))).length ≤ 100000 := by rw [pairW_iW, List.length_map]; exact zl
    have lc : ∀ k ρ x3 x6, ρ = [.sh (clW A bs cs), .sh (.tup (iW ms)), x2, x3, .int t, .sh (.lst (rs.map bunW)), x6, .sh (.tup (iW (aft bs ms rs))), .un, .un] → qLcL (gqTup 2 (gqCons (gqName 8) (gqCons (gqName 9) gqNil))) qYes (p_play_e0 A X0) [8, 9] k (pairW (iW ms) (iW (aft bs ms rs))) ρ [] = k ρ (iW (aftN bs ms rs t.toNat)) := fun k ρ x3 x6 e => by
      subst e
      rw [pairW_iW, lcL_map pW (fun p : Int × Int => W.v (.int (p.1 + t * (p.2 - p.1)))) fun p hp acc ws' => ?_]
      · rw [List.nil_append, ← mz]
        show k _ _ = k _ (List.map (fun i : Int => W.v (.int i)) _)
        rw [List.map_map]
        rfl
      · have cm : CMulW t (p.2 - p.1) := by
          have h1 := log2_lt9 o.t1
          have h2 := log2_lt9 (Nat.lt_of_le_of_lt (ld p hp) o.tm)
          show t.natAbs.log2 + (p.2 - p.1).natAbs.log2 < 1000000
          have h1 : t.natAbs.log2 < 9000 := h1
          omega
        simp [p_play_e0, pW, cm]
    have al : (aftN bs ms rs t.toNat).length ≤ 100000 := by rw [aftN_len]; omega
    rw [List.zipIdx_cons, List.map_cons, playQ]
    simp only [qLoop_cons]
    cases ef : fstop bs cs ms rs with
    | none =>
      simp [p_play_g0, p_play_b0, blkW, fs, ef, optS, fa, zl2, -qLoop_cons]
      rw [lc _ _ _ _ rfl]
      simp [al, -qLoop_cons]
      exact Eq.to_iff (ih _ _ _ _ _ _ (by rw [aftN_len]; exact hl))
    | some q =>
      dsimp only
      by_cases hq : q.1 < t
      · simp [p_play_g0, p_play_b0, blkW, fs, ef, optS, at2_0, at2_1, hq, Ek.flds, hX, endP, -qLoop_cons]
      · simp [p_play_g0, p_play_b0, blkW, fs, ef, optS, at2_0, hq, fa, zl2, -qLoop_cons]
        rw [lc _ _ _ _ rfl]
        simp [al, -qLoop_cons]
        exact Eq.to_iff (ih _ _ _ _ _ _ (by rw [aftN_len]; exact hl))
theorem f_play_eq {bl : List Blk} {Q : D → Prop} {X : XW → Prop} (h1000 : bs.length ≤ 1000) (hc : cs.length ≤ 1000) (ho : ∀ t ∈ bs, BunOk (cs.length : Int) t) (hb : ∀ b ∈ bl, BlkOk bs cs.length b) (hl : ms.length = bs.length) : f_play A [clW A bs cs, .tup (iW ms), .lst (bl.map blkW)] Q X = endP Q X (playQ bs cs ms 0 bl) := by
  simp [f_play, p_play]
  rw [pairW_enum]
  exact Eq.to_iff (play_go (X0 := fun _ x => X x) (E := { nx := sRetV 1 { nx := fun x => Q D.non, rt := Q }, rt := Q }) (fun _ _ => rfl) (fun ms a b c d e f g => by simp) h1000 hc ho hb hl)
/-- the turns alone -/
def optT : Option (Int × Nat) → D
  | none => .non
  | some q => .int q.1
theorem f_most_eq {Q : D → Prop} (h1000 : bs.length ≤ 1000) (hc : cs.length ≤ 1000) (ho : ∀ t ∈ bs, BunOk (cs.length : Int) t) (hl : ms.length = bs.length) (hN : tms rs < 2 ^ 9000) (hr : ∀ r ∈ rs, RunOk bs cs.length r) : f_most_turns A [clW A bs cs, .tup (iW ms), .lst (rs.map bunW)] Q = Q (optT (fstop bs cs ms rs)) := by
  have fs : ∀ Q, f_first_stop A [clW A bs cs, .tup (iW ms), .lst (rs.map bunW)] Q = Q (optS (fstop bs cs ms rs)) := fun Q => f_first_stop_eq h1000 hc ho hl hN hr
  cases ef : fstop bs cs ms rs with
  | none => simp [f_most_turns, p_most_turns, fs, ef, optS, optT]
  | some q => simp [f_most_turns, p_most_turns, fs, ef, optS, optT, at2_0]
end
end R

/-! ## L16: runs that the laws draw -/
namespace R
open PySem PySem.Spec PyProof.Rows L2 G
section
variable {A : Ad} {bs : List Bun} {cs : List Bnd} {ms : List Int}
/-- how many switches there is room for -/
def roomQ (bs : List Bun) (cs : List Bnd) (ms : List Int) (i j : Int) : Int := min (min (ledQ bs ms i j) (ldg cs.length bs ms i - (cs.getD i.toNat (0, 0)).1)) ((cs.getD j.toNat (0, 0)).2 - ldg cs.length bs ms j)
theorem runB_room {r : Run} : runB bs cs ms r = decide (r.2.2 ≤ roomQ bs cs ms r.1 r.2.1) := by
  rw [Bool.eq_iff_iff]
  unfold runB roomQ sparesQ ldg
  simp only [List.all_cons, List.all_nil, Bool.and_true, Bool.and_eq_true, decide_eq_true_eq]
  omega
theorem legal_room {i j : Int} : legalB bs cs ms i j = decide (1 ≤ roomQ bs cs ms i j) := by
  rw [Bool.eq_iff_iff, legal_iff]
  unfold roomQ
  simp only [decide_eq_true_eq]
  omega
theorem f_room_eq {i j : Int} {Q : D → Prop} (h : ∀ t ∈ bs, BunOk (cs.length : Int) t) (hc : cs.length ≤ 1000) (hl : ms.length = bs.length) (hij : i ≠ j) (i0 : 0 ≤ i) (i1 : i < (cs.length : Int)) (j0 : 0 ≤ j) (j1 : j < (cs.length : Int)) :
    f__law_room A [.lst (cs.map bndW), .lst (bs.map bunW), .tup (iW ms), .v (.int i), .v (.int j)] Q = Q (.int (roomQ bs cs ms i j)) := by
  have fl : ∀ Q, f__law_loads A [.v (.int (cs.length : Int)), .lst (bs.map bunW), .tup (iW ms)] Q = Q (.lst (iW (loadsP cs.length ms bs))) := fun Q => f_law_loads_eq (t := true) h hc hl
  have fd : ∀ Q, f__law_led A [.lst (bs.map bunW), .tup (iW ms), .v (.int i), .v (.int j)] Q = Q (.int (ledQ bs ms i j)) := fun Q => f_law_led_eq hl hij fun t ht => (h t ht).fs
  unfold roomQ ldg
  have hlen : (loadsP cs.length ms bs).length = cs.length := loadsP_len _ _ _
  generalize loadsP cs.length ms bs = hs at *
  generalize ledQ bs ms i j = e at *
  obtain ⟨x, hx⟩ : ∃ x, hs[i.toNat]? = some x := ⟨_, List.getElem?_eq_getElem (by omega)⟩
  obtain ⟨y, hy⟩ : ∃ y, hs[j.toNat]? = some y := ⟨_, List.getElem?_eq_getElem (by omega)⟩
  obtain ⟨c, hcx⟩ : ∃ c, cs[i.toNat]? = some c := ⟨_, List.getElem?_eq_getElem (by omega)⟩
  obtain ⟨d, hdx⟩ : ∃ d, cs[j.toNat]? = some d := ⟨_, List.getElem?_eq_getElem (by omega)⟩
  have a1 := at_int i0 hx
  have a2 := at_int j0 hy
  have a3 := at_map (f := bndW) i0 hcx
  have a4 := at_map (f := bndW) j0 hdx
  have e1 : hs.getD i.toNat 0 = x := by rw [List.getD_eq_getElem?_getD, hx]; rfl
  have e2 : hs.getD j.toNat 0 = y := by rw [List.getD_eq_getElem?_getD, hy]; rfl
  have e3 : cs.getD i.toNat (0, 0) = c := by rw [List.getD_eq_getElem?_getD, hcx]; rfl
  have e4 : cs.getD j.toNat (0, 0) = d := by rw [List.getD_eq_getElem?_getD, hdx]; rfl
  rw [e1, e2, e3, e4]
  simp [f__law_room, p__law_room, fl, fd, a1, a2, a3, a4, -Option.map_some]
  simp [bndW, at2_0, at2_1]
/-- runs that may be drawn -/
structure RunsIn (bs : List Bun) (n : Nat) (rs : List Run) : Prop where
  ok : ∀ r ∈ rs, RunOk bs n r
  tm : ∀ r ∈ rs, 1 ≤ r.2.2 ∧ r.2.2 ≤ 1000000000000000000
theorem RunsIn.nil {n : Nat} : RunsIn bs n [] := ⟨(fun _ h => nomatch h), (fun _ h => nomatch h)⟩
theorem RunsIn.app {n : Nat} {rs rs' : List Run} (h : RunsIn bs n rs) (h' : RunsIn bs n rs') : RunsIn bs n (rs ++ rs') := ⟨fun r hr => (List.mem_append.mp hr).elim (h.ok r) (h'.ok r), fun r hr => (List.mem_append.mp hr).elim (h.tm r) (h'.tm r)⟩
theorem RunsIn.one {n : Nat} {r : Run} (h : RunOk bs n r) (t1 : 1 ≤ r.2.2) (t2 : r.2.2 ≤ 1000000000000000000) : RunsIn bs n [r] := ⟨fun q hq => by rw [List.mem_singleton.mp hq]; exact h, fun q hq => by rw [List.mem_singleton.mp hq]; exact ⟨t1, t2⟩⟩
theorem RunsIn.tms {n : Nat} {rs : List Run} (h : RunsIn bs n rs) : R.tms rs ≤ rs.length * 1000000000000000000 := by
  have : ∀ {rs : List Run}, (∀ r ∈ rs, 1 ≤ r.2.2 ∧ r.2.2 ≤ 1000000000000000000) → R.tms rs ≤ rs.length * 1000000000000000000 := fun {rs} => by
    induction rs with
    | nil => intro _; simp [R.tms]
    | cons r rs ih =>
      intro h
      have h1 := h r List.mem_cons_self
      have h2 := ih fun r hr => h r (List.mem_cons_of_mem _ hr)
      show r.2.2.natAbs + R.tms rs ≤ _
      rw [List.length_cons, Nat.add_mul]
      omega
  exact this h.tm
theorem big9 : 100000 * 1000000000000000000 < 2 ^ 9000 := by
  have : (2 : Nat) ^ 80 ≤ 2 ^ 9000 := Nat.pow_le_pow_right (by decide) (by decide)
  have h : 100000 * 1000000000000000000 < 2 ^ 80 := by decide
  omega
theorem RunsIn.small {n : Nat} {rs : List Run} (h : RunsIn bs n rs) (hl : rs.length ≤ 100000) : R.tms rs < 2 ^ 9000 := by
  have h1 := h.tms
  have h2 : rs.length * 1000000000000000000 ≤ 100000 * 1000000000000000000 := Nat.mul_le_mul_right _ hl
  have := big9
  omega
theorem runOk_legal (ok : ClOk bs cs) {p : Int × Int} (h : p ∈ legalP bs cs ms) (q : Int) : RunOk bs cs.length (p.1, p.2, q) := by
  obtain ⟨_, hne, a0, a1, b0, b1, k, hk⟩ := legalP_mem ok h
  exact ⟨a0, a1, b0, b1, hne, k, hk⟩
theorem runOk_row (ok : ClOk bs cs) {t : Bun} (h : t ∈ bs) (q : Int) : RunOk bs cs.length (t.1, t.2.1, q) ∧ RunOk bs cs.length (t.2.1, t.1, q) := by
  have ot := ok.each t h
  have f0 := ot.f0
  have fs := ot.fs
  have sn := ot.sn
  obtain ⟨n, hn, en⟩ := List.mem_iff_getElem.mp h
  have hx := idx_of ok.nd (n := n) (t := t) (by rw [← en]; exact List.getElem?_eq_getElem hn)
  exact ⟨⟨f0, by show t.1 < _; omega, by show 0 ≤ t.2.1; omega, sn, by show t.1 ≠ t.2.1; omega, n, by show idx bs (min t.1 t.2.1) (max t.1 t.2.1) = _; rw [Int.min_eq_left (by omega), Int.max_eq_right (by omega)]; exact hx⟩,
    ⟨by show 0 ≤ t.2.1; omega, sn, f0, by show t.1 < _; omega, by show t.2.1 ≠ t.1; omega, n, by show idx bs (min t.2.1 t.1) (max t.2.1 t.1) = _; rw [Int.min_eq_right (by omega), Int.max_eq_left (by omega)]; exact hx⟩⟩
theorem VL.run (v : VL bs cs ms) (ho : ∀ t ∈ bs, BunOk (cs.length : Int) t) {r : Run} (o : RunOk bs cs.length r) (h0 : 0 ≤ r.2.2) (h1 : r.2.2 ≤ roomQ bs cs ms r.1 r.2.1) : VL bs cs (mvR bs ms r) := by
  have hk := rIdx_of o
  unfold roomQ at h1
  refine ⟨moved_ok v.1 hk h0 (by omega), fun x x0 x1 => ?_⟩
  unfold mvR
  rw [moved_load v.1.1 ho o.ne hk x0 x1]
  have := v.2 x x0 x1
  by_cases e1 : x = r.1
  · subst e1
    rw [if_pos rfl, if_neg o.ne]
    omega
  · rw [if_neg e1]
    by_cases e2 : x = r.2.1
    · subst e2
      rw [if_pos rfl]
      omega
    · rw [if_neg e2]; omega
/-- what _law_moved says, for a run -/
theorem f_law_mvR {r : Run} {Q : D → Prop} (ok : ClOk bs cs) (hl : ms.length = bs.length) (o : RunOk bs cs.length r) : f__law_moved A [.lst (bs.map bunW), .tup (iW ms), .v (.int r.1), .v (.int r.2.1), .v (.int r.2.2)] Q = Q (.sh (.tup (iW (mvR bs ms r)))) := by
  have := ok.len
  rw [f_law_moved_eq hl (by omega), mvT_eq o.ne hl (fun t ht => (ok.each t ht).fs) ok.nd (rIdx_of o)]
  rfl
theorem f_run_of {g : Bool} {Q : D → Prop} (ok : ClOk bs cs) (hne : bs ≠ []) (h : ∀ r : Run, RunOk bs cs.length r → 1 ≤ r.2.2 → r.2.2 ≤ 1000000000000000000 → Q (.sh (bunW r))) : f__law_run A [.bag, .lst (bs.map bunW), .v (.bl g)] Q := by
  have hlen := ok.len
  have hb0 : 0 < bs.length := List.length_pos_iff.mpr hne
  simp [f__law_run, p__law_run]
  refine ⟨by omega, fun v v0 v1 => ?_⟩
  obtain ⟨t, ht⟩ : ∃ t, bs[v.toNat]? = some t := ⟨_, List.getElem?_eq_getElem (by omega)⟩
  have hm := List.mem_of_getElem? ht
  have p1 := (ok.each t hm).p1
  have pm := (ok.each t hm).pm
  rw [at_map (f := bunW) v0 ht]
  simp [bunW, at3_2]
  intro a a0 a1
  refine ⟨by omega, fun b b0 b1 x x0 x1 => onW_pick x0 (by simpa using x1) fun w hw => ?_⟩
  obtain ⟨q, rfl, q0, q1⟩ : ∃ q : Int, w = .v (.int q) ∧ 1 ≤ q ∧ q ≤ 1000000000000000000 := by
    simp only [List.mem_cons, List.not_mem_nil, or_false] at hw
    rcases hw with rfl | rfl | rfl <;> exact ⟨_, rfl, by omega, by omega⟩
  have fin : ∀ q : Int, 1 ≤ q → q ≤ 1000000000000000000 → ∀ y : Int, 0 ≤ y → y < 2 → onW (atI [W.tup [.v (.int t.1), .v (.int t.2.1), .v (.int q)], W.tup [.v (.int t.2.1), .v (.int t.1), .v (.int q)]] y) (fun w => Q (.sh w)) ⟨⟩ := fun q q0 q1 y y0 y1 => onW_pick y0 (by simpa using y1) fun w hw => by
    simp only [List.mem_cons, List.not_mem_nil, or_false] at hw
    rcases hw with rfl | rfl
    · exact h (t.1, t.2.1, q) (runOk_row ok hm q).1 q0 q1
    · exact h (t.2.1, t.1, q) (runOk_row ok hm q).2 q0 q1
  cases g with
  | false =>
    simp [at3_0, at3_1]
    exact fun y y0 y1 => fin q q0 q1 y y0 y1
  | true =>
    simp [at3_0, at3_1]
    intro y y0 y1
    split
    · exact ⟨cpow18, fun z z0 z1 u u0 u1 => fin _ (by omega) (by omega) u u0 u1⟩
    · exact fun u u0 u1 => fin q q0 q1 u u0 u1
theorem f_free_of {m : Int} {Q : D → Prop} (ok : ClOk bs cs) (v : VL bs cs ms) (m0 : 1 ≤ m) (m1 : m ≤ 1000) (h : ∀ rs, RunsIn bs cs.length rs → rs.length ≤ m.toNat → Q (.lst (rs.map bunW))) : f__law_free_runs A [.bag, .lst (cs.map bndW), .lst (bs.map bunW), .tup (iW ms), .v (.int m)] Q := by
  have hlen := ok.len
  simp [f__law_free_runs, p__law_free_runs]
  refine ⟨by omega, fun n n0 n1 => ⟨by omega, loop_rng (fun i ρ => ∃ rs ms a b c d e f, RunsIn bs cs.length rs ∧ rs.length ≤ i ∧ VL bs cs ms ∧ ρ = [.sh .bag, .sh (.lst (cs.map bndW)), .sh (.lst (bs.map bunW)), .sh (.tup (iW ms)), .int m, .lst (rs.map bunW), a, b, c, d, e, f]) ⟨[], ms, _, _, _, _, _, _, RunsIn.nil, Nat.le_refl _, v, rfl⟩ ?_ ?_⟩⟩
  · rintro i _ hi ⟨rs, ms, a, b, c, d, e, f, hrs, hx, v, rfl⟩ T k
    have hxl : rs.length < 100000 := by omega
    simp [p__law_free_runs_g0, p__law_free_runs_b0, f_legal_pairs_eq ok v.1]
    have okp := ok_pairs (legalP bs cs ms)
    have hpl : (legalP bs cs ms).length ≤ 2 * bs.length := by rw [← pairsQ_len]; exact List.length_filter_le _ _
    cases el : legalP bs cs ms with
    | nil =>
      simp
      exact k _ ⟨rs, ms, _, _, _, _, _, _, hrs, by omega, v, rfl⟩
    | cons p ps =>
      rw [el] at okp hpl
      rw [List.length_cons] at hpl
      have nb : W.eqL ((p :: ps).map pW) [] = false := rfl
      simp [nb, hxl, -List.map_cons]
      refine ⟨fun _ _ _ => rfl, by omega, fun r r0 r1 => ?_⟩
      obtain ⟨q, hq⟩ : ∃ q, (p :: ps)[r.toNat]? = some q := ⟨_, List.getElem?_eq_getElem (by rw [List.length_cons]; omega)⟩
      have hm : q ∈ legalP bs cs ms := by rw [el]; exact List.mem_of_getElem? hq
      obtain ⟨hg, hne, a0, a1, b0, b1, n, hn⟩ := legalP_mem ok hm
      rw [legal_room] at hg
      have hg : 1 ≤ roomQ bs cs ms q.1 q.2 := of_decide_eq_true hg
      have rm : roomQ bs cs ms q.1 q.2 ≤ 1000000000000000000 := by
        obtain ⟨m', t, em, et, _⟩ := moved_get (q := 0) v.1.1 hn
        have hled := ledQ_some (ms := ms) hn em et
        have h1 := v.1.2 n m' t em et
        have h2 := (ok.each t (List.mem_of_getElem? et)).pm
        have : ledQ bs ms q.1 q.2 ≤ 1000000000000000000 := by rw [hled]; split <;> omega
        unfold roomQ
        omega
      rw [at_map (f := pW) r0 hq]
      have fr : ∀ Q, f__law_room A [.lst (cs.map bndW), .lst (bs.map bunW), .tup (iW ms), .v (.int q.1), .v (.int q.2)] Q = Q (.int (roomQ bs cs ms q.1 q.2)) := fun Q => f_room_eq ok.each (by omega) v.1.1 hne a0 a1 b0 b1
      simp [pW, fr]
      refine ⟨by omega, fun z z0 z1 x x0 x1 => onW_pick x0 (by simpa using x1) fun w hw => ?_⟩
      obtain ⟨y, rfl, y0, y1⟩ : ∃ y : Int, w = .v (.int y) ∧ 1 ≤ y ∧ y ≤ roomQ bs cs ms q.1 q.2 := by
        simp only [List.mem_cons, List.not_mem_nil, or_false] at hw
        rcases hw with rfl | rfl | rfl <;> exact ⟨_, rfl, by omega, by omega⟩
      have o : RunOk bs cs.length (q.1, q.2, y) := runOk_legal ok hm y
      have fm : ∀ Q, f__law_moved A [.lst (bs.map bunW), .tup (iW ms), .v (.int q.1), .v (.int q.2), .v (.int y)] Q = Q (.sh (.tup (iW (mvR bs ms (q.1, q.2, y))))) := fun Q => f_law_mvR ok v.1.1 o
      have s1 := at_snoc (rs.map bunW) (bunW (q.1, q.2, y))
      have em : min y 1000000000000000000 = y := by omega
      have s1' : atI (rs.map bunW ++ [W.tup [.v (.int q.1), .v (.int q.2), .v (.int y)]]) (-1) = some (W.tup [.v (.int q.1), .v (.int q.2), .v (.int y)]) := s1
      simp [cpow18, em, hxl, s1', at3_2, fm]
      exact k _ ⟨rs ++ [(q.1, q.2, y)], _, _, _, _, _, _, _, hrs.app (RunsIn.one o y0 (by show y ≤ _; omega)), by rw [List.length_append, List.length_singleton]; omega, v.run ok.each o (by show 0 ≤ y; omega) y1, by rw [List.map_append]; rfl⟩
  · rintro _ ⟨rs, ms, a, b, c, d, e, f, hrs, hx, v, rfl⟩
    simp
    exact h _ hrs (by omega)
end
end R

/-! ## PT2: blocks that never stop; how late one stops -/
namespace R
open PySem PySem.Spec PyProof.Rows L2 G
section
variable {bs : List Bun} {cs : List Bnd} {ms : List Int} {rs : List Run}
theorem trn_le {s u t B : Int} (h : trn s u = some t) (hs : s ≤ B) (hB : 0 ≤ B) : t ≤ B + 1 := by
  unfold trn at h
  split at h
  next => cases h; omega
  next h1 =>
    split at h
    next h2 =>
      cases h
      have : s / (s - u) ≤ s := Int.ediv_le_self _ (by omega)
      omega
    next => cases h
theorem upd1_le {n : Nat} {f : Option (Int × Nat)} {p : Int × Int} {B : Int} (hf : ∀ q, f = some q → q.1 ≤ B + 1) (hp : p.1 ≤ B) (hB : 0 ≤ B) : ∀ q, upd1 n f p = some q → q.1 ≤ B + 1 := by
  intro q h
  unfold upd1 at h
  cases e : trn p.1 p.2 with
  | none => rw [e] at h; exact hf q h
  | some t =>
    have := trn_le e hp hB
    rw [e] at h
    cases f with
    | none => cases h; exact this
    | some q0 =>
      dsimp only at h
      split at h
      · cases h; exact this
      · exact hf q h
theorem upds_le {n : Nat} {B : Int} (hB : 0 ≤ B) : ∀ {ps : List (Int × Int)} {f : Option (Int × Nat)}, (∀ q, f = some q → q.1 ≤ B + 1) → (∀ p ∈ ps, p.1 ≤ B) → ∀ q, ps.foldl (upd1 n) f = some q → q.1 ≤ B + 1
  | [], f, hf, _ => hf
  | p :: ps, f, hf, hp => by
    intro q h
    exact upds_le hB (ps := ps) (f := upd1 n f p) (upd1_le hf (hp p List.mem_cons_self) hB) (fun p h => hp p (List.mem_cons_of_mem _ h)) q h
theorem fsGo_le {B : Int} (hB : 0 ≤ B) : ∀ {post pre : List Run} {later : List Int} {n : Nat} {f : Option (Int × Nat)}, (∀ q, f = some q → q.1 ≤ B + 1) → (∀ a r b, post = a ++ r :: b → ∀ x ∈ sparesQ bs cs (aft bs ms (pre ++ a)) r.1 r.2.1 r.2.2, x ≤ B) → ∀ q, fsGo bs cs (aft bs ms pre) later n post f = some q → q.1 ≤ B + 1
  | [], pre, later, n, f, hf, _ => hf
  | r :: post, pre, later, n, f, hf, hx => by
    have a1 : mvR bs (aft bs ms pre) r = aft bs ms (pre ++ [r]) := by rw [aft_app]; rfl
    rw [fsGo, a1]
    refine fsGo_le hB (upds_le hB hf fun p hp => ?_) fun a r' b e x hx' => ?_
    · have := hx [] r post rfl
      rw [List.append_nil] at this
      exact this p.1 (List.of_mem_zip (a := p.1) (b := p.2) hp).1
    · refine hx (r :: a) r' b (by rw [e]; rfl) x ?_
      rwa [List.append_assoc] at hx'
theorem fstop_le {B : Int} (hB : 0 ≤ B) (hx : ∀ a r b, rs = a ++ r :: b → ∀ x ∈ sparesQ bs cs (aft bs ms a) r.1 r.2.1 r.2.2, x ≤ B) : ∀ q, fstop bs cs ms rs = some q → q.1 ≤ B + 1 := fsGo_le (pre := []) hB (fun q h => nomatch h) hx
/-- spares behind some runs -/
theorem spare_le {a : List Run} {r : Run} (ok : ClOk bs cs) (v : VL bs cs ms) (ha : ∀ q ∈ a, RunOk bs cs.length q) (o : RunOk bs cs.length r) (h0 : 0 ≤ r.2.2) : ∀ x ∈ sparesQ bs cs (aft bs ms a) r.1 r.2.1 r.2.2, x ≤ 1000000000000000000000000000000 + tms a := by
  have ha' : ∀ r ∈ a, ∃ n, RunOk bs n r := fun r h => ⟨_, ha r h⟩
  obtain ⟨c, h1, hc⟩ := aff_led' (bs := bs) (rs := a) o.ne ha'
  have e1 := h1.aft v.1.1
  have e2 := (aff_load (n := cs.length) ok.each o.a0 o.a1 ha').aft v.1.1
  have e3 := (aff_load (n := cs.length) ok.each o.b0 o.b1 ha').aft v.1.1
  have b1 := sum_abs (c := c) (rs := a) fun r _ => hc r
  have b2 := sum_abs (c := fun q => (if r.1 = q.2.1 then q.2.2 else 0) - (if r.1 = q.1 then q.2.2 else 0)) (rs := a) fun q hq => by
    have := (ha q hq).ne
    show Int.natAbs ((if r.1 = q.2.1 then q.2.2 else 0) - (if r.1 = q.1 then q.2.2 else 0)) ≤ _
    split <;> split <;> omega
  have b3 := sum_abs (c := fun q => (if r.2.1 = q.2.1 then q.2.2 else 0) - (if r.2.1 = q.1 then q.2.2 else 0)) (rs := a) fun q hq => by
    have := (ha q hq).ne
    show Int.natAbs ((if r.2.1 = q.2.1 then q.2.2 else 0) - (if r.2.1 = q.1 then q.2.2 else 0)) ≤ _
    split <;> split <;> omega
  have v1 := v.2 r.1 o.a0 o.a1
  have v2 := v.2 r.2.1 o.b0 o.b1
  have in1 : ∀ y : Int, 0 ≤ y → y < (cs.length : Int) → 0 ≤ (cs.getD y.toNat (0, 0)).1 ∧ (cs.getD y.toNat (0, 0)).2 ≤ 1000000000000000000000000000000 := fun y y0 y1 => by
    have hy : y.toNat < cs.length := by omega
    rw [List.getD_eq_getElem?_getD, List.getElem?_eq_getElem hy]
    have := bnd_in ok _ (List.getElem_mem hy)
    exact ⟨this.1, this.2.2⟩
  have i1 := in1 r.1 o.a0 o.a1
  have i2 := in1 r.2.1 o.b0 o.b1
  have l1 : ledQ bs ms r.1 r.2.1 ≤ 1000000000000000000 := by
    obtain ⟨k, hk⟩ := o.ex
    obtain ⟨m', t, em, et, _⟩ := moved_get (q := 0) v.1.1 hk
    have h1 := v.1.2 k m' t em et
    have h2 := (ok.each t (List.mem_of_getElem? et)).pm
    rw [ledQ_some hk em et]
    split <;> omega
  unfold ldg at e2 e3 v1 v2
  unfold sparesQ
  rw [e1, e2, e3]
  intro x hx
  simp only [List.mem_cons, List.not_mem_nil, or_false] at hx
  rcases hx with rfl | rfl | rfl <;> omega
theorem tms_app (a b : List Run) : tms (a ++ b) = tms a + tms b := by unfold tms; rw [List.map_append, List.sum_append]
theorem fstop_small (ok : ClOk bs cs) (v : VL bs cs ms) (hr : RunsIn bs cs.length rs) (hl : rs.length ≤ 10000) : ∀ q, fstop bs cs ms rs = some q → q.1 ≤ 2000000000000000000000000000000 := fun q h => by
  have tm := hr.tms
  have tb : rs.length * 1000000000000000000 ≤ 10000 * 1000000000000000000 := Nat.mul_le_mul_right _ hl
  have := fstop_le (bs := bs) (cs := cs) (ms := ms) (rs := rs) (B := 1000000000000000000000000000000 + tms rs) (by omega) (fun a r b e x hx => by
    have ha : ∀ q ∈ a, RunOk bs cs.length q := fun q hq => hr.ok q (by rw [e]; exact List.mem_append_left _ hq)
    have hm : r ∈ rs := by rw [e]; exact List.mem_append_right _ List.mem_cons_self
    have q1 := spare_le ok v ha (hr.ok r hm) (by have := hr.tm r hm; omega) x hx
    have q2 := tms_app a (r :: b)
    rw [← e] at q2
    omega) q h
  omega
theorem big100 : 2 ^ 110 ≤ 2 ^ 9000 := Nat.pow_le_pow_right (by decide) (by decide)
theorem sum_pos {c : Run → Int} {sg : Int} : ∀ {rs : List Run}, 0 < sg * (rs.map c).sum → ∃ r ∈ rs, 0 < sg * c r
  | [], h => by simp at h
  | r :: rs, h => by
    rw [List.map_cons, List.sum_cons, Int.mul_add] at h
    by_cases hh : 0 < sg * c r
    · exact ⟨r, List.mem_cons_self, hh⟩
    · obtain ⟨r', h1, h2⟩ := sum_pos (c := c) (sg := sg) (rs := rs) (by omega)
      exact ⟨r', List.mem_cons_of_mem _ h1, h2⟩
/-- a block that never stops changes nothing -/
theorem still (ho : ∀ t ∈ bs, BunOk (cs.length : Int) t) (hl : ms.length = bs.length) (hr : RunsIn bs cs.length rs) (h : ∀ t j, OkAt bs cs ms rs t j) : aft bs ms rs = ms := by
  have hr' : ∀ r ∈ rs, ∃ n, RunOk bs n r := fun r h => ⟨_, hr.ok r h⟩
  refine getD_ext aft_len fun k => ?_
  have key := (aff_lead k hr').aft hl
  have key : (aft bs ms rs).getD k 0 = ms.getD k 0 + (rs.map fun r => if rIdx bs r = k then chg r.1 r.2.1 r.2.2 else 0).sum := key
  -- if the lead changes, some run of the bundle goes that way
  have go : ∀ (sg : Int), sg = 1 ∨ sg = -1 → 0 < sg * (rs.map fun r => if rIdx bs r = k then chg r.1 r.2.1 r.2.2 else 0).sum → False := fun sg hsg hpos => by
    obtain ⟨r, hm, hh⟩ := sum_pos hpos
    have o := hr.ok r hm
    have tm := hr.tm r hm
    by_cases hk : rIdx bs r = k
    · rw [if_pos hk] at hh
      obtain ⟨pre, post, e⟩ := List.append_of_mem hm
      -- the spare of the leads goes down by the change, turn by turn
      obtain ⟨c, h1, _⟩ := aff_led' (bs := bs) (rs := rs) o.ne hr'
      have hj : ∀ t : Nat, runB bs cs (aft bs (aftN bs ms rs t) pre) r = true := fun t => by
        have := h t pre.length r (by rw [e, List.getElem?_append_right (Nat.le_refl _)]; simp)
        rwa [e, List.take_left' rfl, ← e] at this
      have e1 : ∀ t : Nat, ledQ bs (aft bs (aftN bs ms rs t) pre) r.1 r.2.1 = ledQ bs (aft bs ms pre) r.1 r.2.1 + (t : Int) * (ledQ bs (aft bs (aft bs ms rs) pre) r.1 r.2.1 - ledQ bs (aft bs ms pre) r.1 r.2.1) := fun t => by
        have := Aff.at (ms := ms) (pre := pre) (post := r :: post) (by rw [← e]; exact h1) hl t
        rwa [← e] at this
      have e2 : ledQ bs (aft bs (aft bs ms rs) pre) r.1 r.2.1 - ledQ bs (aft bs ms pre) r.1 r.2.1 = - (sg * (rs.map fun r => if rIdx bs r = k then chg r.1 r.2.1 r.2.2 else 0).sum) := by
        have hk2 := rIdx_of o
        have l1 : (aft bs ms pre).length = bs.length := by rw [aft_len]; exact hl
        have l2 : (aft bs (aft bs ms rs) pre).length = bs.length := by rw [aft_len, aft_len]; exact hl
        obtain ⟨m1, t1, em1, et1, _⟩ := moved_get (q := 0) l1 hk2
        obtain ⟨m2, t2, em2, et2, _⟩ := moved_get (q := 0) l2 hk2
        rw [ledQ_some hk2 em1 et1, ledQ_some hk2 em2 et2]
        have et : t1 = t2 := by rw [et1] at et2; exact Option.some.inj et2
        have d := Aff.diff (ms := ms) (pre := pre) (post := r :: post) (by rw [← e]; exact aff_lead k hr') hl
        rw [← e] at d
        have d : (aft bs (aft bs ms rs) pre).getD k 0 = (aft bs ms pre).getD k 0 + (rs.map fun r => if rIdx bs r = k then chg r.1 r.2.1 r.2.2 else 0).sum := d
        rw [hk] at em1 em2
        rw [List.getD_eq_getElem?_getD, List.getD_eq_getElem?_getD, em1, em2] at d
        simp only [Option.getD_some] at d
        unfold chg at hh
        rw [← et]
        by_cases hlt : r.1 < r.2.1
        · rw [if_pos hlt] at hh
          rw [if_pos hlt, if_pos hlt]
          rcases hsg with rfl | rfl <;> omega
        · rw [if_neg hlt] at hh
          rw [if_neg hlt, if_neg hlt]
          rcases hsg with rfl | rfl <;> omega
      have big := hj ((ledQ bs (aft bs ms pre) r.1 r.2.1).natAbs + 1)
      rw [runB_room] at big
      have big := of_decide_eq_true big
      unfold roomQ at big
      rw [e1, e2] at big
      generalize sg * (rs.map fun r => if rIdx bs r = k then chg r.1 r.2.1 r.2.2 else 0).sum = S at hpos big
      generalize ledQ bs (aft bs ms pre) r.1 r.2.1 = L at big
      have : ((L.natAbs + 1 : Nat) : Int) * 1 ≤ ((L.natAbs + 1 : Nat) : Int) * S := Int.mul_le_mul_of_nonneg_left (by omega) (by omega)
      rw [Int.mul_neg] at big
      omega
    · rw [if_neg hk] at hh
      omega
  rw [key]
  have g1 : ¬ (0 < 1 * (rs.map fun r => if rIdx bs r = k then chg r.1 r.2.1 r.2.2 else 0).sum) := go 1 (.inl rfl)
  have g2 : ¬ (0 < (-1) * (rs.map fun r => if rIdx bs r = k then chg r.1 r.2.1 r.2.2 else 0).sum) := go (-1) (.inr rfl)
  omega
theorem aftN_still (h : aft bs ms rs = ms) : ∀ t, aftN bs ms rs t = ms
  | 0 => rfl
  | t + 1 => by rw [aftN, aftN_still h t, h]
/-- coming back to the start, a block changes nothing -/
theorem still_of_back (hl : ms.length = bs.length) (hr : ∀ r ∈ rs, RunOk bs cs.length r) {t : Nat} (h : aftN bs ms rs (t + 1) = ms) : aft bs ms rs = ms := by
  refine getD_ext aft_len fun k => ?_
  have := aftN_get hl (fun r h => ⟨_, hr r h⟩) (t + 1) k
  rw [h] at this
  have h0 : ((t + 1 : Nat) : Int) * ((aft bs ms rs).getD k 0 - ms.getD k 0) = 0 := by omega
  rcases Int.mul_eq_zero.mp h0 with q | q
  · omega
  · omega
end
end R

/-! ## L17: turns of runs; what the laws show (the parts of M25, M25b, M25c that other laws need; not beside those) -/
namespace R
open PySem PySem.Spec PyProof.Rows L2 G
theorem eqL_ints : ∀ a b : List Int, W.eqL (iW a) (iW b) = decide (a = b)
  | [], [] => by simp
  | [], b :: bs => by simp
  | a :: as, [] => by simp
  | a :: as, b :: bs => by
    have := eqL_ints as bs
    simp only [List.map_cons, eqL_cons, eq_int, this]
    by_cases h : a = b <;> simp [h]
theorem ok_intsT (a : List Int) : (W.tup (iW a)).ok 20 = true := by
  rw [ok_tup, List.all_eq_true]
  intro w hw
  obtain ⟨c, _, rfl⟩ := List.mem_map.mp hw
  rfl
/-- a turn can be done -/
def turnB (bs : List Bun) (cs : List Bnd) : List Int → List Run → Bool
  | _, [] => true
  | ms, r :: rs => runB bs cs ms r && turnB bs cs (mvR bs ms r) rs
section
variable {A : Ad} {bs : List Bun} {cs : List Bnd} {ms : List Int} {rs : List Run}
theorem turnB_iff {ms : List Int} : ∀ {rs : List Run} {ms : List Int}, turnB bs cs ms rs = true ↔ ∀ (j : Nat) r, rs[j]? = some r → runB bs cs (aft bs ms (rs.take j)) r = true
  | [], ms => by simp [turnB]
  | q :: rs, ms => by
    rw [turnB, Bool.and_eq_true, turnB_iff (ms := ms)]
    constructor
    · rintro ⟨h1, h2⟩ j r hj
      cases j with
      | zero => cases hj; exact h1
      | succ j => exact h2 j r (by simpa using hj)
    · intro h
      exact ⟨h 0 q rfl, fun j r hj => h (j + 1) r (by simpa using hj)⟩
theorem turnB_at {t : Nat} : turnB bs cs (aftN bs ms rs t) rs = true ↔ ∀ j, OkAt bs cs ms rs t j := by
  rw [turnB_iff (ms := ms)]
  exact ⟨fun h j r hj => h j r hj, fun h j r hj => h j r hj⟩
theorem blk_ok {t : Int} (hr : RunsIn bs cs.length rs) (hl : rs.length ≤ 10000) (t0 : 0 ≤ t) (t1 : t ≤ 10000000000000000000000000000000) : BlkOk bs cs.length (t, rs) := by
  refine ⟨t0, ?_, hr.small (by omega), hr.ok⟩
  have h1 := big100
  have h2 : (10000000000000000000000000000000 : Nat) < 2 ^ 110 := by decide
  show t.natAbs < _
  omega
end
/-- a list, own or shared -/
def isL (ws : List W) (x : D) : Prop := x = .lst ws ∨ x = .sh (.lst ws)
theorem lcL_inv' {α : Type} {g : TGQ} {tt : TTQ} {te : TQ} {vs : List Nat} {k : List D → List W → Prop} {ρ : List D} (enc : α → W) {xs : List α} (I : Nat → List W → Prop) {acc : List W} (h0 : I 0 acc) (st : ∀ (i : Nat) x acc, xs[i]? = some x → I i acc → ∀ ws', (∀ acc', I (i + 1) acc' → qLcL g tt te vs k ws' ρ acc') → qLcL g tt te vs k (enc x :: ws') ρ acc) (fin : ∀ acc, I xs.length acc → k ρ acc) : qLcL g tt te vs k (xs.map enc) ρ acc := by
  have : ∀ (n : Nat) (i : Nat) acc, i + n = xs.length → I i acc → qLcL g tt te vs k ((xs.drop i).map enc) ρ acc := by
    intro n
    induction n with
    | zero =>
      intro i acc h hi
      have e : i = xs.length := by omega
      subst e
      rw [List.drop_length]
      simpa using fin acc hi
    | succ n ih =>
      intro i acc h hi
      rw [List.drop_eq_getElem_cons (by omega), List.map_cons]
      exact st i _ acc (List.getElem?_eq_getElem (by omega)) hi _ fun acc' h' => ih (i + 1) acc' (by omega) h'
  simpa using this xs.length 0 acc (by omega) h0
theorem lc_rng {g : TGQ} {tt : TTQ} {te : TQ} {vs : List Nat} {k : List D → List W → Prop} {ρ : List D} {lo : Int} {n : Nat} (I : Nat → List W → Prop) {acc : List W} (h0 : I 0 acc) (st : ∀ (i : Nat) acc, i < n → I i acc → ∀ ws', (∀ acc', I (i + 1) acc' → qLcL g tt te vs k ws' ρ acc') → qLcL g tt te vs k (.v (.int (lo + (i : Int))) :: ws') ρ acc) (fin : ∀ acc, I n acc → k ρ acc) : qLcL g tt te vs k (rngW lo n) ρ acc := by
  have := lcL_inv' (g := g) (tt := tt) (te := te) (vs := vs) (k := k) (ρ := ρ) (fun i : Nat => W.v (.int (lo + (i : Int)))) (xs := List.range n) I h0 (fun i x acc hx hi ws' kk => by
    have hl := get_lt hx
    rw [List.length_range] at hl
    rw [List.getElem?_range hl] at hx
    cases hx
    exact st i acc hl hi ws' kk) (fun acc h => fin acc (by simpa using h))
  exact this
theorem runs_shown {bs : List Bun} {n : Nat} {rs : List Run} (hn : n ≤ 1000) (hr : RunsIn bs n rs) {m : Nat} (hl : rs.length ≤ m) : Sh 2 (149 * m + 3) (.lst (rs.map bunW)) := Sh.lst (n := 1) (B := 147) (fun w hw => by
  obtain ⟨r, hm, rfl⟩ := List.mem_map.mp hw
  have o := hr.ok r hm
  have t := hr.tm r hm
  have := o.a0
  have := o.a1
  have := o.b0
  have := o.b1
  exact Sh.tup (n := 0) (B := 46) (m := 3) (fun w hw => by
    simp only [List.mem_cons, List.not_mem_nil, or_false] at hw
    rcases hw with rfl | rfl | rfl <;> exact Sh.int (by omega)) (by simp)) (by rw [List.length_map]; exact hl)
theorem leads_in {bs : List Bun} {cs : List Bnd} {ms : List Int} (ok : ClOk bs cs) (hm : LeadsOk ms bs) : ∀ x ∈ ms, x.natAbs < 10 ^ 45 := fun x hx => by
  obtain ⟨y, hy, ey⟩ := List.mem_iff_getElem.mp hx
  have hl := hm.1
  have h2 := hm.2 y x _ (by rw [← ey]; exact List.getElem?_eq_getElem hy) (List.getElem?_eq_getElem (by omega))
  have h3 := (ok.each _ (List.getElem_mem (show y < bs.length by omega))).pm
  omega
section
variable {A : Ad} {bs : List Bun} {cs : List Bnd} {ms : List Int} {rs : List Run}
/-- turned about -/
def flipR (r : Run) : Run := (r.2.1, r.1, r.2.2)
theorem flip_ok {n : Nat} {r : Run} (o : RunOk bs n r) : RunOk bs n (flipR r) := ⟨o.b0, o.b1, o.a0, o.a1, o.ne.symm, by
  obtain ⟨k, hk⟩ := o.ex
  exact ⟨k, by show idx bs (min r.2.1 r.1) (max r.2.1 r.1) = _; rw [Int.min_comm, Int.max_comm]; exact hk⟩⟩
theorem flips_in {n : Nat} (h : RunsIn bs n rs) : RunsIn bs n (rs.reverse.map flipR) := ⟨fun r hr => by
  obtain ⟨q, hq, rfl⟩ := List.mem_map.mp hr
  exact flip_ok (h.ok q (List.mem_reverse.mp hq)), fun r hr => by
  obtain ⟨q, hq, rfl⟩ := List.mem_map.mp hr
  exact h.tm q (List.mem_reverse.mp hq)⟩
end
/-- the last ceiling lifted -/
theorem lift30 {bs : List Bun} {cs : List Bnd} {ms : List Int} (ok : ClOk bs cs) (v : VL bs cs ms) : ∃ (c : Bnd) (cs2 : List Bnd), atI (cs.map bndW) (-1) = some (bndW c) ∧ (cs.map bndW).set (cs.length - 1) (.tup [.v (.int c.1), .v (.int 1000000000000000000000000000000)]) = cs2.map bndW ∧ ClOk bs cs2 ∧ VL bs cs2 ms := by
  have hl3 := ok.len
  obtain ⟨c, hc⟩ : ∃ c, cs[cs.length - 1]? = some c := ⟨_, List.getElem?_eq_getElem (by omega)⟩
  have cm := bnd_in ok c (List.mem_of_getElem? hc)
  refine ⟨c, cs.set (cs.length - 1) (c.1, 1000000000000000000000000000000), atI_last (by rw [List.length_map, List.getElem?_map, hc]; rfl), by rw [List.map_set]; rfl, clok_of (by rw [List.length_set]; exact ok.each) ok.nd hl3.1 (by rw [List.length_set]; exact hl3.2.1) (by rw [List.length_set]; exact hl3.2.2) fun d hd => ?_, vl_lift v (by rw [List.length_set]) fun y d d' h1 h2 => ?_⟩
  · rcases List.mem_or_eq_of_mem_set hd with h | h
    · exact bnd_in ok d h
    · subst h; show 0 ≤ c.1 ∧ c.1 ≤ 1000000000000000000000000000000 ∧ (1000000000000000000000000000000 : Int) ≤ 1000000000000000000000000000000; omega
  · by_cases hy : cs.length - 1 = y
    · subst hy
      rw [List.getElem?_set_self (by omega)] at h2
      rw [hc] at h1
      cases h1
      cases h2
      show c.1 ≤ c.1 ∧ c.2 ≤ 1000000000000000000000000000000
      omega
    · rw [List.getElem?_set_ne hy] at h2
      rw [h1] at h2
      cases h2
      omega
theorem rngW_succ (lo : Int) (n : Nat) : rngW lo (n + 1) = .v (.int lo) :: rngW (lo + 1) n := by
  unfold rngW
  rw [List.range_succ_eq_map, List.map_cons, List.map_map]
  congr 1
  · simp
  · refine List.map_congr_left fun i _ => ?_
    show W.v (.int (lo + ((i + 1 : Nat) : Int))) = _
    congr 2
    omega
end R

/-! ## L18: turns that can be done -/
namespace R
open PySem PySem.Spec PyProof.Rows L2 G
section
variable {A : Ad} {bs : List Bun} {cs : List Bnd} {ms : List Int} {rs : List Run}
theorem vl_turn (ok : ClOk bs cs) : ∀ {rs : List Run} {ms : List Int}, RunsIn bs cs.length rs → VL bs cs ms → turnB bs cs ms rs = true → VL bs cs (aft bs ms rs)
  | [], _, _, v, _ => v
  | r :: rs, ms, hr, v, h => by
    rw [turnB, Bool.and_eq_true, runB_room] at h
    have t1 := (hr.tm r List.mem_cons_self).1
    exact vl_turn ok (rs := rs) (ms := mvR bs ms r) ⟨fun q hq => hr.ok q (List.mem_cons_of_mem _ hq), fun q hq => hr.tm q (List.mem_cons_of_mem _ hq)⟩ (v.run ok.each (hr.ok r List.mem_cons_self) (by omega) (of_decide_eq_true h.1)) h.2
/-- so many turns can be done -/
def OkTo (bs : List Bun) (cs : List Bnd) (ms : List Int) (rs : List Run) (t : Nat) : Prop := ∀ k j, k < t → OkAt bs cs ms rs k j
theorem vl_turns (ok : ClOk bs cs) (hr : RunsIn bs cs.length rs) (v : VL bs cs ms) : ∀ {t : Nat}, OkTo bs cs ms rs t → VL bs cs (aftN bs ms rs t)
  | 0, _ => v
  | t + 1, h => vl_turn ok hr (vl_turns ok hr v (t := t) fun k j hk => h k j (by omega)) (turnB_at.mpr fun j => h t j (by omega))
theorem aftN_add (a : Nat) : ∀ b : Nat, aftN bs (aftN bs ms rs a) rs b = aftN bs ms rs (a + b)
  | 0 => rfl
  | b + 1 => by
    show aft bs (aftN bs (aftN bs ms rs a) rs b) rs = aft bs (aftN bs ms rs (a + b)) rs
    rw [aftN_add a b]
theorem OkTo.part {a b : Nat} (h : OkTo bs cs ms rs (a + b)) : OkTo bs cs (aftN bs ms rs a) rs b := fun k j hk r hr => by
  rw [aftN_add]
  exact h (a + k) j (by omega) r hr
theorem OkTo.less {a b : Nat} (h : OkTo bs cs ms rs a) (hb : b ≤ a) : OkTo bs cs ms rs b := fun k j hk => h k j (by omega)
theorem play_on (ok : ClOk bs cs) (hr : ∀ r ∈ rs, RunOk bs cs.length r) (hl : ms.length = bs.length) {t : Int} {n : Nat} {bl : List Blk} (h : OkTo bs cs ms rs t.toNat) : playQ bs cs ms n ((t, rs) :: bl) = playQ bs cs (aftN bs ms rs t.toNat) (n + 1) bl := by
  have f := fstop_ok (cs := cs) ok.each hl hr
  rw [playQ]
  dsimp only
  cases e : fstop bs cs ms rs with
  | none => rfl
  | some q =>
    rw [e] at f
    obtain ⟨f0, f1, f2, f3⟩ := f
    dsimp only
    rw [if_neg fun z => f2 (h q.1.toNat q.2 (by omega))]
theorem okTo_some (ok : ClOk bs cs) (hr : ∀ r ∈ rs, RunOk bs cs.length r) (hl : ms.length = bs.length) {q : Int × Nat} (e : fstop bs cs ms rs = some q) {t : Nat} (h : (t : Int) ≤ q.1) : OkTo bs cs ms rs t := fun k j hk => by
  have f := fstop_ok (cs := cs) ok.each hl hr
  rw [e] at f
  exact f.2.2.2 k j (.inl (by omega))
theorem okTo_none (ok : ClOk bs cs) (hr : ∀ r ∈ rs, RunOk bs cs.length r) (hl : ms.length = bs.length) (e : fstop bs cs ms rs = none) {t : Nat} : OkTo bs cs ms rs t := fun k j hk => by
  have f := fstop_ok (cs := cs) ok.each hl hr
  rw [e] at f
  exact f k j
/-- runs so many times -/
def scR (t : Int) (r : Run) : Run := (r.1, r.2.1, t * r.2.2)
theorem aft_scale {n : Nat} (hl : ms.length = bs.length) (hr : ∀ r ∈ rs, RunOk bs n r) (t : Nat) : aft bs ms (rs.map (scR (t : Int))) = aftN bs ms rs t := by
  have hr' : ∀ r ∈ rs, ∃ n, RunOk bs n r := fun r h => ⟨n, hr r h⟩
  have hs : ∀ r ∈ rs.map (scR (t : Int)), ∃ n, RunOk bs n r := fun r h => by
    obtain ⟨q, hq, rfl⟩ := List.mem_map.mp h
    have o := hr q hq
    exact ⟨n, o.a0, o.a1, o.b0, o.b1, o.ne, o.ex⟩
  refine getD_ext (by rw [aft_len, aftN_len]) fun k => ?_
  have h1 := (aff_lead k hs).aft hl
  have h2 := (aff_lead k hr').aft hl
  have h3 := aftN_get hl hr' t k
  have key : ∀ l : List Run, ((l.map (scR (t : Int))).map fun r => if rIdx bs r = k then chg r.1 r.2.1 r.2.2 else 0).sum = (t : Int) * (l.map fun r => if rIdx bs r = k then chg r.1 r.2.1 r.2.2 else 0).sum := fun l => by
    induction l with
    | nil => simp
    | cons r l ih =>
      rw [List.map_cons, List.map_cons, List.sum_cons, ih, List.map_cons, List.sum_cons, Int.mul_add]
      congr 1
      have e : rIdx bs (scR (t : Int) r) = rIdx bs r := rfl
      rw [e]
      split
      · unfold scR chg
        dsimp only
        split
        · rw [Int.mul_neg]
        · rfl
      · simp
  rw [key] at h1
  rw [h1, h3, h2]
  congr 2
  omega
end
end R

namespace R
open PySem PySem.Spec PyProof.Rows L2 G
def p_is_run (A : Ad) : TSQ :=
    (sSeq (sIf (qOr (qNot (qB (qCB bIsi (vCons (vVar 0) (vCons (vE (qC (.ty "tuple"))) vNil))))) (qOr (qB (qOp (oEq true) (vE (qCB bLen (vCons (vVar 0) vNil))) (vE (qC (.int 3))))) (qNot (qB (qCall (f_is_count A) 1 (aCons (qOp oIx (vVar 0) (vE (qC (.int 2)))) aNil)))))) (sRet (qC (.bl false))) sNext)
    (sRet (qAndV (qCall (f_is_broker A) 2 (aCons (qOp oIx (vVar 0) (vE (qC (.int 0)))) (aCons (qVar 1) aNil))) (qAndV (qCall (f_is_broker A) 2 (aCons (qOp oIx (vVar 0) (vE (qC (.int 1)))) (aCons (qVar 1) aNil))) (qOp (oEq true) (vE (qOp oIx (vVar 0) (vE (qC (.int 0))))) (vE (qOp oIx (vVar 0) (vE (qC (.int 1))))))))))
def f_is_run (A : Ad) : PF := runF (p_is_run A) 0

def p_is_block_e0 (A : Ad) : TQ :=
    (qCall (f_is_run A) 2 (aCons (qVar 2) (aCons (qVar 1) aNil)))
def p_is_block (A : Ad) : TSQ :=
    (sSeq (sIf (qOr (qNot (qB (qCB bIsi (vCons (vVar 0) (vCons (vE (qC (.ty "tuple"))) vNil))))) (qOr (qB (qOp (oEq true) (vE (qCB bLen (vCons (vVar 0) vNil))) (vE (qC (.int 2))))) (qNot (qB (qCall (f_is_count A) 1 (aCons (qOp oIx (vVar 0) (vE (qC (.int 0)))) aNil)))))) (sRet (qC (.bl false))) sNext)
    (sSeq (sIf (qOr (qNot (qB (qCB bIsi (vCons (vE (qOp oIx (vVar 0) (vE (qC (.int 1))))) (vCons (vE (qC (.ty "list"))) vNil))))) (qNot (qB (qChain (oI0 fun i j => .bl (decide (i ≤ j))) (oI0 fun i j => .bl (decide (i ≤ j))) (vE (qC (.int 1))) (vE (qCB bLen (vCons (vE (qOp oIx (vVar 0) (vE (qC (.int 1))))) vNil))) (vE (qC (.int 1000))))))) (sRet (qC (.bl false))) sNext)
    (sRet (qCB bAll (vCons (vE (qLc (iqSeq (qOp oIx (vVar 0) (vE (qC (.int 1))))) (gqName 2) qYes (p_is_block_e0 A) [2])) vNil)))))
def f_is_block (A : Ad) : PF := runF (p_is_block A) 1

def p_are_blocks_e0 (A : Ad) : TQ :=
    (qCall (f_is_block A) 2 (aCons (qVar 4) (aCons (qVar 1) aNil)))
def p_are_blocks_e1 (A : Ad) : TQ :=
    (qCB bLen (vCons (vVar 3) vNil))
def p_are_blocks (A : Ad) : TSQ :=
    (sSeq (sIf (qOr (qNot (qB (qCB bIsi (vCons (vVar 0) (vCons (vE (qC (.ty "list"))) vNil))))) (qOr (qB (qOp (oI0 fun i j => .bl (decide (j < i))) (vE (qCB bLen (vCons (vVar 0) vNil))) (vE (qC (.int 400))))) (qNot (qB (qCB bAll (vCons (vE (qLc (iqSeq (qVar 0)) (gqName 4) qYes (p_are_blocks_e0 A) [4])) vNil)))))) (sRet (qC (.bl false))) sNext)
    (sRet (qOp (oI0 fun i j => .bl (decide (i ≤ j))) (vE (qCB bSum (vCons (vE (qLc (iqSeq (qVar 0)) (gqTup 2 (gqCons (gqName 2) (gqCons (gqName 3) gqNil))) qYes (p_are_blocks_e1 A) [2, 3])) vNil))) (vE (qC (.int 4000))))))
def f_are_blocks (A : Ad) : PF := runF (p_are_blocks A) 3

def p_is_plan_e0 (A : Ad) : TQ :=
    (qOp (oIsN true) (vE (qMeth A.Cluster "bundle_of" (f_Cluster_bundle_of A) 2 (qVar 0) (aCons (qOp oIx (vVar 4) (vE (qC (.int 0)))) (aCons (qOp oIx (vVar 4) (vE (qC (.int 1)))) aNil)))) (vE (qC .non)))
def p_is_plan (A : Ad) : TSQ :=
    (sSeq (sIf (qNot (qB (qCall (f_are_blocks A) 2 (aCons (qVar 1) (aCons (qMeth A.Cluster "size" (f_Cluster_size A) 0 (qVar 0) aNil) aNil))))) (sRet (qC (.bl false))) sNext)
    (sRet (qCB bAll (vCons (vE (qLc2 (iqSeq (qVar 1)) (gqTup 2 (gqCons (gqName 2) (gqCons (gqName 3) gqNil))) qYes (iqSeq (qVar 3)) (gqName 4) qYes (p_is_plan_e0 A) [2, 3, 4] [4])) vNil))))
def f_is_plan (A : Ad) : PF := runF (p_is_plan A) 3

def p_leads_to (A : Ad) : TSQ :=
    (sSeq (sIf (qNot (qB (qCall (f_is_plan A) 2 (aCons (qVar 0) (aCons (qVar 3) aNil))))) (sRet (qC (.bl false))) sNext)
    (sTryO .stopped [.stopped] (fun X1 => (sRet (qOp (oEq false) (vE (qCallX (f_play A) 3 (aCons (qVar 0) (aCons (qVar 1) (aCons (qVar 3) aNil))) X1)) (vVar 2)))) (fun a1 x1 => (sRet (qC (.bl false)))) noXQ))
def f_leads_to (A : Ad) : PF := runF (p_leads_to A) 0

end R

/-! ## L19: plans are plans; leads_to -/
namespace R
open PySem PySem.Spec PyProof.Rows L2 G
theorem all_yes {α : Type} (l : List α) : (l.all fun _ => true) = true := List.all_eq_true.mpr fun _ _ => rfl
/-- a plan of a cluster -/
structure PlanOk (bs : List Bun) (n : Nat) (bl : List Blk) : Prop where
  cn : bl.length ≤ 400
  tn : ∀ b ∈ bl, 1 ≤ b.1 ∧ b.1 ≤ 1000000000000000000
  rn : ∀ b ∈ bl, RunsIn bs n b.2
  ln : ∀ b ∈ bl, 1 ≤ b.2.length ∧ b.2.length ≤ 1000
  sm : (bl.map fun b : Blk => b.2.length).sum ≤ 4000
section
variable {A : Ad} {bs : List Bun} {cs : List Bnd} {ms : List Int} {rs : List Run}
theorem f_is_run_yes {r : Run} {n : Nat} {Q : D → Prop} (o : RunOk bs n r) (t0 : 1 ≤ r.2.2) (t1 : r.2.2 ≤ 1000000000000000000) : f_is_run A [bunW r, .v (.int (n : Int))] Q = Q (.bl true) := by
  have a0 := o.a0
  have a1 := o.a1
  have b0 := o.b0
  have b1 := o.b1
  have e1 : (decide (1 ≤ r.2.2) && decide (r.2.2 ≤ 1000000000000000000)) = true := by simp [t0, t1]
  have e2 : (decide (0 ≤ r.1) && decide (r.1 ≤ (n : Int) - 1)) = true := by simp [a0]; omega
  have e3 : (decide (0 ≤ r.2.1) && decide (r.2.1 ≤ (n : Int) - 1)) = true := by simp [b0]; omega
  have ne := o.ne
  simp [f_is_run, p_is_run, bunW, isA, at3_0, at3_1, at3_2, f_is_count_eq, f_is_broker_eq, betwW, e1, e2, e3, ne]
theorem f_is_block_yes {b : Blk} {n : Nat} {Q : D → Prop} (t0 : 1 ≤ b.1) (t1 : b.1 ≤ 1000000000000000000) (hr : RunsIn bs n b.2) (l0 : 1 ≤ b.2.length) (l1 : b.2.length ≤ 1000) : f_is_block A [blkW b, .v (.int (n : Int))] Q = Q (.bl true) := by
  have e1 : (decide (1 ≤ b.1) && decide (b.1 ≤ 1000000000000000000)) = true := by simp [t0, t1]
  have l2 : b.2.length ≤ 100000 := by omega
  have l3 : ¬ ((b.2.length : Int) < 1) := by omega
  have l4 : (1 : Int) ≤ (b.2.length : Int) := by omega
  have l5 : (b.2.length : Int) ≤ 1000 := by omega
  have lc : ∀ k ρ x0 x1, ρ = [x0, .sh (.v (.int (n : Int))), x1] → x1 = .un → qLcL (gqName 2) qYes (p_is_block_e0 A) [2] k (b.2.map bunW) ρ [] = k ρ (b.2.map fun _ => W.v (.bl true)) := fun k ρ x0 x1 e e1 => by
    subst e e1
    rw [lcL_map bunW (fun r : Run => W.v (.bl true)) fun r hm acc ws' => ?_, List.nil_append]
    have t := hr.tm r hm
    have fr : ∀ Q, f_is_run A [bunW r, .v (.int (n : Int))] Q = Q (.bl true) := fun Q => f_is_run_yes (hr.ok r hm) t.1 t.2
    simp [p_is_block_e0, fr]
  simp [f_is_block, p_is_block, blkW, isA, at2_0, at2_1, f_is_count_eq, betwW, e1, l2, l4, l5]
  rw [lc _ _ _ _ rfl rfl]
  simp [all_yes]
theorem f_are_blocks_yes {bl : List Blk} {n : Nat} {Q : D → Prop} (h : PlanOk bs n bl) : f_are_blocks A [.lst (bl.map blkW), .v (.int (n : Int))] Q = Q (.bl true) := by
  have h1 := h.cn
  have l2 : bl.length ≤ 100000 := by omega
  have l3 : ¬ (400 < (bl.length : Int)) := by omega
  have lc : ∀ k ρ, ρ = [.sh (.lst (bl.map blkW)), .sh (.v (.int (n : Int))), .un, .un, .un] → qLcL (gqName 4) qYes (p_are_blocks_e0 A) [4] k (bl.map blkW) ρ [] = k ρ (bl.map fun _ => W.v (.bl true)) := fun k ρ e => by
    subst e
    rw [lcL_map blkW (fun b : Blk => W.v (.bl true)) fun b hm acc ws' => ?_, List.nil_append]
    have t := h.tn b hm
    have l := h.ln b hm
    have fr : ∀ Q, f_is_block A [blkW b, .v (.int (n : Int))] Q = Q (.bl true) := fun Q => f_is_block_yes t.1 t.2 (h.rn b hm) l.1 l.2
    simp [p_are_blocks_e0, fr]
  have lc2 : ∀ k ρ, ρ = [.sh (.lst (bl.map blkW)), .sh (.v (.int (n : Int))), .un, .un, .un] → qLcL (gqTup 2 (gqCons (gqName 2) (gqCons (gqName 3) gqNil))) qYes (p_are_blocks_e1 A) [2, 3] k (bl.map blkW) ρ [] = k ρ (bl.map fun b : Blk => W.v (.int (b.2.length : Int))) := fun k ρ e => by
    subst e
    rw [lcL_map blkW (fun b : Blk => W.v (.int (b.2.length : Int))) fun b hm acc ws' => ?_, List.nil_append]
    simp [p_are_blocks_e1, blkW]
  have sm : (bl.map fun b : Blk => (b.2.length : Int)).sum ≤ 4000 := by
    have key : ∀ l : List Blk, (l.map fun b : Blk => (b.2.length : Int)).sum = (((l.map fun b : Blk => b.2.length).sum : Nat) : Int) := fun l => by
      induction l with
      | nil => rfl
      | cons b l ih => rw [List.map_cons, List.sum_cons, ih, List.map_cons, List.sum_cons]; omega
    rw [key]
    have := h.sm
    omega
  simp [f_are_blocks, p_are_blocks, isA, l2, l3]
  rw [lc _ _ rfl]
  simp [l2, all_yes]
  rw [lc2 _ _ rfl]
  simp [sm]
theorem lcB_map {α : Type} {g : TGQ} {tt : TTQ} {te : TQ} {vs : List Nat} {k : List D → List W → Prop} {ρ : List D} (enc f : α → W) : ∀ {xs : List α} {acc : List W}, acc.length + xs.length ≤ 100000 → (∀ x ∈ xs, ∀ acc ws', acc.length < 100000 → qLcB g tt te vs k (enc x :: ws') ρ acc = qLcB g tt te vs k ws' ρ (acc ++ [f x])) → qLcB g tt te vs k (xs.map enc) ρ acc = k ρ (acc ++ xs.map f)
  | [], acc, _, _ => by simp
  | x :: xs, acc, hl, h => by
    rw [List.length_cons] at hl
    rw [List.map_cons, h x List.mem_cons_self _ _ (by omega), lcB_map enc f (by rw [List.length_append, List.length_singleton]; omega) (fun y hy => h y (List.mem_cons_of_mem _ hy))]
    simp
theorem lc2_go {k : List D → List W → Prop} {x1 : D} : ∀ {bl : List Blk} {acc : List W}, (∀ b ∈ bl, ∀ r ∈ b.2, ∃ n, RunOk bs n r) → acc.length + (bl.map fun b : Blk => b.2.length).sum ≤ 100000 → qLc2L (gqTup 2 (gqCons (gqName 2) (gqCons (gqName 3) gqNil))) qYes (iqSeq (qVar 3)) (gqName 4) qYes (p_is_plan_e0 A) [2, 3, 4] [4] k (bl.map blkW) [.sh (clW A bs cs), x1, .un, .un, .un] acc = k [.sh (clW A bs cs), x1, .un, .un, .un] (acc ++ (bl.map fun b : Blk => b.2.map fun _ => W.v (.bl true)).flatten)
  | [], acc, _, _ => by simp
  | (t, rs) :: bl, acc, h, hl => by
    rw [List.map_cons, List.sum_cons] at hl
    have hl : acc.length + (rs.length + (bl.map fun b : Blk => b.2.length).sum) ≤ 100000 := hl
    simp [blkW]
    rw [lcB_map bunW (fun r : Run => W.v (.bl true)) (by omega) fun r hm acc ws' ha => ?_]
    · simp
      rw [lc2_go (bl := bl) (fun b hb => h b (List.mem_cons_of_mem _ hb)) (by rw [List.length_append, List.length_map]; omega)]
      simp
    · obtain ⟨n, o⟩ := h _ List.mem_cons_self r hm
      have fb : ∀ Q, f_Cluster_bundle_of A [clW A bs cs, .v (.int r.1), .v (.int r.2.1)] Q = Q (.int (rIdx bs r : Int)) := fun Q => by
        rw [f_bundle_of_eq, rIdx_of o]
        rfl
      have ic : ∀ q, isIns A.Cluster (clW A bs cs) q = q := fun q => by simp [clW]
      simp [p_is_plan_e0, bunW, at3_0, at3_1, fb, ic, ha]
theorem f_is_plan_yes {bl : List Blk} {Q : D → Prop} (h : PlanOk bs cs.length bl) : f_is_plan A [clW A bs cs, .lst (bl.map blkW)] Q = Q (.bl true) := by
  have fs : ∀ Q, f_Cluster_size A [clW A bs cs] Q = Q (.int (cs.length : Int)) := fun Q => f_size_eq
  have fa : ∀ Q, f_are_blocks A [.lst (bl.map blkW), .v (.int (cs.length : Int))] Q = Q (.bl true) := fun Q => f_are_blocks_yes h
  have hs := h.sm
  simp [f_is_plan, p_is_plan, fs, fa]
  rw [lc2_go (fun b hb r hr => ⟨_, (h.rn b hb).ok r hr⟩) (by rw [List.length_nil]; omega)]
  have ef : (bl.map fun b : Blk => b.2.map fun _ => W.v (.bl true)).flatten = (bl.map fun b : Blk => b.2).flatten.map fun _ => W.v (.bl true) := by rw [List.map_flatten, List.map_map]; rfl
  rw [ef]
  generalize (bl.map fun b : Blk => b.2).flatten = l
  simp [all_yes]
theorem PlanOk.blk {bl : List Blk} (h : PlanOk bs cs.length bl) : ∀ b ∈ bl, BlkOk bs cs.length b := fun b hb => by
  have h1 := h.ln b hb
  have h2 := h.tn b hb
  exact blk_ok (h.rn b hb) (by omega) (by omega) (by omega)
/-- whether a play ends there -/
def endsB (goal : List Int) : Sum (Nat × Int × Nat) (List Int) → Bool
  | .inl _ => false
  | .inr ms => decide (ms = goal)
theorem f_leads_to_eq {bl : List Blk} {goal : List Int} {Q : D → Prop} (ok : ClOk bs cs) (h : PlanOk bs cs.length bl) (hl : ms.length = bs.length) : f_leads_to A [clW A bs cs, .tup (iW ms), .tup (iW goal), .lst (bl.map blkW)] Q = Q (.bl (endsB goal (playQ bs cs ms 0 bl))) := by
  have hlen := ok.len
  have fi : ∀ Q, f_is_plan A [clW A bs cs, .lst (bl.map blkW)] Q = Q (.bl true) := fun Q => f_is_plan_yes h
  have fp : ∀ Q X, f_play A [clW A bs cs, .tup (iW ms), .lst (bl.map blkW)] Q X = endP Q X (playQ bs cs ms 0 bl) := fun Q X => f_play_eq (by omega) (by omega) ok.each h.blk hl
  have okg := ok_intsT goal
  simp only [ok_tup] at okg
  cases e : playQ bs cs ms 0 bl with
  | inl q => simp [f_leads_to, p_leads_to, fi, fp, e, endP, Ek.sub, endsB]
  | inr ms' =>
    have okm := ok_intsT ms'
    simp only [ok_tup] at okm
    simp [f_leads_to, p_leads_to, fi, fp, e, endP, endsB, okg, okm, eqL_ints]
end
end R

namespace R
open PySem PySem.Spec PyProof.Rows L2 G
def p__law_told_2 (A : Ad) : TSQ :=
    (sTryAs .leadError [.leadError, .stopped] 3 (fun X1 => (sRet (qTup (aCons (qC (.str "told")) (aCons (qCallX (f_play A) 3 (aCons (qVar 0) (aCons (qVar 1) (aCons (qVar 2) aNil))) X1) aNil))))) (fun a1 x1 => (sRet (qIf (qB (qXis [.leadError, .stopped] a1 x1 .stopped (qVar 3))) (qTup (aCons (qC (.str "stopped")) (aCons (qXf [.leadError, .stopped] a1 x1 "block" (qVar 3)) (aCons (qXf [.leadError, .stopped] a1 x1 "turn" (qVar 3)) (aCons (qXf [.leadError, .stopped] a1 x1 "run" (qVar 3)) aNil))))) (qTup (aCons (qC (.str "other")) aNil))))) noXQ)
def f__law_told_2 (A : Ad) : PF := runF (p__law_told_2 A) 1

def p__law_case_c0 (A : Ad) : TSQ :=
    (sSeq (sIf (qB (qOp (oEq false) (vVar 3) (vE (qC (.int 0))))) (sSeq (sAsg (qCB bMin (vCons (vVar 1) (vCons (vE (qOp oPlus (vE (qOp oTimes (vVar 4) (vVar 2))) (vVar 5))) vNil))) (gqName 8))
    (sSeq (sAsg (qOp oTimes (vE (qOp oTimes (vE (qC (.int 2))) (vVar 6))) (vE (qCB bInt (vCons (vE (qOp (oI0 fun i j => .bl (decide (j < i))) (vVar 8) (vE (qOp oTimes (vVar 4) (vVar 2))))) vNil)))) (gqName 9))
    (sRet (qTup (aCons (qLst (aCons (qTup (aCons (qC (.int 0)) (aCons (qVar 1) aNil))) (aCons (qTup (aCons (qC (.int 0)) (aCons (qVar 1) aNil))) aNil))) (aCons (qLst (aCons (qTup (aCons (qC (.int 0)) (aCons (qC (.int 1)) (aCons (qVar 1) aNil)))) aNil)) (aCons (qTup (aCons (qVar 8) aNil)) (aCons (qVar 7) (aCons (qTup (aCons (qVar 4) (aCons (qVar 9) aNil))) aNil))))))))) sNext)
    (sSeq (sIf (qB (qOp (oEq false) (vVar 3) (vE (qC (.int 1))))) (sRet (qTup (aCons (qLst (aCons (qTup (aCons (qOp (oI0 fun i j => .int (i - j)) (vVar 1) (vE (qOp oTimes (vVar 4) (vVar 2)))) (aCons (qVar 1) aNil))) (aCons (qTup (aCons (qC (.int 0)) (aCons (qVar 1) aNil))) aNil))) (aCons (qLst (aCons (qTup (aCons (qC (.int 0)) (aCons (qC (.int 1)) (aCons (qVar 1) aNil)))) aNil)) (aCons (qTup (aCons (qVar 1) aNil)) (aCons (qVar 7) (aCons (qTup (aCons (qVar 4) (aCons (qC (.int 0)) aNil))) aNil))))))) sNext)
    (sSeq (sIf (qB (qOp (oEq false) (vVar 3) (vE (qC (.int 2))))) (sRet (qTup (aCons (qLst (aCons (qTup (aCons (qC (.int 0)) (aCons (qVar 1) aNil))) (aCons (qTup (aCons (qC (.int 0)) (aCons (qOp oTimes (vVar 4) (vVar 2)) aNil))) aNil))) (aCons (qLst (aCons (qTup (aCons (qC (.int 0)) (aCons (qC (.int 1)) (aCons (qVar 1) aNil)))) aNil)) (aCons (qTup (aCons (qVar 1) aNil)) (aCons (qVar 7) (aCons (qTup (aCons (qVar 4) (aCons (qC (.int 0)) aNil))) aNil))))))) sNext)
    (sSeq (sAsg (qOp (oI (fun _ j => 0 < j) fun i j => .int (i % j)) (vVar 4) (vE (qOp (oI CDivW fun i j => .int (i / j)) (vVar 1) (vVar 2)))) (gqName 4))
    (sSeq (sAsg (qLst (aCons (qTup (aCons (qC (.int 0)) (aCons (qVar 1) aNil))) (aCons (qTup (aCons (qVar 1) (aCons (qOp oPlus (vVar 1) (vVar 2)) aNil))) (aCons (qTup (aCons (qC (.int 0)) (aCons (qOp oTimes (vVar 4) (vVar 2)) aNil))) aNil)))) (gqName 10))
    (sRet (qTup (aCons (qVar 10) (aCons (qLst (aCons (qTup (aCons (qC (.int 0)) (aCons (qC (.int 1)) (aCons (qVar 1) aNil)))) (aCons (qTup (aCons (qC (.int 1)) (aCons (qC (.int 2)) (aCons (qVar 1) aNil)))) aNil))) (aCons (qTup (aCons (qVar 1) (aCons (qVar 1) aNil))) (aCons (qLst (aCons (qTup (aCons (qC (.int 0)) (aCons (qC (.int 1)) (aCons (qVar 2) aNil)))) (aCons (qTup (aCons (qC (.int 1)) (aCons (qC (.int 2)) (aCons (qVar 2) aNil)))) aNil))) (aCons (qTup (aCons (qVar 4) (aCons (qC (.int 1)) aNil))) aNil))))))))))))
def p__law_case_c1 (A : Ad) : TSQ :=
    (sSeq (sAsg (qOp oPlus (vE (qOp oTimes (vE (qLst (aCons (qTup (aCons (qC (.int 0)) (aCons (qC (.int 1)) (aCons (qC (.int 1)) aNil)))) (aCons (qTup (aCons (qC (.int 1)) (aCons (qC (.int 0)) (aCons (qC (.int 1)) aNil)))) aNil)))) (vVar 6))) (vE (qLst (aCons (qTup (aCons (qC (.int 0)) (aCons (qC (.int 1)) (aCons (qVar 2) aNil)))) aNil)))) (gqName 7))
    (p__law_case_c0 A))
def p__law_case_c2 (A : Ad) : TSQ :=
    (sSeq (sPar 5 6 (qCall f_take 2 (aCons (qVar 0) (aCons (qVar 2) aNil))) (qOp oTimes (vE (qCall f_take 2 (aCons (qVar 0) (aCons (qC (.int 500)) aNil)))) (vE (qCB bInt (vCons (vE (qOp (oEq false) (vE (qCall f_take 2 (aCons (qVar 0) (aCons (qC (.int 5)) aNil)))) (vE (qC (.int 0))))) vNil)))))
    (p__law_case_c1 A))
def p__law_case_c3 (A : Ad) : TSQ :=
    (sSeq (sAsg (qCall f_take 2 (aCons (qVar 0) (aCons (qOp oPlus (vE (qOp (oI CDivW fun i j => .int (i / j)) (vVar 1) (vVar 2))) (vE (qC (.int 1)))) aNil))) (gqName 4))
    (p__law_case_c2 A))
def p__law_case_c4 (A : Ad) : TSQ :=
    (sSeq (sPar 2 3 (qOp oPlus (vE (qC (.int 1))) (vE (qCall f_take 2 (aCons (qVar 0) (aCons (qOp oIx (vE (qLst (aCons (qC (.int 3)) (aCons (qC (.int 1000)) aNil)))) (vE (qCall f_take 2 (aCons (qVar 0) (aCons (qC (.int 2)) aNil))))) aNil))))) (qCall f_take 2 (aCons (qVar 0) (aCons (qC (.int 4)) aNil))))
    (p__law_case_c3 A))
def p__law_case (A : Ad) : TSQ :=
    (sSeq (sAsg (qOp (oI0 fun i j => .int (i - j)) (vE (qOp (oI0 fun i j => .int (i - j)) (vE (qOp oIx (vE (qLst (aCons (qOp (oI CPow fun i j => .int (i ^ j.toNat)) (vE (qC (.int 10))) (vE (qC (.int 9)))) (aCons (qOp (oI CPow fun i j => .int (i ^ j.toNat)) (vE (qC (.int 10))) (vE (qC (.int 12)))) (aCons (qOp (oI CPow fun i j => .int (i ^ j.toNat)) (vE (qC (.int 10))) (vE (qC (.int 15)))) (aCons (qOp (oI CPow fun i j => .int (i ^ j.toNat)) (vE (qC (.int 10))) (vE (qC (.int 18)))) aNil)))))) (vE (qCall f_take 2 (aCons (qVar 0) (aCons (qC (.int 4)) aNil)))))) (vE (qC (.int 5))))) (vE (qCall f_take 2 (aCons (qVar 0) (aCons (qC (.int 5)) aNil))))) (gqName 1))
    (p__law_case_c4 A))
def f__law_case (A : Ad) : PF := runF (p__law_case A) 10

def p_law_k24_g0 (A : Ad) : TGQ :=
    (gqName 12)
def p_law_k24_b0 (A : Ad) : TSQ :=
    (sIf (qB (qOp (oIsB true) (vE (qCall (f_leads_to A) 4 (aCons (qVar 8) (aCons (qVar 5) (aCons (qVar 12) (aCons (qLst (aCons (qTup (aCons (qOp oPlus (vVar 9) (vE (qC (.int 1)))) (aCons (qVar 6) aNil))) aNil)) aNil)))))) (vE (qC (.bl false))))) (sRet (qC (.bl false))) sNext)
def p_law_k24_c0 (A : Ad) : TSQ :=
    (sSeq (sAsg (qLst (aCons (qTup (aCons (qC (.int 1)) (aCons (qLst (aCons (qTup (aCons (qC (.int 0)) (aCons (qC (.int 1)) (aCons (qC (.int 1)) aNil)))) (aCons (qTup (aCons (qC (.int 1)) (aCons (qC (.int 0)) (aCons (qC (.int 1)) aNil)))) aNil))) aNil))) aNil)) (gqName 13))
    (sSeq (sAsg (qOp oPlus (vVar 13) (vE (qLst (aCons (qTup (aCons (qOp oPlus (vVar 9) (vE (qC (.int 1)))) (aCons (qVar 6) aNil))) aNil)))) (gqName 14))
    (sSeq (sAsg (qCall (f__law_told_2 A) 3 (aCons (qVar 8) (aCons (qVar 5) (aCons (qVar 14) aNil)))) (gqName 15))
    (sSeq (sIf (qAnd (qB (qOp (oI0 fun i j => .bl (decide (j < i))) (vVar 9) (vE (qC (.int 0))))) (qNot (qB (qCB (bF 2 (f__law_alike A)) (vCons (vVar 15) (vCons (vE (qTup (aCons (qC (.str "stopped")) (aCons (qC (.int 1)) (aCons (qVar 9) (aCons (qVar 10) aNil)))))) vNil)))))) (sRet (qC (.bl false))) sNext)
    (sIf (qNot (qB (qCB (bF 2 (f__law_alike A)) (vCons (vE (qCall (f_most_turns A) 3 (aCons (qVar 8) (aCons (qVar 5) (aCons (qVar 6) aNil))))) (vCons (vVar 9) vNil))))) (sRet (qC (.bl false))) sNext)))))
def p_law_k24_c1 (A : Ad) : TSQ :=
    (sSeq (sAsg (qIf (qB (qOp (oI0 fun i j => .bl (decide (j < i))) (vVar 9) (vE (qC (.int 0))))) (qOp oIx (vE (qCall (f__law_told_2 A) 3 (aCons (qVar 8) (aCons (qVar 5) (aCons (qLst (aCons (qTup (aCons (qVar 9) (aCons (qVar 6) aNil))) aNil)) aNil))))) (vE (qUn (oU fun i => .int (-i)) (vE (qC (.int 1)))))) (qVar 5)) (gqName 11))
    (sSeq (sFor (iqSeq (qTup (aCons (qVar 5) (aCons (qVar 11) aNil)))) (p_law_k24_g0 A) (p_law_k24_b0 A))
    (sSeq (sIf (qAnd (qB (qOp (oI0 fun i j => .bl (decide (j < i))) (vVar 9) (vE (qC (.int 0))))) (qB (qOp (oIsB true) (vE (qCall (f_leads_to A) 4 (aCons (qVar 8) (aCons (qVar 5) (aCons (qVar 11) (aCons (qLst (aCons (qTup (aCons (qVar 9) (aCons (qVar 6) aNil))) aNil)) aNil)))))) (vE (qC (.bl true)))))) (sRet (qC (.bl false))) sNext)
    (p_law_k24_c0 A))))
def p_law_k24_c2 (A : Ad) : TSQ :=
    (sSeq (sIf (qAnd (qB (qOp (oI0 fun i j => .bl (decide (j < i))) (vVar 9) (vE (qC (.int 0))))) (qB (qOp (oEq true) (vE (qOp oIx (vE (qCall (f__law_told_2 A) 3 (aCons (qVar 8) (aCons (qVar 5) (aCons (qLst (aCons (qTup (aCons (qVar 9) (aCons (qVar 6) aNil))) aNil)) aNil))))) (vE (qC (.int 0))))) (vE (qC (.str "told")))))) (sRet (qC (.bl false))) sNext)
    (p_law_k24_c1 A))
def p_law_k24_c3 (A : Ad) : TSQ :=
    (sSeq (sIf (qNot (qB (qCB (bF 2 (f__law_alike A)) (vCons (vE (qCall (f__law_told_2 A) 3 (aCons (qVar 8) (aCons (qVar 5) (aCons (qLst (aCons (qTup (aCons (qOp (oI CPow fun i j => .int (i ^ j.toNat)) (vE (qC (.int 10))) (vE (qC (.int 18)))) (aCons (qVar 6) aNil))) aNil)) aNil))))) (vCons (vE (qTup (aCons (qC (.str "stopped")) (aCons (qC (.int 0)) (aCons (qVar 9) (aCons (qVar 10) aNil)))))) vNil))))) (sRet (qC (.bl false))) sNext)
    (sSeq (sIf (qNot (qB (qCB (bF 2 (f__law_alike A)) (vCons (vE (qCall (f__law_told_2 A) 3 (aCons (qVar 8) (aCons (qVar 5) (aCons (qLst (aCons (qTup (aCons (qOp oPlus (vVar 9) (vE (qC (.int 1)))) (aCons (qVar 6) aNil))) aNil)) aNil))))) (vCons (vE (qTup (aCons (qC (.str "stopped")) (aCons (qC (.int 0)) (aCons (qVar 9) (aCons (qVar 10) aNil)))))) vNil))))) (sRet (qC (.bl false))) sNext)
    (p_law_k24_c2 A)))
def p_law_k24_g1 (A : Ad) : TGQ :=
    (gqName 2)
def p_law_k24_b1 (A : Ad) : TSQ :=
    (sSeq (sAsg (qCall (f__law_case A) 1 (aCons (qVar 1) aNil)) (gqTup 5 (gqCons (gqName 3) (gqCons (gqName 4) (gqCons (gqName 5) (gqCons (gqName 6) (gqCons (gqName 7) gqNil)))))))
    (sSeq (sAsg (qMake A.Cluster (f_Clusteru_initu A) (aCons (qVar 3) (aCons (qVar 4) aNil))) (gqName 8))
    (sSeq (sAsg (qVar 7) (gqTup 2 (gqCons (gqName 9) (gqCons (gqName 10) gqNil))))
    (p_law_k24_c3 A))))
def p_law_k24 (A : Ad) : TSQ :=
    (sSeq (sFor (iqRng1 (vCons (vE (qC (.int 5))) vNil)) (p_law_k24_g1 A) (p_law_k24_b1 A))
    (sRet (qC (.bl true))))

end R

/-! ## M24: law_k24, what it asks of a case -/
namespace R
open PySem PySem.Spec PyProof.Rows L2 G
def toldW : Sum (Nat × Int × Nat) (List Int) → W
  | .inl q => .tup [.v (.str "stopped"), .v (.int (q.1 : Int)), .v (.int q.2.1), .v (.int (q.2.2 : Int))]
  | .inr ms => .tup [.v (.str "told"), .tup (iW ms)]
theorem sh_stopped : Sh 0 46 (.v (.str "stopped")) := ⟨by decide +kernel, by decide +kernel, Nat.le_refl _, by decide +kernel⟩
/-- a case: the cluster, leads and runs, and where they stop -/
structure Case (bs : List Bun) (cs : List Bnd) (ms : List Int) (rs : List Run) (T : Int) (R : Nat) : Prop where
  ok : ClOk bs cs
  v : VL bs cs ms
  hr : RunsIn bs cs.length rs
  l0 : 1 ≤ rs.length
  l1 : rs.length ≤ 1000
  st : fstop bs cs ms rs = some (T, R)
  t0 : 0 ≤ T
  t1 : T + 1 < 1000000000000000000
  fst : ∃ q, rs[0]? = some (0, 1, q)
section
variable {A : Ad} {bs : List Bun} {cs : List Bnd} {ms : List Int} {rs : List Run} {T : Int} {R : Nat}
theorem f_told24_eq {bl : List Blk} {Q : D → Prop} (h1000 : bs.length ≤ 1000) (hc : cs.length ≤ 1000) (ho : ∀ t ∈ bs, BunOk (cs.length : Int) t) (hb : ∀ b ∈ bl, BlkOk bs cs.length b) (hl : ms.length = bs.length) : f__law_told_2 A [clW A bs cs, .tup (iW ms), .lst (bl.map blkW)] Q = Q (.sh (toldW (playQ bs cs ms 0 bl))) := by
  have fp : ∀ Q X, f_play A [clW A bs cs, .tup (iW ms), .lst (bl.map blkW)] Q X = endP Q X (playQ bs cs ms 0 bl) := fun Q X => f_play_eq h1000 hc ho hb hl
  cases e : playQ bs cs ms 0 bl with
  | inl q => simp [f__law_told_2, p__law_told_2, fp, e, endP, Ek.sub, XW.fld, Ek.flds, toldW]
  | inr ms => simp [f__law_told_2, p__law_told_2, fp, e, endP, toldW]
theorem Case.rlt (h : Case bs cs ms rs T R) : R < rs.length := by
  have f := fstop_ok (cs := cs) h.ok.each h.v.1.1 h.hr.ok
  rw [h.st] at f
  exact f.2.1
theorem Case.stops (h : Case bs cs ms rs T R) {t : Int} (ht : T < t) {n : Nat} {bl : List Blk} : playQ bs cs ms n ((t, rs) :: bl) = .inl (n, T, R) := by
  rw [playQ]
  dsimp only
  rw [h.st]
  dsimp only
  rw [if_pos ht]
theorem Case.goes (h : Case bs cs ms rs T R) {n : Nat} {bl : List Blk} : playQ bs cs ms n ((T, rs) :: bl) = playQ bs cs (aftN bs ms rs T.toNat) (n + 1) bl := by
  rw [playQ]
  dsimp only
  rw [h.st]
  dsimp only
  rw [if_neg (by omega)]
theorem Case.ahead (h : Case bs cs ms rs T R) (h0 : 0 < T) : playQ bs cs ms 0 [(1, [(0, 1, 1), (1, 0, 1)]), (T + 1, rs)] = .inl (1, T, R) := by
  have hl := h.v.1.1
  obtain ⟨q, hq⟩ := h.fst
  have hm := List.mem_of_getElem? hq
  have o := h.hr.ok _ hm
  have tm := h.hr.tm _ hm
  have tm : 1 ≤ q := tm.1
  have f := fstop_ok (cs := cs) h.ok.each hl h.hr.ok
  rw [h.st] at f
  have f1 : runB bs cs ms (0, 1, q) = true := f.2.2.2 0 0 (.inl h0) _ hq
  rw [runB_room] at f1
  have f1 : q ≤ roomQ bs cs ms 0 1 := of_decide_eq_true f1
  have o1 : RunOk bs cs.length (0, 1, 1) := ⟨o.a0, o.a1, o.b0, o.b1, o.ne, o.ex⟩
  have o2 : RunOk bs cs.length (1, 0, 1) := ⟨o.b0, o.b1, o.a0, o.a1, o.ne.symm, by
    obtain ⟨k, hk⟩ := o.ex
    exact ⟨k, by show idx bs (min 1 0) (max 1 0) = _; rw [Int.min_comm, Int.max_comm]; exact hk⟩⟩
  have g1 : legalB bs cs ms 0 1 = true := by rw [legal_room]; exact decide_eq_true (by omega)
  have g2 : legalB bs cs (mvR bs ms (0, 1, 1)) 1 0 = true := legal_back hl h.v h.ok.each o1.ne o1.a0 o1.a1 o1.b0 o1.b1 (rIdx_of o1) fun t ht => ⟨(h.ok.each t ht).p1, (h.ok.each t ht).pm⟩
  rw [legal_room] at g1 g2
  have b1 : runB bs cs ms (0, 1, 1) = true := by rw [runB_room]; exact g1
  have b2 : runB bs cs (mvR bs ms (0, 1, 1)) (1, 0, 1) = true := by rw [runB_room]; exact g2
  have bk : aft bs ms [(0, 1, 1), (1, 0, 1)] = ms := by
    show mvR bs (mvR bs ms (0, 1, 1)) (1, 0, 1) = ms
    have e : rIdx bs (1, 0, 1) = rIdx bs (0, 1, 1) := by
      unfold rIdx
      show (idx bs (min 1 0) (max 1 0)).getD 0 = (idx bs (min 0 1) (max 0 1)).getD 0
      rw [Int.min_comm, Int.max_comm]
    unfold mvR
    rw [e]
    have := moved_back (q := 1) hl (rIdx_of o1)
    exact this.trans (if_neg (by decide))
  have tb : turnB bs cs ms [(0, 1, 1), (1, 0, 1)] = true := by rw [turnB, turnB, turnB, b1, b2]; rfl
  have hr2 : ∀ r ∈ [((0 : Int), (1 : Int), (1 : Int)), (1, 0, 1)], RunOk bs cs.length r := fun r hr => by
    simp only [List.mem_cons, List.not_mem_nil, or_false] at hr
    rcases hr with rfl | rfl
    · exact o1
    · exact o2
  have ot : OkTo bs cs ms [(0, 1, 1), (1, 0, 1)] (1 : Int).toNat := fun k j hk => by
    have : k = 0 := by have : (1 : Int).toNat = 1 := rfl; omega
    subst this
    exact turnB_at (t := 0).mp tb j
  rw [play_on h.ok hr2 hl ot]
  have : aftN bs ms [(0, 1, 1), (1, 0, 1)] (1 : Int).toNat = ms := bk
  rw [this]
  exact h.stops (by omega)
theorem k24_c0 (h : Case bs cs ms rs T R) {P : List D → Prop} {E : EQ} {x0 x2 x3 x4 x7 x8 x11 x12 x13 x14 x15 : D} (h8 : isCl A bs cs x8)
    (k : ∀ a b c d e f g h i j k l m, P [x0, .sh .bag, x2, a, b, c, d, e, f, g, h, i, j, k, l, m]) :
    p_law_k24_c0 A { nx := P, ct := P, bk := E.nx, rt := E.rt } [x0, .sh .bag, x2, x3, x4, .sh (.tup (iW ms)), .sh (.lst (rs.map bunW)), x7, x8, .int T, .int (R : Int), x11, x12, x13, x14, x15] := by
  have ok := h.ok
  have hlen := ok.len
  have hl := h.v.1.1
  have t0 := h.t0
  have t1 := h.t1
  have rl := h.rlt
  have l1 := h.l1
  have o12 : BlkOk bs cs.length (1, [(0, 1, 1), (1, 0, 1)]) := by
    obtain ⟨q, hq⟩ := h.fst
    have o := h.hr.ok _ (List.mem_of_getElem? hq)
    refine blk_ok ⟨fun r hr => ?_, fun r hr => ?_⟩ (by decide) (by decide) (by decide)
    · simp only [List.mem_cons, List.not_mem_nil, or_false] at hr
      rcases hr with rfl | rfl
      · exact ⟨o.a0, o.a1, o.b0, o.b1, o.ne, o.ex⟩
      · exact ⟨o.b0, o.b1, o.a0, o.a1, o.ne.symm, by
          obtain ⟨k, hk⟩ := o.ex
          exact ⟨k, by show idx bs (min 1 0) (max 1 0) = _; rw [Int.min_comm, Int.max_comm]; exact hk⟩⟩
    · simp only [List.mem_cons, List.not_mem_nil, or_false] at hr
      rcases hr with rfl | rfl <;> decide
  have fa : ∀ Q, f__law_told_2 A [clW A bs cs, .tup (iW ms), .lst [.tup [.v (.int 1), .lst [.tup [.v (.int 0), .v (.int 1), .v (.int 1)], .tup [.v (.int 1), .v (.int 0), .v (.int 1)]]], .tup [.v (.int (T + 1)), .lst (rs.map bunW)]]] Q = Q (.sh (toldW (playQ bs cs ms 0 [(1, [(0, 1, 1), (1, 0, 1)]), (T + 1, rs)]))) := fun Q => f_told24_eq (bl := [(1, [(0, 1, 1), (1, 0, 1)]), (T + 1, rs)]) (by omega) (by omega) ok.each (fun b hb => by
      simp only [List.mem_cons, List.not_mem_nil, or_false] at hb
      rcases hb with rfl | rfl
      · exact o12
      · exact blk_ok h.hr (by omega) (by omega) (by omega)) hl
  have fm : ∀ Q, f_most_turns A [clW A bs cs, .tup (iW ms), .lst (rs.map bunW)] Q = Q (.int T) := fun Q => by
    rw [f_most_eq (by omega) (by omega) ok.each hl (h.hr.small (by omega)) h.hr.ok, h.st]
    rfl
  have s1 : shows (.v (.int T)) := (Sh.int (by omega)).shows (by decide) (by decide)
  have s2 : shows (.tup [.v (.str "stopped"), .v (.int 1), .v (.int T), .v (.int (R : Int))]) := (Sh.tup (n := 0) (B := 46) (m := 4) (fun w hw => by
    simp only [List.mem_cons, List.not_mem_nil, or_false] at hw
    rcases hw with rfl | rfl | rfl | rfl
    · exact sh_stopped
    · exact Sh.int (by decide)
    · exact Sh.int (by omega)
    · exact Sh.int (by omega)) (by simp)).shows (by decide) (by decide)
  have fk : ∀ Q, f__law_alike A [.v (.int T), .v (.int T)] Q = Q (.bl true) := fun Q => f_alike_eq s1
  by_cases ht : 0 < T
  · have pa := h.ahead ht
    rw [pa] at fa
    have fk2 : ∀ Q, f__law_alike A [.tup [.v (.str "stopped"), .v (.int 1), .v (.int T), .v (.int (R : Int))], .tup [.v (.str "stopped"), .v (.int 1), .v (.int T), .v (.int (R : Int))]] Q = Q (.bl true) := fun Q => f_alike_eq s2
    rcases h8 with rfl | rfl
    all_goals
      simp [p_law_k24_c0, fa, fm, fk, ht, toldW, fk2, clW_fold']
      exact k _ _ _ _ _ _ _ _ _ _ _ _ _
  · rcases h8 with rfl | rfl
    all_goals
      simp [p_law_k24_c0, fa, fm, fk, ht, clW_fold']
      exact k _ _ _ _ _ _ _ _ _ _ _ _ _
theorem k24_c1 (h : Case bs cs ms rs T R) {P : List D → Prop} {E : EQ} {x0 x2 x3 x4 x7 x8 x11 x12 x13 x14 x15 : D} (h8 : isCl A bs cs x8)
    (k : ∀ a b c d e f g h i j k l m, P [x0, .sh .bag, x2, a, b, c, d, e, f, g, h, i, j, k, l, m]) :
    p_law_k24_c1 A { nx := P, ct := P, bk := E.nx, rt := E.rt } [x0, .sh .bag, x2, x3, x4, .sh (.tup (iW ms)), .sh (.lst (rs.map bunW)), x7, x8, .int T, .int (R : Int), x11, x12, x13, x14, x15] := by
  have ok := h.ok
  have hlen := ok.len
  have hl := h.v.1.1
  have t0 := h.t0
  have t1 := h.t1
  have l1 := h.l1
  have l0 := h.l0
  have po : ∀ t : Int, 1 ≤ t → t ≤ 1000000000000000000 → PlanOk bs cs.length [(t, rs)] := fun t a b => ⟨by show (1 : Nat) ≤ 400; decide, fun b hb => by rw [List.mem_singleton.mp hb]; exact ⟨a, ‹_›⟩, fun b hb => by rw [List.mem_singleton.mp hb]; exact h.hr, fun b hb => by rw [List.mem_singleton.mp hb]; exact ⟨l0, l1⟩, by simp; omega⟩
  have go := fun y11 y12 y8 (g8 : isCl A bs cs y8) => k24_c0 (A := A) (P := P) (E := E) (x0 := x0) (x2 := x2) (x3 := x3) (x4 := x4) (x7 := x7) (x8 := y8) (x11 := y11) (x12 := y12) (x13 := x13) (x14 := x14) (x15 := x15) h g8 k
  have lt : ∀ goal Q, f_leads_to A [clW A bs cs, .tup (iW ms), .tup (iW goal), .lst [.tup [.v (.int (T + 1)), .lst (rs.map bunW)]]] Q = Q (.bl false) := fun goal Q => by
    have := f_leads_to_eq (A := A) (Q := Q) (goal := goal) ok (po (T + 1) (by omega) (by omega)) hl
    rw [h.stops (by omega)] at this
    exact this
  by_cases ht : 0 < T
  · have fa : ∀ Q, f__law_told_2 A [clW A bs cs, .tup (iW ms), .lst [.tup [.v (.int T), .lst (rs.map bunW)]]] Q = Q (.sh (.tup [.v (.str "told"), .tup (iW (aftN bs ms rs T.toNat))])) := fun Q => by
      have := f_told24_eq (A := A) (Q := Q) (bl := [(T, rs)]) (by omega) (by omega) ok.each (fun b hb => by rw [List.mem_singleton.mp hb]; exact blk_ok h.hr (by omega) (by omega) (by omega)) hl
      rw [h.goes] at this
      exact this
    have lt2 : ∀ Q, f_leads_to A [clW A bs cs, .tup (iW ms), .tup (iW (aftN bs ms rs T.toNat)), .lst [.tup [.v (.int T), .lst (rs.map bunW)]]] Q = Q (.bl true) := fun Q => by
      have := f_leads_to_eq (A := A) (Q := Q) (goal := aftN bs ms rs T.toNat) ok (po T (by omega) (by omega)) hl
      rw [h.goes] at this
      refine Eq.trans this ?_
      show Q (.bl (decide (_ = _))) = _
      rw [decide_eq_true rfl]
    have a1 : ∀ a b : W, atI [a, b] (-1) = some b := fun a b => rfl
    rcases h8 with rfl | rfl
    all_goals
      simp [p_law_k24_c1, fa, lt, lt2, ht, a1, p_law_k24_g0, p_law_k24_b0, clW_fold']
      exact go _ _ _ (by first | exact .inl rfl | exact .inr rfl)
  · rcases h8 with rfl | rfl
    all_goals
      simp [p_law_k24_c1, lt, ht, p_law_k24_g0, p_law_k24_b0, clW_fold']
      exact go _ _ _ (by first | exact .inl rfl | exact .inr rfl)
theorem k24_c3 (h : Case bs cs ms rs T R) {P : List D → Prop} {E : EQ} {x0 x2 x3 x4 x7 x8 x11 x12 x13 x14 x15 : D} (h8 : isCl A bs cs x8)
    (k : ∀ a b c d e f g h i j k l m, P [x0, .sh .bag, x2, a, b, c, d, e, f, g, h, i, j, k, l, m]) :
    p_law_k24_c3 A { nx := P, ct := P, bk := E.nx, rt := E.rt } [x0, .sh .bag, x2, x3, x4, .sh (.tup (iW ms)), .sh (.lst (rs.map bunW)), x7, x8, .int T, .int (R : Int), x11, x12, x13, x14, x15] := by
  have ok := h.ok
  have hlen := ok.len
  have hl := h.v.1.1
  have t0 := h.t0
  have t1 := h.t1
  have l1 := h.l1
  have rl := h.rlt
  have fs : ∀ t : Int, T < t → t ≤ 1000000000000000000 → ∀ Q, f__law_told_2 A [clW A bs cs, .tup (iW ms), .lst [.tup [.v (.int t), .lst (rs.map bunW)]]] Q = Q (.sh (.tup [.v (.str "stopped"), .v (.int 0), .v (.int T), .v (.int (R : Int))])) := fun t a b Q => by
    have := f_told24_eq (A := A) (Q := Q) (bl := [(t, rs)]) (by omega) (by omega) ok.each (fun b hb => by rw [List.mem_singleton.mp hb]; exact blk_ok h.hr (by omega) (by omega) (by omega)) hl
    rw [h.stops a] at this
    exact this
  have f1 := fs 1000000000000000000 (by omega) (by decide)
  have f2 := fs (T + 1) (by omega) (by omega)
  have s2 : shows (.tup [.v (.str "stopped"), .v (.int 0), .v (.int T), .v (.int (R : Int))]) := (Sh.tup (n := 0) (B := 46) (m := 4) (fun w hw => by
    simp only [List.mem_cons, List.not_mem_nil, or_false] at hw
    rcases hw with rfl | rfl | rfl | rfl
    · exact sh_stopped
    · exact Sh.int (by decide)
    · exact Sh.int (by omega)
    · exact Sh.int (by omega)) (by simp)).shows (by decide) (by decide)
  have fk2 : ∀ Q, f__law_alike A [.tup [.v (.str "stopped"), .v (.int 0), .v (.int T), .v (.int (R : Int))], .tup [.v (.str "stopped"), .v (.int 0), .v (.int T), .v (.int (R : Int))]] Q = Q (.bl true) := fun Q => f_alike_eq s2
  have go := fun y8 (g8 : isCl A bs cs y8) => k24_c1 (A := A) (P := P) (E := E) (x0 := x0) (x2 := x2) (x3 := x3) (x4 := x4) (x7 := x7) (x8 := y8) (x11 := x11) (x12 := x12) (x13 := x13) (x14 := x14) (x15 := x15) h g8 k
  by_cases ht : 0 < T
  · have fa : ∀ Q, f__law_told_2 A [clW A bs cs, .tup (iW ms), .lst [.tup [.v (.int T), .lst (rs.map bunW)]]] Q = Q (.sh (.tup [.v (.str "told"), .tup (iW (aftN bs ms rs T.toNat))])) := fun Q => by
      have := f_told24_eq (A := A) (Q := Q) (bl := [(T, rs)]) (by omega) (by omega) ok.each (fun b hb => by rw [List.mem_singleton.mp hb]; exact blk_ok h.hr (by omega) (by omega) (by omega)) hl
      rw [h.goes] at this
      exact this
    rcases h8 with rfl | rfl
    all_goals
      simp [p_law_k24_c3, p_law_k24_c2, f1, f2, fk2, fa, ht, cpow18, at2_0, clW_fold', vOk]
      exact ⟨by decide +kernel, go _ (by first | exact .inl rfl | exact .inr rfl)⟩
  · rcases h8 with rfl | rfl
    all_goals
      simp [p_law_k24_c3, p_law_k24_c2, f1, f2, fk2, ht, cpow18, clW_fold']
      exact go _ (by first | exact .inl rfl | exact .inr rfl)
end
end R

/-! ## M24b: law_k24, the cases in plain numbers -/
namespace R
open PySem PySem.Spec PyProof.Rows L2 G
section
variable {bs : List Bun} {cs : List Bnd} {ms : List Int} {rs : List Run}
/-- a block stops where its first run that cannot be done is -/
theorem fstop_is (ho : ∀ t ∈ bs, BunOk (cs.length : Int) t) (hl : ms.length = bs.length) (hr : ∀ r ∈ rs, RunOk bs cs.length r) {T : Int} {R : Nat} (t0 : 0 ≤ T) (h1 : ∀ (t : Nat), (t : Int) < T → turnB bs cs (aftN bs ms rs t) rs = true) (h2 : ∀ j, j < R → OkAt bs cs ms rs T.toNat j) (h3 : ¬ OkAt bs cs ms rs T.toNat R) : fstop bs cs ms rs = some (T, R) := by
  have h := fstop_ok (cs := cs) ho hl hr
  cases e : fstop bs cs ms rs with
  | none => rw [e] at h; exact absurd (h _ _) h3
  | some q =>
    rw [e] at h
    obtain ⟨q0, q1, q2, q3⟩ := h
    have a1 : q.1 = T := by
      refine Int.le_antisymm (Int.not_lt.mp fun z => h3 (q3 _ _ (.inl (by omega)))) (Int.not_lt.mp fun z => q2 ((turnB_at.mp (h1 q.1.toNat (by omega))) _))
    have a2 : q.2 = R := by
      refine Nat.le_antisymm (Nat.le_of_not_lt fun z => h3 (q3 _ _ (.inr ⟨by omega, z⟩))) (Nat.le_of_not_lt fun z => q2 ?_)
      rw [a1]
      exact h2 _ z
    rw [← a1, ← a2]
end
/-! ### one bundle -/
section
variable {m a b c d L : Int}
theorem one_idx01 : idx [(0, 1, m)] (min 0 1) (max 0 1) = some 0 := rfl
theorem one_idx10 : idx [(0, 1, m)] (min 1 0) (max 1 0) = some 0 := rfl
theorem one_loads : loadsP 2 [L] [(0, 1, m)] = [0 + L, 0 + m - L] := rfl
theorem one_room01 : roomQ [(0, 1, m)] [(a, b), (c, d)] [L] 0 1 = min (min L (L - a)) (d - (m - L)) := by
  have e1 : ledQ [(0, 1, m)] [L] 0 1 = L := rfl
  have e2 : ldg 2 [(0, 1, m)] [L] 0 = 0 + L := rfl
  have e3 : ldg 2 [(0, 1, m)] [L] 1 = 0 + m - L := rfl
  show min (min (ledQ [(0, 1, m)] [L] 0 1) (ldg 2 [(0, 1, m)] [L] 0 - a)) (d - ldg 2 [(0, 1, m)] [L] 1) = _
  rw [e1, e2, e3]
  omega
theorem one_room10 : roomQ [(0, 1, m)] [(a, b), (c, d)] [L] 1 0 = min (min (m - L) (m - L - c)) (b - L) := by
  have e1 : ledQ [(0, 1, m)] [L] 1 0 = m - L := rfl
  have e2 : ldg 2 [(0, 1, m)] [L] 0 = 0 + L := rfl
  have e3 : ldg 2 [(0, 1, m)] [L] 1 = 0 + m - L := rfl
  show min (min (ledQ [(0, 1, m)] [L] 1 0) (ldg 2 [(0, 1, m)] [L] 1 - c)) (b - ldg 2 [(0, 1, m)] [L] 0) = _
  rw [e1, e2, e3]
  omega
theorem one_mv01 {q : Int} : mvR [(0, 1, m)] [L] (0, 1, q) = [L - q] := by
  have : mvR [(0, 1, m)] [L] (0, 1, q) = [L + -q] := rfl
  rw [this, Int.sub_eq_add_neg]
theorem one_mv10 {q : Int} : mvR [(0, 1, m)] [L] (1, 0, q) = [L + q] := rfl
/-- there and back n times, then on -/
def trip (n : Nat) : List Run := (List.replicate n [((0 : Int), (1 : Int), (1 : Int)), (1, 0, 1)]).flatten
theorem trip_succ (n : Nat) : trip (n + 1) = ((0 : Int), (1 : Int), (1 : Int)) :: (1, 0, 1) :: trip n := by unfold trip; rw [List.replicate_succ, List.flatten_cons]; rfl
theorem trip_len (n : Nat) : (trip n).length = 2 * n := by
  unfold trip
  simp
  omega
theorem trip_aft : ∀ n, aft [(0, 1, m)] [L] (trip n) = [L]
  | 0 => rfl
  | n + 1 => by
    rw [trip_succ]
    show aft _ (mvR _ (mvR _ _ _) _) _ = _
    rw [one_mv01, one_mv10, show L - 1 + 1 = L by omega, trip_aft n]
theorem trip_turn {tl : List Run} (h1 : 1 ≤ roomQ [(0, 1, m)] [(a, b), (c, d)] [L] 0 1) (h2 : 1 ≤ roomQ [(0, 1, m)] [(a, b), (c, d)] [L - 1] 1 0) : ∀ n, turnB [(0, 1, m)] [(a, b), (c, d)] [L] (trip n ++ tl) = turnB [(0, 1, m)] [(a, b), (c, d)] [L] tl
  | 0 => rfl
  | n + 1 => by
    rw [trip_succ, List.cons_append, List.cons_append, turnB, turnB, one_mv01, one_mv10, show L - 1 + 1 = L by omega, runB_room, runB_room]
    dsimp only
    rw [decide_eq_true h1, decide_eq_true h2, trip_turn h1 h2 n]
    rfl
def onR (n : Nat) (p : Int) : List Run := trip n ++ [(0, 1, p)]
theorem on_aft {n : Nat} {p : Int} : aft [(0, 1, m)] [L] (onR n p) = [L - p] := by
  unfold onR
  rw [aft_app, trip_aft]
  exact one_mv01
theorem on_aftN {n : Nat} {p : Int} : ∀ t : Nat, aftN [(0, 1, m)] [L] (onR n p) t = [L - (t : Int) * p]
  | 0 => by simp [aftN]
  | t + 1 => by
    rw [aftN, on_aftN t, on_aft]
    push_cast
    rw [Int.add_mul]
    congr 1
    omega
theorem on_turn {n : Nat} {p : Int} (h1 : 1 ≤ roomQ [(0, 1, m)] [(a, b), (c, d)] [L] 0 1) (h2 : 1 ≤ roomQ [(0, 1, m)] [(a, b), (c, d)] [L - 1] 1 0) (h3 : p ≤ roomQ [(0, 1, m)] [(a, b), (c, d)] [L] 0 1) : turnB [(0, 1, m)] [(a, b), (c, d)] [L] (onR n p) = true := by
  unfold onR
  rw [trip_turn h1 h2, turnB, turnB, runB_room, Bool.and_true]
  exact decide_eq_true h3
theorem one_run01 {q : Int} : RunOk [(0, 1, m)] 2 (0, 1, q) := ⟨by show (0 : Int) ≤ 0; decide, by show (0 : Int) < 2; decide, by show (0 : Int) ≤ 1; decide, by show (1 : Int) < 2; decide, by show (0 : Int) ≠ 1; decide, 0, rfl⟩
theorem one_run10 {q : Int} : RunOk [(0, 1, m)] 2 (1, 0, q) := ⟨by show (0 : Int) ≤ 1; decide, by show (1 : Int) < 2; decide, by show (0 : Int) ≤ 0; decide, by show (0 : Int) < 2; decide, by show (1 : Int) ≠ 0; decide, 0, rfl⟩
theorem on_in {n : Nat} {p : Int} (p0 : 1 ≤ p) (p1 : p ≤ 1000000000000000000) : RunsIn [(0, 1, m)] 2 (onR n p) := by
  have h : ∀ r ∈ onR n p, r = (0, 1, 1) ∨ r = (1, 0, 1) ∨ r = (0, 1, p) := fun r hr => by
    unfold onR trip at hr
    rcases List.mem_append.mp hr with hr | hr
    · obtain ⟨l, hl, hm⟩ := List.mem_flatten.mp hr
      rw [List.mem_replicate] at hl
      rw [hl.2] at hm
      have : r = (0, 1, 1) ∨ r = (1, 0, 1) := by simpa using hm
      rcases this with h | h
      · exact .inl h
      · exact .inr (.inl h)
    · exact .inr (.inr (List.mem_singleton.mp hr))
  refine ⟨fun r hr => ?_, fun r hr => ?_⟩
  · rcases h r hr with rfl | rfl | rfl
    · exact one_run01
    · exact one_run10
    · exact one_run01
  · rcases h r hr with rfl | rfl | rfl
    · exact ⟨by show (1 : Int) ≤ 1; decide, by show (1 : Int) ≤ 1000000000000000000; decide⟩
    · exact ⟨by show (1 : Int) ≤ 1; decide, by show (1 : Int) ≤ 1000000000000000000; decide⟩
    · exact ⟨p0, p1⟩
theorem on_len {n : Nat} {p : Int} : (onR n p).length = 2 * n + 1 := by
  unfold onR
  rw [List.length_append, trip_len]
  rfl
theorem on_fst {n : Nat} {p : Int} : ∃ q, (onR n p)[0]? = some (0, 1, q) ∧ (1 ≤ p → 1 ≤ q) := by
  unfold onR
  cases n with
  | zero => exact ⟨p, rfl, id⟩
  | succ n => exact ⟨1, by rw [trip_succ]; rfl, fun _ => by decide⟩
theorem one_ok (m0 : 1 ≤ m) (m1 : m ≤ 1000000000000000000) (a0 : 0 ≤ a) (ab : a ≤ b) (b1 : b ≤ 1000000000000000000) (c0 : 0 ≤ c) (cd : c ≤ d) (d1 : d ≤ 1000000000000000000) : ClOk [(0, 1, m)] [(a, b), (c, d)] := clok_of (fun t ht => by
    rw [List.mem_singleton.mp ht]
    exact ⟨by show (0 : Int) ≤ 0; decide, by show (0 : Int) < 1; decide, by show (1 : Int) < 2; decide, m0, m1⟩) (by simp) (by simp) (by simp) (by simp) fun e he => by
    simp only [List.mem_cons, List.not_mem_nil, or_false] at he
    rcases he with rfl | rfl
    · exact ⟨a0, ab, by show b ≤ _; omega⟩
    · exact ⟨c0, cd, by show d ≤ _; omega⟩
theorem one_vl (l0 : 0 ≤ L) (l1 : L ≤ m) (ha : a ≤ L) (hb : L ≤ b) (hc : c ≤ m - L) (hd : m - L ≤ d) : VL [(0, 1, m)] [(a, b), (c, d)] [L] := by
  refine ⟨⟨rfl, fun i x t hx ht => ?_⟩, fun x x0 x1 => ?_⟩
  · cases i with
    | zero => cases hx; cases ht; exact ⟨l0, l1⟩
    | succ i => simp at hx
  · have x1 : x < 2 := x1
    have hx : x = 0 ∨ x = 1 := by omega
    have e2 : ldg 2 [(0, 1, m)] [L] 0 = 0 + L := rfl
    have e3 : ldg 2 [(0, 1, m)] [L] 1 = 0 + m - L := rfl
    rcases hx with rfl | rfl
    · show a ≤ ldg 2 [(0, 1, m)] [L] 0 ∧ ldg 2 [(0, 1, m)] [L] 0 ≤ b
      rw [e2]
      omega
    · show c ≤ ldg 2 [(0, 1, m)] [L] 1 ∧ ldg 2 [(0, 1, m)] [L] 1 ≤ d
      rw [e3]
      omega
theorem mul_step {t T p : Int} (h : t < T) (p0 : 0 ≤ p) : t * p + p ≤ T * p := by
  have : (t + 1) * p ≤ T * p := Int.mul_le_mul_of_nonneg_right (by omega) p0
  rw [Int.add_mul] at this
  omega
/-- the case of one bundle: the turns ahead can be done; the last one stops at its first run, or at its last one -/
theorem one_case {n : Nat} {p T : Int} (ok : ClOk [(0, 1, m)] [(a, b), (c, d)]) (v : VL [(0, 1, m)] [(a, b), (c, d)] [L]) (hn : 2 * n + 1 ≤ 1000) (p0 : 1 ≤ p) (p1 : p ≤ 1000000000000000000) (t0 : 0 ≤ T) (t1 : T + 1 < 1000000000000000000)
    (h : ∀ x : Int, 0 ≤ x → x + p ≤ T * p → p ≤ roomQ [(0, 1, m)] [(a, b), (c, d)] [L - x] 0 1 ∧ 1 ≤ roomQ [(0, 1, m)] [(a, b), (c, d)] [L - x - 1] 1 0)
    (R : Nat) (hR : (R = 0 ∧ roomQ [(0, 1, m)] [(a, b), (c, d)] [L - T * p] 0 1 < 1) ∨ (R = 2 * n ∧ roomQ [(0, 1, m)] [(a, b), (c, d)] [L - T * p] 0 1 < p ∧ 1 ≤ roomQ [(0, 1, m)] [(a, b), (c, d)] [L - T * p] 0 1 ∧ 1 ≤ roomQ [(0, 1, m)] [(a, b), (c, d)] [L - T * p - 1] 1 0)) : Case [(0, 1, m)] [(a, b), (c, d)] [L] (onR n p) T R := by
  obtain ⟨q, hq, hq1⟩ := on_fst (n := n) (p := p)
  have eT : ((T.toNat : Nat) : Int) = T := Int.toNat_of_nonneg t0
  refine ⟨ok, v, on_in p0 p1, by rw [on_len]; omega, by rw [on_len]; omega, ?_, t0, t1, q, hq⟩
  refine fstop_is ok.each rfl (on_in p0 p1).ok t0 (fun t ht => ?_) (fun j hj => ?_) ?_
  · rw [on_aftN]
    obtain ⟨g1, g2⟩ := h ((t : Int) * p) (Int.mul_nonneg (by omega) (by omega)) (mul_step ht (by omega))
    exact on_turn (by omega) g2 g1
  · rcases hR with ⟨rfl, _⟩ | ⟨rfl, g1, g2, g3⟩
    · omega
    · intro r hr
      rw [on_aftN, eT]
      have tt := trip_turn (tl := []) g2 g3 n
      rw [List.append_nil] at tt
      have tt : turnB [(0, 1, m)] [(a, b), (c, d)] [L - T * p] (trip n) = true := tt
      have hjl : j < (trip n).length := by rw [trip_len]; exact hj
      have := (turnB_iff (ms := [])).mp tt j r (by unfold onR at hr; rwa [List.getElem?_append_left hjl] at hr)
      unfold onR
      rwa [List.take_append_of_le_length (by omega)]
  · intro z
    rcases hR with ⟨rfl, g⟩ | ⟨rfl, g1, g2, g3⟩
    · have := z _ hq
      rw [on_aftN, eT, List.take_zero, runB_room] at this
      have : q ≤ roomQ [(0, 1, m)] [(a, b), (c, d)] [L - T * p] 0 1 := of_decide_eq_true this
      have := hq1 p0
      omega
    · have hx : (onR n p)[2 * n]? = some (0, 1, p) := by
        unfold onR
        rw [List.getElem?_append_right (by rw [trip_len]; omega), trip_len, Nat.sub_self]
        rfl
      have := z _ hx
      rw [on_aftN, eT, runB_room] at this
      unfold onR at this
      rw [List.take_left' (trip_len n), trip_aft] at this
      have : p ≤ roomQ [(0, 1, m)] [(a, b), (c, d)] [L - T * p] 0 1 := of_decide_eq_true this
      omega
theorem case0 {n : Nat} {p T r : Int} (m1 : m ≤ 999999999999999995) (hn : 2 * n + 1 ≤ 1000) (p0 : 1 ≤ p) (p1 : p ≤ 1000) (t0 : 0 ≤ T) (t1 : T ≤ m) (hT : T * p ≤ m) (m0 : 1 ≤ m) (r0 : 0 ≤ r) (r1 : r < p) : Case [(0, 1, m)] [(0, m), (0, m)] [min m (T * p + r)] (onR n p) T (if T * p < min m (T * p + r) then 2 * n else 0) := by
  have tp : 0 ≤ T * p := Int.mul_nonneg t0 (by omega)
  refine one_case (one_ok m0 (by omega) (by omega) (by omega) (by omega) (by omega) (by omega) (by omega)) (one_vl (by omega) (by omega) (by omega) (by omega) (by omega) (by omega)) hn p0 (by omega) t0 (by omega) (fun x x0 x1 => ?_) _ ?_
  · rw [one_room01, one_room10]
    omega
  · rw [one_room01, one_room10]
    split
    · exact .inr ⟨rfl, by omega, by omega, by omega⟩
    · exact .inl ⟨rfl, by omega⟩
theorem case1 {n : Nat} {p T : Int} (m1 : m ≤ 999999999999999995) (hn : 2 * n + 1 ≤ 1000) (p0 : 1 ≤ p) (p1 : p ≤ 1000) (t0 : 0 ≤ T) (t1 : T ≤ m) (hT : T * p ≤ m) (m0 : 1 ≤ m) : Case [(0, 1, m)] [(m - T * p, m), (0, m)] [m] (onR n p) T 0 := by
  have tp : 0 ≤ T * p := Int.mul_nonneg t0 (by omega)
  refine one_case (one_ok m0 (by omega) (by omega) (by omega) (by omega) (by omega) (by omega) (by omega)) (one_vl (by omega) (by omega) (by omega) (by omega) (by omega) (by omega)) hn p0 (by omega) t0 (by omega) (fun x x0 x1 => ?_) _ ?_
  · rw [one_room01, one_room10]
    omega
  · rw [one_room01, one_room10]
    exact .inl ⟨rfl, by omega⟩
theorem case2 {n : Nat} {p T : Int} (m1 : m ≤ 999999999999999995) (hn : 2 * n + 1 ≤ 1000) (p0 : 1 ≤ p) (p1 : p ≤ 1000) (t0 : 0 ≤ T) (t1 : T ≤ m) (hT : T * p ≤ m) (m0 : 1 ≤ m) : Case [(0, 1, m)] [(0, m), (0, T * p)] [m] (onR n p) T 0 := by
  have tp : 0 ≤ T * p := Int.mul_nonneg t0 (by omega)
  refine one_case (one_ok m0 (by omega) (by omega) (by omega) (by omega) (by omega) (by omega) (by omega)) (one_vl (by omega) (by omega) (by omega) (by omega) (by omega) (by omega)) hn p0 (by omega) t0 (by omega) (fun x x0 x1 => ?_) _ ?_
  · rw [one_room01, one_room10]
    omega
  · rw [one_room01, one_room10]
    exact .inl ⟨rfl, by omega⟩
end
end R

/-! ## M24c: law_k24, the case of three brokers, and the law -/
namespace R
open PySem PySem.Spec PyProof.Rows L2 G
section
variable {m p T L M : Int}
theorem two_room01 : roomQ [(0, 1, m), (1, 2, m)] [(0, m), (m, m + p), (0, T * p)] [L, M] 0 1 = min L (p + L - M) := by
  have e1 : ledQ [(0, 1, m), (1, 2, m)] [L, M] 0 1 = L := rfl
  have e2 : ldg 3 [(0, 1, m), (1, 2, m)] [L, M] 0 = 0 + L := rfl
  have e3 : ldg 3 [(0, 1, m), (1, 2, m)] [L, M] 1 = 0 + m - L + M := rfl
  show min (min (ledQ [(0, 1, m), (1, 2, m)] [L, M] 0 1) (ldg 3 [(0, 1, m), (1, 2, m)] [L, M] 0 - 0)) (m + p - ldg 3 [(0, 1, m), (1, 2, m)] [L, M] 1) = _
  rw [e1, e2, e3]
  omega
theorem two_room12 : roomQ [(0, 1, m), (1, 2, m)] [(0, m), (m, m + p), (0, T * p)] [L, M] 1 2 = min (min M (M - L)) (T * p - m + M) := by
  have e1 : ledQ [(0, 1, m), (1, 2, m)] [L, M] 1 2 = M := rfl
  have e2 : ldg 3 [(0, 1, m), (1, 2, m)] [L, M] 2 = 0 + m - M := rfl
  have e3 : ldg 3 [(0, 1, m), (1, 2, m)] [L, M] 1 = 0 + m - L + M := rfl
  show min (min (ledQ [(0, 1, m), (1, 2, m)] [L, M] 1 2) (ldg 3 [(0, 1, m), (1, 2, m)] [L, M] 1 - m)) (T * p - ldg 3 [(0, 1, m), (1, 2, m)] [L, M] 2) = _
  rw [e1, e2, e3]
  omega
theorem two_mv01 {q : Int} : mvR [(0, 1, m), (1, 2, m)] [L, M] (0, 1, q) = [L - q, M] := by
  have : mvR [(0, 1, m), (1, 2, m)] [L, M] (0, 1, q) = [L + -q, M] := rfl
  rw [this, Int.sub_eq_add_neg]
theorem two_mv12 {q : Int} : mvR [(0, 1, m), (1, 2, m)] [L, M] (1, 2, q) = [L, M - q] := by
  have : mvR [(0, 1, m), (1, 2, m)] [L, M] (1, 2, q) = [L, M + -q] := rfl
  rw [this, Int.sub_eq_add_neg]
theorem two_aftN : ∀ t : Nat, aftN [(0, 1, m), (1, 2, m)] [L, M] [(0, 1, p), (1, 2, p)] t = [L - (t : Int) * p, M - (t : Int) * p]
  | 0 => by simp [aftN]
  | t + 1 => by
    rw [aftN, two_aftN t]
    show mvR _ (mvR _ _ _) _ = _
    rw [two_mv01, two_mv12]
    push_cast
    rw [Int.add_mul]
    congr 1
    · omega
    · congr 1
      omega
theorem case3 (m1 : m ≤ 999999999999999995) (p0 : 1 ≤ p) (p1 : p ≤ 1000) (t0 : 0 ≤ T) (t1 : T ≤ m) (hT : T * p + p ≤ m) (m0 : 1 ≤ m) : Case [(0, 1, m), (1, 2, m)] [(0, m), (m, m + p), (0, T * p)] [m, m] [(0, 1, p), (1, 2, p)] T 1 := by
  have tp : 0 ≤ T * p := Int.mul_nonneg t0 (by omega)
  have eT : ((T.toNat : Nat) : Int) = T := Int.toNat_of_nonneg t0
  have ok : ClOk [(0, 1, m), (1, 2, m)] [(0, m), (m, m + p), (0, T * p)] := clok_of (fun t ht => by
    simp only [List.mem_cons, List.not_mem_nil, or_false] at ht
    rcases ht with rfl | rfl
    · exact ⟨by show (0 : Int) ≤ 0; decide, by show (0 : Int) < 1; decide, by show (1 : Int) < 3; decide, m0, by show m ≤ _; omega⟩
    · exact ⟨by show (0 : Int) ≤ 1; decide, by show (1 : Int) < 2; decide, by show (2 : Int) < 3; decide, m0, by show m ≤ _; omega⟩) (by simp [bkey]) (by simp) (by simp) (by simp) fun e he => by
    simp only [List.mem_cons, List.not_mem_nil, or_false] at he
    rcases he with rfl | rfl | rfl
    · exact ⟨by show (0 : Int) ≤ 0; decide, by show 0 ≤ m; omega, by show m ≤ _; omega⟩
    · exact ⟨by show 0 ≤ m; omega, by show m ≤ m + p; omega, by show m + p ≤ _; omega⟩
    · exact ⟨by show (0 : Int) ≤ 0; decide, tp, by show T * p ≤ _; omega⟩
  have hr : RunsIn [(0, 1, m), (1, 2, m)] 3 [(0, 1, p), (1, 2, p)] := ⟨fun r hr => by
    simp only [List.mem_cons, List.not_mem_nil, or_false] at hr
    rcases hr with rfl | rfl
    · exact ⟨by show (0 : Int) ≤ 0; decide, by show (0 : Int) < 3; decide, by show (0 : Int) ≤ 1; decide, by show (1 : Int) < 3; decide, by show (0 : Int) ≠ 1; decide, 0, rfl⟩
    · exact ⟨by show (0 : Int) ≤ 1; decide, by show (1 : Int) < 3; decide, by show (0 : Int) ≤ 2; decide, by show (2 : Int) < 3; decide, by show (1 : Int) ≠ 2; decide, 1, rfl⟩, fun r hr => by
    simp only [List.mem_cons, List.not_mem_nil, or_false] at hr
    rcases hr with rfl | rfl
    · exact ⟨p0, by show p ≤ _; omega⟩
    · exact ⟨p0, by show p ≤ _; omega⟩⟩
  have v : VL [(0, 1, m), (1, 2, m)] [(0, m), (m, m + p), (0, T * p)] [m, m] := by
    refine ⟨⟨rfl, fun i x t hx ht => ?_⟩, fun x x0 x1 => ?_⟩
    · cases i with
      | zero => cases hx; cases ht; exact ⟨by omega, Int.le_refl _⟩
      | succ i =>
        cases i with
        | zero => cases hx; cases ht; exact ⟨by omega, Int.le_refl _⟩
        | succ i => simp at hx
    · have x1 : x < 3 := x1
      have hx : x = 0 ∨ x = 1 ∨ x = 2 := by omega
      have e1 : ldg 3 [(0, 1, m), (1, 2, m)] [m, m] 0 = 0 + m := rfl
      have e2 : ldg 3 [(0, 1, m), (1, 2, m)] [m, m] 1 = 0 + m - m + m := rfl
      have e3 : ldg 3 [(0, 1, m), (1, 2, m)] [m, m] 2 = 0 + m - m := rfl
      rcases hx with rfl | rfl | rfl
      · show 0 ≤ ldg 3 [(0, 1, m), (1, 2, m)] [m, m] 0 ∧ ldg 3 [(0, 1, m), (1, 2, m)] [m, m] 0 ≤ m
        rw [e1]
        omega
      · show m ≤ ldg 3 [(0, 1, m), (1, 2, m)] [m, m] 1 ∧ ldg 3 [(0, 1, m), (1, 2, m)] [m, m] 1 ≤ m + p
        rw [e2]
        omega
      · show 0 ≤ ldg 3 [(0, 1, m), (1, 2, m)] [m, m] 2 ∧ ldg 3 [(0, 1, m), (1, 2, m)] [m, m] 2 ≤ T * p
        rw [e3]
        omega
  have first : ∀ x : Int, 0 ≤ x → x ≤ T * p → runB [(0, 1, m), (1, 2, m)] [(0, m), (m, m + p), (0, T * p)] [m - x, m - x] (0, 1, p) = true := fun x x0 x1 => by
    rw [runB_room]
    refine decide_eq_true ?_
    show p ≤ roomQ _ _ _ 0 1
    rw [two_room01]
    omega
  refine ⟨ok, v, hr, by simp, by simp, ?_, t0, by omega, p, rfl⟩
  refine fstop_is ok.each rfl hr.ok t0 (fun t ht => ?_) (fun j hj => ?_) ?_
  · rw [two_aftN]
    have h1 := mul_step ht (show 0 ≤ p by omega)
    have h2 : 0 ≤ (t : Int) * p := Int.mul_nonneg (by omega) (by omega)
    rw [turnB, turnB, turnB, first _ h2 (by omega), two_mv01, runB_room, Bool.true_and, Bool.and_true]
    refine decide_eq_true ?_
    show p ≤ roomQ _ _ _ 1 2
    rw [two_room12]
    omega
  · have : j = 0 := by omega
    subst this
    intro r hr
    cases hr
    rw [two_aftN, eT]
    exact first _ tp (Int.le_refl _)
  · intro z
    have := z _ rfl
    rw [two_aftN, eT] at this
    have e : aft [(0, 1, m), (1, 2, m)] [m - T * p, m - T * p] ([(0, 1, p), (1, 2, p)].take 1) = [m - T * p - p, m - T * p] := two_mv01
    rw [e, runB_room] at this
    have : p ≤ roomQ [(0, 1, m), (1, 2, m)] [(0, m), (m, m + p), (0, T * p)] [m - T * p - p, m - T * p] 1 2 := of_decide_eq_true this
    rw [two_room12] at this
    omega
end
theorem cmul_of {i j : Int} (hi : i.natAbs ≤ 1000000000000000000000) (hj : j.natAbs ≤ 1000000000000000000000) : CMulW i j := by
  have h1 := log2_lt9 (n := i.natAbs) (by have := big9; omega)
  have h2 := log2_lt9 (n := j.natAbs) (by have := big9; omega)
  show i.natAbs.log2 + j.natAbs.log2 < 1000000
  omega
abbrev CaseQ (Q : D → Prop) : Prop := ∀ (bs : List Bun) (cs : List Bnd) (ms : List Int) (rs : List Run) (T : Int) (R : Nat), Case bs cs ms rs T R → Q (.sh (.tup [.lst (cs.map bndW), .lst (bs.map bunW), .tup (iW ms), .lst (rs.map bunW), .tup [.v (.int T), .v (.int (R : Int))]]))
section
variable {A : Ad} {Q : D → Prop} {N : List D → Prop} {m p y T r : Int} {n : Nat}
theorem case_c0 (h : CaseQ Q) (m0 : 999999 ≤ m) (m1 : m ≤ 999999999999999995) (p0 : 1 ≤ p) (p1 : p ≤ 1000) (y0 : 0 ≤ y) (y1 : y < 4) (t0 : 0 ≤ T) (t1 : T ≤ m / p) (r0 : 0 ≤ r) (r1 : r < p) (hn : n < 500) : p__law_case_c0 A { nx := N, rt := Q } [.sh .bag, .int m, .int p, .int y, .int T, .int r, .int (n : Int), .lst ((onR n p).map bunW), .un, .un, .un] := by
  have hT : T * p ≤ m := by
    have h1 : T * p ≤ m / p * p := Int.mul_le_mul_of_nonneg_right t1 (by omega)
    have h2 := Int.ediv_mul_le m (show p ≠ 0 by omega)
    omega
  have tm : T ≤ m := by
    have : m / p ≤ m := Int.ediv_le_self _ (by omega)
    omega
  have cm : CMulW T p := by
    have h1 := log2_lt9 (n := T.natAbs) (by have := big9; omega)
    have h2 := log2_lt9 (n := p.natAbs) (by have := big9; omega)
    show T.natAbs.log2 + p.natAbs.log2 < 1000000
    omega
  have q0 := case0 (n := n) (m := m) (p := p) (T := T) (r := r) m1 (by omega) p0 p1 t0 tm hT (by omega) r0 r1
  have q1 := case1 (n := n) (m := m) (p := p) (T := T) m1 (by omega) p0 p1 t0 tm hT (by omega)
  have q2 := case2 (n := n) (m := m) (p := p) (T := T) m1 (by omega) p0 p1 t0 tm hT (by omega)
  have g0 := h _ _ _ _ _ _ q0
  have g1 := h _ _ _ _ _ _ q1
  have g2 := h _ _ _ _ _ _ q2
  have hy : y = 0 ∨ y = 1 ∨ y = 2 ∨ y = 3 := by omega
  rcases hy with rfl | rfl | rfl | rfl
  · simp [p__law_case_c0, cm]
    refine ⟨cmul_of (by decide) (by omega), cmul_of (by omega) (by split <;> decide), ?_⟩
    have e : (((if T * p < min m (T * p + r) then 2 * n else 0 : Nat)) : Int) = 2 * (n : Int) * (if T * p < min m (T * p + r) then 1 else 0) := by split <;> simp
    rw [e] at g0
    exact g0
  · simp [p__law_case_c0, cm]
    exact g1
  · simp [p__law_case_c0, cm]
    exact g2
  · have d1 : 1 ≤ m / p := (Int.le_ediv_iff_mul_le (by omega)).mpr (by omega)
    have d2 : 0 ≤ T % (m / p) := Int.emod_nonneg _ (by omega)
    have d3 : T % (m / p) < m / p := Int.emod_lt_of_pos _ (by omega)
    have d4 := mul_step d3 (show 0 ≤ p by omega)
    have d5 := Int.ediv_mul_le m (show p ≠ 0 by omega)
    have d6 : m / p ≤ m := Int.ediv_le_self _ (by omega)
    have q3 := case3 (m := m) (p := p) (T := T % (m / p)) m1 p0 p1 d2 (by omega) (by omega) (by omega)
    have g3 := h _ _ _ _ _ _ q3
    simp [p__law_case_c0, cm]
    exact ⟨cdiv_of (N := 1000) (by omega) (by omega) (by have := big9; omega), by omega, cmul_of (by omega) (by omega), g3⟩
theorem case_c1 (h : CaseQ Q) (m0 : 999999 ≤ m) (m1 : m ≤ 999999999999999995) (p0 : 1 ≤ p) (p1 : p ≤ 1000) (y0 : 0 ≤ y) (y1 : y < 4) (t0 : 0 ≤ T) (t1 : T ≤ m / p) (r0 : 0 ≤ r) (r1 : r < p) (hn : n < 500) : p__law_case_c1 A { nx := N, rt := Q } [.sh .bag, .int m, .int p, .int y, .int T, .int r, .int (n : Int), .un, .un, .un, .un] := by
  have go := case_c0 (A := A) (N := N) h m0 m1 p0 p1 y0 y1 t0 t1 r0 r1 hn
  unfold onR trip at go
  simp [-List.reduceReplicate] at go
  simp [p__law_case_c1, -List.reduceReplicate]
  exact ⟨by omega, by omega, go⟩
theorem case_c2 (h : CaseQ Q) (m0 : 999999 ≤ m) (m1 : m ≤ 999999999999999995) (p0 : 1 ≤ p) (p1 : p ≤ 1000) (y0 : 0 ≤ y) (y1 : y < 4) (t0 : 0 ≤ T) (t1 : T ≤ m / p) : p__law_case_c2 A { nx := N, rt := Q } [.sh .bag, .int m, .int p, .int y, .int T, .un, .un, .un, .un, .un, .un] := by
  simp [p__law_case_c2]
  refine ⟨by omega, fun r r0 r1 u u0 u1 w w0 w1 => ⟨cmul_of (by omega) (by split <;> decide), ?_⟩⟩
  obtain ⟨n, hn, e⟩ : ∃ n : Nat, n < 500 ∧ u * (if w = 0 then 1 else 0) = (n : Int) := by
    split
    · exact ⟨u.toNat, by omega, by omega⟩
    · exact ⟨0, by omega, by omega⟩
  rw [e]
  exact case_c1 h m0 m1 p0 p1 y0 y1 t0 t1 r0 r1 hn
theorem case_c3 (h : CaseQ Q) (m0 : 999999 ≤ m) (m1 : m ≤ 999999999999999995) (p0 : 1 ≤ p) (p1 : p ≤ 1000) (y0 : 0 ≤ y) (y1 : y < 4) : p__law_case_c3 A { nx := N, rt := Q } [.sh .bag, .int m, .int p, .int y, .un, .un, .un, .un, .un, .un, .un] := by
  have d1 : 1 ≤ m / p := (Int.le_ediv_iff_mul_le (by omega)).mpr (by omega)
  have d6 : m / p ≤ m := Int.ediv_le_self _ (by omega)
  simp [p__law_case_c3]
  refine ⟨cdiv_of (N := 1000) (by omega) (by omega) (by have := big9; omega), by omega, fun T t0 t1 => ?_⟩
  exact case_c2 h m0 m1 p0 p1 y0 y1 t0 (by omega)
theorem case_c4 (h : CaseQ Q) (m0 : 999999 ≤ m) (m1 : m ≤ 999999999999999995) : p__law_case_c4 A { nx := N, rt := Q } [.sh .bag, .int m, .un, .un, .un, .un, .un, .un, .un, .un, .un] := by
  simp [p__law_case_c4]
  intro x x0 x1
  have hx : x = 0 ∨ x = 1 := by omega
  rcases hx with rfl | rfl
  · simp [at2_0]
    intro p p0 p1 y y0 y1
    exact case_c3 h m0 m1 (by omega) (by omega) y0 y1
  · simp [at2_1]
    intro p p0 p1 y y0 y1
    exact case_c3 h m0 m1 (by omega) (by omega) y0 y1
theorem f_case_of (h : CaseQ Q) : f__law_case A [.bag] Q := by
  have c9 : CPow 10 9 := by unfold CPow; decide
  have c12 : CPow 10 12 := by unfold CPow; decide
  have c15 : CPow 10 15 := by unfold CPow; decide
  simp [f__law_case, p__law_case, c9, c12, c15, cpow18]
  intro x x0 x1
  refine onW_pick x0 (by simpa using x1) fun w hw => ?_
  obtain ⟨m, rfl, m0, m1⟩ : ∃ m : Int, w = .v (.int m) ∧ 1000000000 ≤ m ∧ m ≤ 1000000000000000000 := by
    simp only [List.mem_cons, List.not_mem_nil, or_false] at hw
    rcases hw with rfl | rfl | rfl | rfl <;> exact ⟨_, rfl, by decide, by decide⟩
  simp
  intro u u0 u1
  exact case_c4 h (by omega) (by omega)
theorem k24_turn {P : List D → Prop} {E : EQ} {x0 x2 x3 x4 x5 x6 x7 x8 x9 x10 x11 x12 x13 x14 x15 : D} (k : ∀ a b c d e f g h i j k l m, P [x0, .sh .bag, x2, a, b, c, d, e, f, g, h, i, j, k, l, m]) :
    p_law_k24_b1 A { nx := P, ct := P, bk := E.nx, rt := E.rt } [x0, .sh .bag, x2, x3, x4, x5, x6, x7, x8, x9, x10, x11, x12, x13, x14, x15] := by
  simp [p_law_k24_b1]
  refine f_case_of fun bs cs ms rs T R hc => ?_
  simp [f_init2' hc.ok]
  exact k24_c3 (E := E) hc (.inr rfl) k
end
theorem k24_law (A : Ad) : runL (p_law_k24 A) 16 1 := by
  unfold runL
  simp [p_law_k24]
  refine loop_rng (fun i ρ => ∃ x0 x2 a b c d e f g h i j k l m, ρ = [x0, .sh .bag, x2, a, b, c, d, e, f, g, h, i, j, k, l, m]) ⟨_, _, _, _, _, _, _, _, _, _, _, _, _, _, _, rfl⟩ ?_ ?_
  · rintro i _ hi ⟨x0, x2, a, b, c, d, e, f, g, h, i', j, k', l, m, rfl⟩ T k
    simp [p_law_k24_g1]
    exact k24_turn (E := { nx := _, rt := _ }) fun a b c d e f g h i j k' l m => k _ ⟨_, _, _, _, _, _, _, _, _, _, _, _, _, _, _, rfl⟩
  · rintro _ ⟨x0, x2, a, b, c, d, e, f, g, h, i', j, k', l, m, rfl⟩
    simp
end R

set_option synthInstance.maxHeartbeats 4000000
set_option synthInstance.maxSize 100000
namespace G
open PySem PySem.Spec PyProof.Rows L2
def top (i : Nat) : Stmt := PySem.Challenge.pw_leadswitch_k24_stopped_far.main.body.getD i (.Pass ⟨0, 0, 0, 0⟩)
section
variable {P : Program} {w : World} {K : PySem.W.Frag} {mg : Str → Option Value} {base : Heap}
abbrev s__law_bag : Stmt := top 41
abbrev sc__law_bag_N : List Str := ["_law_script", "_law_cell"]
theorem sc__law_bag : FnScope sc__law_bag_N ["_law_script"] (defScope s__law_bag) := ⟨rfl, rfl, rfl, by decide +kernel, rfl, by decide +kernel, by decide +kernel⟩
theorem ok__law_bag (D : Def K mg "_law_bag" s__law_bag ["_law_script"]) (B : Blt mg) : Cal P w K mg base CX0 1 "_law_bag" ["_law_script"] (sp_bag K) := by
  refine D.ok sc__law_bag (fun vs H Q E h => by obtain ⟨a, ns, rfl, _⟩ := h; rfl) (fun f cdv A out s H vs Q E hr h => ?_)
  obtain ⟨a, ns, rfl, hS, hl, k⟩ := h
  refine ⟨_, (pss_one (ps_ret (pe_lst (pa_cons pe_int (pa_cons pe_int (pa_cons pe_int (pa_cons (pe_lc (own := [("_law_cell", 1)]) (g := (gName 1)) (tt := tYes) rfl sc__law_bag.nd (pi_list (pe_slice (kslL K) (pv 0) po_none (po_some pe_int))) (blkOk_by (own := [("_law_cell", 1)]) (N := sc__law_bag_N) (sc := defScope s__law_bag) (by decide +kernel)) (fun _ _ _ _ _ => (pg_name (i := 1) sc__law_bag.nd rfl (Or.inl rfl))) (fun _ _ _ _ _ => pts_nil) (fun _ _ _ _ _ => (pe_callB call_abs (by rfl) B.abs (by decide +kernel) (pa_cons (pv 1) pa_nil)))) pa_nil))))))), ?_⟩
  refine ⟨_, rfl, _, rfl, a, _, rfl, hS, fun p hp => ?_⟩
  obtain ⟨n1, n2, e⟩ := cut_map V.int ns none (some 63)
  have hb : ((ns.drop n1).take n2).length ≤ 1000 := by
    rw [List.length_take, List.length_drop]
    omega
  rw [e]
  generalize (ns.drop n1).take n2 = ms at hb
  refine ⟨p, rfl, ⟨_, SqL.of upd_same⟩, fun L hL => ?_⟩
  refine lc_map (xs := ms.map V.int) (ys := (ms.map fun i => if i < 0 then -i else i).map V.int) (SqL.of upd_same) hL (by simp) (by simp; omega) (fun x => rfl) (fun i x y hx hy H1 e1 Q1 q1 => ?_) (fun H1 e1 hD => ?_)
  · rw [List.getElem?_map] at hx
    rw [List.getElem?_map, List.getElem?_map] at hy
    cases em : ms[i]? with
    | none => rw [em] at hx; cases hx
    | some n =>
      rw [em] at hx hy
      cases hx
      cases hy
      exact ⟨_, rfl, n, rfl, q1 H1 (Same.refl _)⟩
  · refine ⟨by show 4 ≤ sizeLine; decide, fun b hb => ?_⟩
    have e0 : Same H (upd H p (.lst (ms.map V.int))) := same_new hp
    have nb : L ≠ b := ne_of_none hD hb
    refine k b _ ((e0.trans e1).free hb) ((e0.trans e1).trans (same_new hb)) ⟨L, 0, 1234567891, 0, _, upd_same, by rw [upd_ne nb]; exact hD, nb, by decide, fun z hz => ?_, by decide, by decide, by decide⟩
    obtain ⟨i, _, rfl⟩ := List.mem_map.mp hz
    split <;> omega

abbrev s__law_take : Stmt := top 42
abbrev sc__law_take_N : List Str := ["_law_bag_here", "_law_many", "_law_cell", "_law_value", "_law_first", "_law_second"]
theorem sc__law_take : FnScope sc__law_take_N ["_law_bag_here", "_law_many"] (defScope s__law_take) := ⟨rfl, rfl, rfl, by decide +kernel, rfl, by decide +kernel, by decide +kernel⟩
theorem ok__law_take (D : Def K mg "_law_take" s__law_take ["_law_bag_here", "_law_many"]) (B : Blt mg) : Cal P w K mg base CX0 1 "_law_take" ["_law_bag_here", "_law_many"] sp_take := by
  refine D.ok sc__law_take (fun vs H Q E h => by obtain ⟨b, m, rfl, _⟩ := h; rfl) (fun f cdv A out s H vs Q E hr h => ?_)
  obtain ⟨b, m, rfl, hb, m0, m1, k⟩ := h
  refine ⟨_, (Evl.pss_cut (ps_if (pt_cmpR op_eq (pe_ix (kixL K) (pv 0) pe_int (fun _ _ => rfl)) pe_int (nomark _))
      (pss_cons (ps_set (i := 2) sc__law_take.nd rfl (Or.inl rfl) pe_int)
      (Evl.pss_cut (ps_if (pt_cmpR op_lt (pe_ix (kixL K) (pv 0) pe_int (fun _ _ => rfl)) (pe_callB (klen K) (by rfl) B.len (by decide +kernel) (pa_cons (pe_ix (kixL K) (pv 0) pe_int (fun _ _ => rfl)) pa_nil)) (nomark _))
      (pss_one (ps_set (i := 2) sc__law_take.nd rfl (Or.inl rfl) (pe_ix (kixL K) (pe_ix (kixL K) (pv 0) pe_int (fun _ _ => rfl)) (pe_ix (kixL K) (pv 0) pe_int (fun _ _ => rfl)) (fun _ _ => rfl))))
      pss_nil)
      (pss_cons (ps_augS (pv 0) pe_int get_list pe_int ip_add set_list)
      (Evl.pss_cut (ps_if (pt_cmpR op_ge (pv 2) pe_int (nomark _))
      (pss_one (ps_asg (pv 2) (pg_sub (pv 0) pe_int set_list)))
      pss_nil)
      (pss_one (ps_asg (pe_op op_mod (pe_op op_add (pe_op op_add (pe_op op_mulW (pe_ix (kixL K) (pv 0) pe_int (fun _ _ => rfl)) pe_int) (pe_op op_mod (pv 2) pe_int)) (pe_op op_mul pe_int (pe_ix (kixL K) (pv 0) pe_int (fun _ _ => rfl)))) pe_int) (pg_sub (pv 0) pe_int set_list)))))))
      pss_nil)
      (pss_cons (ps_if (pt_cmpR op_gt (pe_ix (kixL K) (pv 0) pe_int (fun _ _ => rfl)) pe_int (nomark _))
      (pss_cons (ps_set (i := 3) sc__law_take.nd rfl (Or.inl rfl) (pe_op op_mod (pe_ix (kixL K) (pv 0) pe_int (fun _ _ => rfl)) (pv 1)))
      (pss_cons (ps_asg (pe_op op_fdivW (pe_ix (kixL K) (pv 0) pe_int (fun _ _ => rfl)) (pv 1)) (pg_sub (pv 0) pe_int set_list))
      (pss_one (ps_ret (pv 3)))))
      pss_nil)
      (pss_cons (ps_set (i := 4) sc__law_take.nd rfl (Or.inl rfl) (pe_op op_mod (pe_op op_mulW (pe_op op_add (pe_ix (kixL K) (pv 0) pe_int (fun _ _ => rfl)) pe_int) pe_int) pe_int))
      (pss_cons (ps_set (i := 5) sc__law_take.nd rfl (Or.inl rfl) (pe_op op_mod (pe_op op_mulW (pe_op op_mod (pe_op op_mulW (pv 4) (pv 4)) pe_int) pe_int) pe_int))
      (pss_cons (ps_if (pt_cmpR op_gt (pv 1) pe_int (nomark _))
      (pss_one (ps_ret (pe_op op_mod (pe_op op_add (pe_op op_mulW (pv 5) pe_int) (pv 4)) (pv 1))))
      pss_nil)
      (pss_one (ps_ret (pe_op op_mod (pe_op op_fdivW (pv 5) pe_int) (pv 1))))))))), ?_⟩
  refine ⟨fun σ H' => ∃ c, σ = [some (.ref b), some (.int m), c, none, none, none] ∧ Go b H H', ?_, ?_⟩
  · have hb' := hb
    obtain ⟨c, hbc⟩ := hb
    have hbc' := hbc
    obtain ⟨a, z, n, cs, h1, h2, hcb, a0, z0, s0, s1, k0⟩ := hbc
    refine ⟨_, rfl, b, _, _, _, rfl, rfl, SqL.of h1, rfl, rfl, _, rfl, ?_⟩
    refine ite2 (fun ha => ?_) (fun _ => ⟨_, rfl, Go.refl hb'⟩)
    refine ⟨fun σ H' => ∃ e : Int, 0 ≤ e ∧ σ = [some (.ref b), some (.int m), some (.int e), none, none, none] ∧ H' = H, ?_, ?_⟩
    · refine ⟨_, rfl, b, _, _, _, rfl, rfl, SqL.of h1, rfl, _, rfl, b, _, _, _, rfl, rfl, SqL.of h1, rfl, _, _, rfl, Or.inl ⟨_, SqL.of h2, rfl⟩, _, _, rfl, rfl, _, rfl, ?_⟩
      refine ite2 (fun hn => ?_) (fun _ => ⟨0, Int.le_refl _, rfl, rfl⟩)
      have hn' := of_decide_eq_true hn
      rw [List.length_map] at hn'
      obtain ⟨j, rfl⟩ := Int.eq_ofNat_of_zero_le k0
      have hj : j < cs.length := by omega
      refine ⟨_, rfl, b, _, _, _, rfl, rfl, SqL.of h1, rfl, _, rfl, b, _, _, _, rfl, rfl, SqL.of h1, rfl, c, _, _, .int cs[j], rfl, rfl, SqL.of h2, atI_nat (by rw [List.getElem?_map, List.getElem?_eq_getElem hj]; rfl), ?_⟩
      exact ⟨cs[j], z0 _ (List.getElem_mem hj), rfl, rfl⟩
    · rintro σ H' ⟨e, e0, rfl, rfl⟩
      refine ⟨_, rfl, b, _, 2, _, rfl, rfl, SqL.of h1, rfl, _, _, rfl, rfl, b, _, _, 2, rfl, rfl, h1, rfl, ?_⟩
      refine ⟨fun σ H1 => ∃ a' : Int, 0 ≤ a' ∧ σ = [some (.ref b), some (.int m), some (.int e), none, none, none] ∧ H1 b = some (.lst [.int a', .int z, .int (n + 1), .ref c]) ∧ hid b H1 = hid b H', ?_, ?_⟩
      · refine ⟨_, rfl, _, _, rfl, rfl, _, rfl, ?_⟩
        refine ite2 (fun _ => ?_) (fun _ => ⟨a, a0, rfl, upd_same, hid_upd⟩)
        refine ⟨_, rfl, _, rfl, b, _, _, 0, rfl, rfl, upd_same, rfl, ?_⟩
        exact ⟨e, e0, rfl, upd_same, by rw [hid_upd, hid_upd]⟩
      · rintro σ H1 ⟨a', a0', rfl, hH, hh⟩
        refine ⟨_, rfl, b, _, _, _, rfl, rfl, SqL.of hH, rfl, _, _, rfl, rfl, wide_mul (a := 64) (b := 64) (by omega) (by decide) (by decide) (by decide) (by decide), _, rfl, _, _, rfl, rfl, (by show (0 : Int) < 2147483647; decide), _, _, rfl, rfl, _, rfl, b, _, _, _, rfl, rfl, SqL.of hH, rfl, _, _, rfl, rfl, .inl ⟨by decide, by decide⟩, _, _, rfl, rfl, _, _, rfl, rfl, (by show (0 : Int) < 2147483647; decide), _, rfl, b, _, _, 1, rfl, rfl, hH, rfl, ?_⟩
        refine ⟨_, rfl, ⟨c, hbc', a', _, n + 1, cs, upd_same, ?_, hcb, a0', z0, Int.emod_nonneg _ (by decide), Int.emod_lt_of_pos _ (by decide), by omega⟩, ?_⟩
        · have q := congrFun hh c
          rw [hid_ne hcb, hid_ne hcb] at q
          rw [upd_ne hcb, q]
          exact h2
        · rw [hid_upd, hh]
          exact Same.refl _
  · rintro σ H1 ⟨c0, rfl, g⟩
    have g' := g
    obtain ⟨⟨c, hbc, a, z, n, cs, h1, h2, hcb, a0, z0, s0, s1, k0⟩, sm⟩ := g
    refine ⟨_, rfl, b, _, _, _, rfl, rfl, SqL.of h1, rfl, _, _, rfl, rfl, _, rfl, ?_⟩
    refine ite2 (fun ha => ?_) (fun _ => ?_)
    · refine ⟨_, rfl, b, _, _, _, rfl, rfl, SqL.of h1, rfl, _, rfl, _, _, rfl, rfl, m0, _, rfl, b, _, _, _, rfl, rfl, SqL.of h1, rfl, _, rfl, _, _, rfl, rfl, wide_div (b := 200) m0 (by omega) (by decide) (by decide), _, rfl, b, _, _, 0, rfl, rfl, h1, rfl, _, rfl, ?_⟩
      refine k _ _ (Int.emod_nonneg _ (by omega)) (Int.emod_lt_of_pos _ m0) ⟨⟨c, hbc, _, z, n, cs, upd_same, by rw [upd_ne hcb]; exact h2, hcb, Int.ediv_nonneg a0 (by omega), z0, s0, s1, k0⟩, ?_⟩
      rw [hid_upd]
      exact sm
    · refine ⟨_, rfl, b, _, _, _, rfl, rfl, SqL.of h1, rfl, _, _, rfl, rfl, _, _, rfl, rfl, wide_mul (a := 64) (b := 64) (by omega) (by decide) (by decide) (by decide) (by decide), _, _, rfl, rfl, (by show (0 : Int) < 1000000007; decide), ?_⟩
      have q1 : 0 ≤ (z + 1) * 39373 % 1000000007 := Int.emod_nonneg _ (by decide)
      have q2 : (z + 1) * 39373 % 1000000007 < 1000000007 := Int.emod_lt_of_pos _ (by decide)
      generalize (z + 1) * 39373 % 1000000007 = y at q1 q2
      refine ⟨_, rfl, _, rfl, _, _, rfl, rfl, wide_mul (a := 64) (b := 64) (by omega) (by omega) (by decide) (by decide) (by decide), _, _, rfl, rfl, (by show (0 : Int) < 998244353; decide), ?_⟩
      have q3 : 0 ≤ y * y % 998244353 := Int.emod_nonneg _ (by decide)
      have q4 : y * y % 998244353 < 998244353 := Int.emod_lt_of_pos _ (by decide)
      generalize y * y % 998244353 = y2 at q3 q4
      refine ⟨_, _, rfl, rfl, wide_mul (a := 64) (b := 64) (by omega) (by decide) (by decide) (by decide) (by decide), _, _, rfl, rfl, (by show (0 : Int) < 998244353; decide), ?_⟩
      have q5 : 0 ≤ y2 * 30011 % 998244353 := Int.emod_nonneg _ (by decide)
      have q6 : y2 * 30011 % 998244353 < 998244353 := Int.emod_lt_of_pos _ (by decide)
      generalize y2 * 30011 % 998244353 = y3 at q5 q6
      refine ⟨_, rfl, _, _, rfl, rfl, _, rfl, ?_⟩
      refine ite2 (fun _ => ?_) (fun _ => ?_)
      · refine ⟨_, rfl, _, _, rfl, rfl, wide_mul (a := 64) (b := 64) (by omega) (by decide) (by decide) (by decide) (by decide), _, rfl, _, _, rfl, rfl, _, rfl, _, _, rfl, rfl, m0, ?_⟩
        exact k _ _ (Int.emod_nonneg _ (by omega)) (Int.emod_lt_of_pos _ m0) g'
      · refine ⟨_, rfl, _, _, rfl, rfl, wide_div (b := 200) (by decide) (by decide) (by decide) (by decide), _, rfl, _, _, rfl, rfl, m0, ?_⟩
        exact k _ _ (Int.emod_nonneg _ (by omega)) (Int.emod_lt_of_pos _ m0) g'

end
end G
namespace R
open PySem PySem.Spec PyProof.Rows L2 G
section
variable {P : Program} {w : World} {K : PySem.W.Frag} {mg : Str → Option Value} {base : Heap}


abbrev s__law_case : Stmt := top 45
abbrev sc__law_case_N : List Str := ["_law_bag_here", "_law_many", "_law_pace", "_law_way", "_law_turns", "_law_rest", "_law_trips", "_law_runs", "_law_begun", "_law_last", "_law_bounds"]
theorem sc__law_case : FnScope sc__law_case_N ["_law_bag_here"] (defScope s__law_case) := ⟨rfl, rfl, rfl, by decide +kernel, rfl, by decide +kernel, by decide +kernel⟩
theorem ok__law_case {A : Ad} (dd : Def K mg "_law_case" s__law_case ["_law_bag_here"]) (B : Blt mg) (c__law_take : Cal P w K mg base CX0 1 "_law_take" ["_law_bag_here", "_law_many"] (SpP K 2 f_take)) : Cal P w K mg base CX0 2 "_law_case" ["_law_bag_here"] (SpP K 1 (f__law_case A)) :=
  defR (τ := p__law_case A) dd sc__law_case 10 rfl rfl fun f cdv Ar out s H E hr => ⟨_, (pss_cons (ps_set (i := 1) sc__law_case.nd rfl (Or.inl rfl) (pe_op op_sub (pe_op op_sub (pe_ix (kix K) (pe_lst (pa_cons (pe_op op_pow pe_int pe_int) (pa_cons (pe_op op_pow pe_int pe_int) (pa_cons (pe_op op_pow pe_int pe_int) (pa_cons (pe_op op_pow pe_int pe_int) pa_nil))))) (pe_c (E := fun _ _ _ => False) c__law_take (hr.mono (by decide)) pass0 (pa_cons (pv 0) (pa_cons pe_int pa_nil))) (fun _ _ => rfl)) pe_int) (pe_c (E := fun _ _ _ => False) c__law_take (hr.mono (by decide)) pass0 (pa_cons (pv 0) (pa_cons pe_int pa_nil)))))
      (pss_cons (ps_par (i := 2) (j := 3) (by rfl) sc__law_case.nd rfl rfl (by decide) rfl rfl (pa_cons (pe_op (kplus K) pe_int (pe_c (E := fun _ _ _ => False) c__law_take (hr.mono (by decide)) pass0 (pa_cons (pv 0) (pa_cons (pe_ix (kix K) (pe_lst (pa_cons pe_int (pa_cons pe_int pa_nil))) (pe_c (E := fun _ _ _ => False) c__law_take (hr.mono (by decide)) pass0 (pa_cons (pv 0) (pa_cons pe_int pa_nil))) (fun _ _ => rfl)) pa_nil)))) (pa_cons (pe_c (E := fun _ _ _ => False) c__law_take (hr.mono (by decide)) pass0 (pa_cons (pv 0) (pa_cons pe_int pa_nil))) pa_nil)) (by rfl))
      (pss_cons (ps_set (i := 4) sc__law_case.nd rfl (Or.inl rfl) (pe_c (E := fun _ _ _ => False) c__law_take (hr.mono (by decide)) pass0 (pa_cons (pv 0) (pa_cons (pe_op (kplus K) (pe_op op_fdivW (pv 1) (pv 2)) pe_int) pa_nil))))
      (pss_cons (ps_par (i := 5) (j := 6) (by rfl) sc__law_case.nd rfl rfl (by decide) rfl rfl (pa_cons (pe_c (E := fun _ _ _ => False) c__law_take (hr.mono (by decide)) pass0 (pa_cons (pv 0) (pa_cons (pv 2) pa_nil))) (pa_cons (pe_op ktimes (pe_c (E := fun _ _ _ => False) c__law_take (hr.mono (by decide)) pass0 (pa_cons (pv 0) (pa_cons pe_int pa_nil))) (pe_callTy kintOf (by rfl) B.int (by decide +kernel) (pa_cons (pe_cmpR (keq K hr.units) (pe_c (E := fun _ _ _ => False) c__law_take (hr.mono (by decide)) pass0 (pa_cons (pv 0) (pa_cons pe_int pa_nil))) pe_int (nomark _)) pa_nil))) pa_nil)) (by rfl))
      (pss_cons (ps_set (i := 7) sc__law_case.nd rfl (Or.inl rfl) (pe_op (kplus K) (pe_op ktimes (pe_lst (pa_cons (pe_tup (pa_cons pe_int (pa_cons pe_int (pa_cons pe_int pa_nil)))) (pa_cons (pe_tup (pa_cons pe_int (pa_cons pe_int (pa_cons pe_int pa_nil)))) pa_nil))) (pv 6)) (pe_lst (pa_cons (pe_tup (pa_cons pe_int (pa_cons pe_int (pa_cons (pv 2) pa_nil)))) pa_nil))))
      (pss_cons (ps_if (pt_cmpR (keq K hr.units) (pv 3) pe_int (nomark _))
      (pss_cons (ps_set (i := 8) sc__law_case.nd rfl (Or.inl rfl) (pe_callB (kmin K) (by rfl) B.min (by decide +kernel) (pa_cons (pv 1) (pa_cons (pe_op (kplus K) (pe_op ktimes (pv 4) (pv 2)) (pv 5)) pa_nil))))
      (pss_cons (ps_set (i := 9) sc__law_case.nd rfl (Or.inl rfl) (pe_op ktimes (pe_op ktimes pe_int (pv 6)) (pe_callTy kintOf (by rfl) B.int (by decide +kernel) (pa_cons (pe_cmpR op_gt (pv 8) (pe_op ktimes (pv 4) (pv 2)) (nomark _)) pa_nil))))
      (pss_one (ps_ret (pe_tup (pa_cons (pe_lst (pa_cons (pe_tup (pa_cons pe_int (pa_cons (pv 1) pa_nil))) (pa_cons (pe_tup (pa_cons pe_int (pa_cons (pv 1) pa_nil))) pa_nil))) (pa_cons (pe_lst (pa_cons (pe_tup (pa_cons pe_int (pa_cons pe_int (pa_cons (pv 1) pa_nil)))) pa_nil)) (pa_cons (pe_tup (pa_cons (pv 8) pa_nil)) (pa_cons (pv 7) (pa_cons (pe_tup (pa_cons (pv 4) (pa_cons (pv 9) pa_nil))) pa_nil))))))))))
      pss_nil)
      (pss_cons (ps_if (pt_cmpR (keq K hr.units) (pv 3) pe_int (nomark _))
      (pss_one (ps_ret (pe_tup (pa_cons (pe_lst (pa_cons (pe_tup (pa_cons (pe_op op_sub (pv 1) (pe_op ktimes (pv 4) (pv 2))) (pa_cons (pv 1) pa_nil))) (pa_cons (pe_tup (pa_cons pe_int (pa_cons (pv 1) pa_nil))) pa_nil))) (pa_cons (pe_lst (pa_cons (pe_tup (pa_cons pe_int (pa_cons pe_int (pa_cons (pv 1) pa_nil)))) pa_nil)) (pa_cons (pe_tup (pa_cons (pv 1) pa_nil)) (pa_cons (pv 7) (pa_cons (pe_tup (pa_cons (pv 4) (pa_cons pe_int pa_nil))) pa_nil))))))))
      pss_nil)
      (pss_cons (ps_if (pt_cmpR (keq K hr.units) (pv 3) pe_int (nomark _))
      (pss_one (ps_ret (pe_tup (pa_cons (pe_lst (pa_cons (pe_tup (pa_cons pe_int (pa_cons (pv 1) pa_nil))) (pa_cons (pe_tup (pa_cons pe_int (pa_cons (pe_op ktimes (pv 4) (pv 2)) pa_nil))) pa_nil))) (pa_cons (pe_lst (pa_cons (pe_tup (pa_cons pe_int (pa_cons pe_int (pa_cons (pv 1) pa_nil)))) pa_nil)) (pa_cons (pe_tup (pa_cons (pv 1) pa_nil)) (pa_cons (pv 7) (pa_cons (pe_tup (pa_cons (pv 4) (pa_cons pe_int pa_nil))) pa_nil))))))))
      pss_nil)
      (pss_cons (ps_set (i := 4) sc__law_case.nd rfl (Or.inl rfl) (pe_op op_mod (pv 4) (pe_op op_fdivW (pv 1) (pv 2))))
      (pss_cons (ps_set (i := 10) sc__law_case.nd rfl (Or.inl rfl) (pe_lst (pa_cons (pe_tup (pa_cons pe_int (pa_cons (pv 1) pa_nil))) (pa_cons (pe_tup (pa_cons (pv 1) (pa_cons (pe_op (kplus K) (pv 1) (pv 2)) pa_nil))) (pa_cons (pe_tup (pa_cons pe_int (pa_cons (pe_op ktimes (pv 4) (pv 2)) pa_nil))) pa_nil)))))
      (pss_one (ps_ret (pe_tup (pa_cons (pv 10) (pa_cons (pe_lst (pa_cons (pe_tup (pa_cons pe_int (pa_cons pe_int (pa_cons (pv 1) pa_nil)))) (pa_cons (pe_tup (pa_cons pe_int (pa_cons pe_int (pa_cons (pv 1) pa_nil)))) pa_nil))) (pa_cons (pe_tup (pa_cons (pv 1) (pa_cons (pv 1) pa_nil))) (pa_cons (pe_lst (pa_cons (pe_tup (pa_cons pe_int (pa_cons pe_int (pa_cons (pv 2) pa_nil)))) (pa_cons (pe_tup (pa_cons pe_int (pa_cons pe_int (pa_cons (pv 2) pa_nil)))) pa_nil))) (pa_cons (pe_tup (pa_cons (pv 4) (pa_cons pe_int pa_nil))) pa_nil)))))))))))))))))), fun c => by unfold p__law_case p__law_case_c4 p__law_case_c3 p__law_case_c2 p__law_case_c1 p__law_case_c0; infer_instance⟩

abbrev s_is_integer : Stmt := top 10
abbrev sc_is_integer_N : List Str := ["thing"]
theorem sc_is_integer : FnScope sc_is_integer_N ["thing"] (defScope s_is_integer) := ⟨rfl, rfl, rfl, by decide +kernel, rfl, by decide +kernel, by decide +kernel⟩
theorem ok_is_integer {A : Ad} (dd : Def K mg "is_integer" s_is_integer ["thing"]) (B : Blt mg) : Cal P w K mg base CX0 1 "is_integer" ["thing"] (SpP K 1 (f_is_integer A)) :=
  defR (τ := p_is_integer A) dd sc_is_integer 0 rfl rfl fun f cdv Ar out s H E hr => ⟨_, (pss_one (ps_ret (pe_and (pe_callB (kisi K) (by rfl) B.isinstance (by decide +kernel) (pa_cons (pv 0) (pa_cons (pe_ty (n := "int") B.int (by decide +kernel)) pa_nil))) (pe_one (pe_not (pe_callB (kisi K) (by rfl) B.isinstance (by decide +kernel) (pa_cons (pv 0) (pa_cons (pe_ty (n := "bool") B.bool (by decide +kernel)) pa_nil)))))))), fun c => by unfold p_is_integer; infer_instance⟩

abbrev s_is_between : Stmt := top 11
abbrev sc_is_between_N : List Str := ["thing", "least", "most"]
theorem sc_is_between : FnScope sc_is_between_N ["thing", "least", "most"] (defScope s_is_between) := ⟨rfl, rfl, rfl, by decide +kernel, rfl, by decide +kernel, by decide +kernel⟩
theorem ok_is_between {A : Ad} (dd : Def K mg "is_between" s_is_between ["thing", "least", "most"]) (B : Blt mg) (c_is_integer : Cal P w K mg base CX0 1 "is_integer" ["thing"] (SpP K 1 (f_is_integer A))) : Cal P w K mg base CX0 2 "is_between" ["thing", "least", "most"] (SpP K 3 (f_is_between A)) :=
  defR (τ := p_is_between A) dd sc_is_between 0 rfl rfl fun f cdv Ar out s H E hr => ⟨_, (pss_one (ps_ret (pe_and (pe_c (E := fun _ _ _ => False) c_is_integer (hr.mono (by decide)) pass0 (pa_cons (pv 0) pa_nil)) (pe_one (pe_chain op_le op_le (pv 1) (pv 0) (pv 2)))))), fun c => by unfold p_is_between; infer_instance⟩

abbrev s_is_amount : Stmt := top 12
abbrev sc_is_amount_N : List Str := ["thing"]
theorem sc_is_amount : FnScope sc_is_amount_N ["thing"] (defScope s_is_amount) := ⟨rfl, rfl, rfl, by decide +kernel, rfl, by decide +kernel, by decide +kernel⟩
theorem ok_is_amount {A : Ad} (dd : Def K mg "is_amount" s_is_amount ["thing"]) (B : Blt mg) {t_MOST_AMOUNT : Tok} (m_MOST_AMOUNT : mg "MOST_AMOUNT" = some (.int 1000000000000000000000000000000 t_MOST_AMOUNT)) (c_is_between : Cal P w K mg base CX0 2 "is_between" ["thing", "least", "most"] (SpP K 3 (f_is_between A))) : Cal P w K mg base CX0 3 "is_amount" ["thing"] (SpP K 1 (f_is_amount A)) :=
  defR (τ := p_is_amount A) dd sc_is_amount 0 rfl rfl fun f cdv Ar out s H E hr => ⟨_, (pss_one (ps_ret (pe_c (E := fun _ _ _ => False) c_is_between (hr.mono (by decide)) pass0 (pa_cons (pv 0) (pa_cons pe_int (pa_cons (pe_gi m_MOST_AMOUNT) pa_nil)))))), fun c => by unfold p_is_amount; infer_instance⟩

abbrev s_is_bound : Stmt := top 15
abbrev sc_is_bound_N : List Str := ["thing"]
theorem sc_is_bound : FnScope sc_is_bound_N ["thing"] (defScope s_is_bound) := ⟨rfl, rfl, rfl, by decide +kernel, rfl, by decide +kernel, by decide +kernel⟩
theorem ok_is_bound {A : Ad} (dd : Def K mg "is_bound" s_is_bound ["thing"]) (B : Blt mg) (c_is_amount : Cal P w K mg base CX0 3 "is_amount" ["thing"] (SpP K 1 (f_is_amount A))) : Cal P w K mg base CX0 4 "is_bound" ["thing"] (SpP K 1 (f_is_bound A)) :=
  defR (τ := p_is_bound A) dd sc_is_bound 0 rfl rfl fun f cdv Ar out s H E hr => ⟨_, (pss_cons (ps_if (PW.pt (pw_or (pt_not (pt_val (pe_callB (kisi K) (by rfl) B.isinstance (by decide +kernel) (pa_cons (pv 0) (pa_cons (pe_ty (n := "tuple") B.tuple (by decide +kernel)) pa_nil))))) (pw_or1 (pt_cmpR (kne K hr.units) (pe_callB (klen' K) (by rfl) B.len (by decide +kernel) (pa_cons (pv 0) pa_nil)) pe_int (nomark _)))))
      (pss_one (ps_ret pe_bl))
      pss_nil)
      (pss_one (ps_ret (pe_and (pe_c (E := fun _ _ _ => False) c_is_amount (hr.mono (by decide)) pass0 (pa_cons (pe_ix (kix K) (pv 0) pe_int (fun _ _ => rfl)) pa_nil)) (pe_and (pe_c (E := fun _ _ _ => False) c_is_amount (hr.mono (by decide)) pass0 (pa_cons (pe_ix (kix K) (pv 0) pe_int (fun _ _ => rfl)) pa_nil)) (pe_one (pe_cmpR op_le (pe_ix (kix K) (pv 0) pe_int (fun _ _ => rfl)) (pe_ix (kix K) (pv 0) pe_int (fun _ _ => rfl)) (nomark _)))))))), fun c => by unfold p_is_bound; infer_instance⟩

abbrev s_are_bounds : Stmt := top 16
abbrev sc_are_bounds_N : List Str := ["thing", "bound"]
theorem sc_are_bounds : FnScope sc_are_bounds_N ["thing"] (defScope s_are_bounds) := ⟨rfl, rfl, rfl, by decide +kernel, rfl, by decide +kernel, by decide +kernel⟩
theorem ok_are_bounds {A : Ad} (dd : Def K mg "are_bounds" s_are_bounds ["thing"]) (B : Blt mg) {t_MOST_BROKERS : Tok} (m_MOST_BROKERS : mg "MOST_BROKERS" = some (.int 10 t_MOST_BROKERS)) (c_is_bound : Cal P w K mg base CX0 4 "is_bound" ["thing"] (SpP K 1 (f_is_bound A))) : Cal P w K mg base CX0 5 "are_bounds" ["thing"] (SpP K 1 (f_are_bounds A)) :=
  defR (τ := p_are_bounds A) dd sc_are_bounds 1 rfl rfl fun f cdv Ar out s H E hr => ⟨_, (pss_cons (ps_if (PW.pt (pw_or (pt_not (pt_val (pe_callB (kisi K) (by rfl) B.isinstance (by decide +kernel) (pa_cons (pv 0) (pa_cons (pe_ty (n := "list") B.list (by decide +kernel)) pa_nil))))) (pw_or1 (pt_not (pt_chain op_le op_le pe_int (pe_callB (klen' K) (by rfl) B.len (by decide +kernel) (pa_cons (pv 0) pa_nil)) (pe_gi m_MOST_BROKERS))))))
      (pss_one (ps_ret pe_bl))
      pss_nil)
      (pss_one (ps_ret (pe_callB (kall K) (by rfl) B.all (by decide +kernel) (pa_cons (klc (own := [("bound", 1)]) (vs := [1]) (g := (gName 1)) (tt := tYes) sc_are_bounds.nd (kseq K (pv 0)) (blkOk_by (own := [("bound", 1)]) (N := sc_are_bounds_N) (sc := defScope s_are_bounds) (by decide +kernel)) (fun _ _ _ _ _ => (pg_name (i := 1) sc_are_bounds.nd rfl (Or.inl rfl))) (fun _ _ _ _ _ => pts_nil) (fun _ _ _ _ _ => (pe_c (E := fun _ _ _ => False) c_is_bound (hr.mono (by decide)) pass0 (pa_cons (pv 1) pa_nil)))) pa_nil))))), fun c => by unfold p_are_bounds p_are_bounds_e0; infer_instance⟩

abbrev s_is_broker : Stmt := top 14
abbrev sc_is_broker_N : List Str := ["thing", "size"]
theorem sc_is_broker : FnScope sc_is_broker_N ["thing", "size"] (defScope s_is_broker) := ⟨rfl, rfl, rfl, by decide +kernel, rfl, by decide +kernel, by decide +kernel⟩
theorem ok_is_broker {A : Ad} (dd : Def K mg "is_broker" s_is_broker ["thing", "size"]) (B : Blt mg) (c_is_between : Cal P w K mg base CX0 2 "is_between" ["thing", "least", "most"] (SpP K 3 (f_is_between A))) : Cal P w K mg base CX0 3 "is_broker" ["thing", "size"] (SpP K 2 (f_is_broker A)) :=
  defR (τ := p_is_broker A) dd sc_is_broker 0 rfl rfl fun f cdv Ar out s H E hr => ⟨_, (pss_one (ps_ret (pe_c (E := fun _ _ _ => False) c_is_between (hr.mono (by decide)) pass0 (pa_cons (pv 0) (pa_cons pe_int (pa_cons (pe_op op_sub (pv 1) pe_int) pa_nil)))))), fun c => by unfold p_is_broker; infer_instance⟩

abbrev s_is_count : Stmt := top 13
abbrev sc_is_count_N : List Str := ["thing"]
theorem sc_is_count : FnScope sc_is_count_N ["thing"] (defScope s_is_count) := ⟨rfl, rfl, rfl, by decide +kernel, rfl, by decide +kernel, by decide +kernel⟩
theorem ok_is_count {A : Ad} (dd : Def K mg "is_count" s_is_count ["thing"]) (B : Blt mg) {t_MOST_COUNT : Tok} (m_MOST_COUNT : mg "MOST_COUNT" = some (.int 1000000000000000000 t_MOST_COUNT)) (c_is_between : Cal P w K mg base CX0 2 "is_between" ["thing", "least", "most"] (SpP K 3 (f_is_between A))) : Cal P w K mg base CX0 3 "is_count" ["thing"] (SpP K 1 (f_is_count A)) :=
  defR (τ := p_is_count A) dd sc_is_count 0 rfl rfl fun f cdv Ar out s H E hr => ⟨_, (pss_one (ps_ret (pe_c (E := fun _ _ _ => False) c_is_between (hr.mono (by decide)) pass0 (pa_cons (pv 0) (pa_cons pe_int (pa_cons (pe_gi m_MOST_COUNT) pa_nil)))))), fun c => by unfold p_is_count; infer_instance⟩

abbrev s_is_bundle : Stmt := top 17
abbrev sc_is_bundle_N : List Str := ["thing", "size"]
theorem sc_is_bundle : FnScope sc_is_bundle_N ["thing", "size"] (defScope s_is_bundle) := ⟨rfl, rfl, rfl, by decide +kernel, rfl, by decide +kernel, by decide +kernel⟩
theorem ok_is_bundle {A : Ad} (dd : Def K mg "is_bundle" s_is_bundle ["thing", "size"]) (B : Blt mg) (c_is_broker : Cal P w K mg base CX0 3 "is_broker" ["thing", "size"] (SpP K 2 (f_is_broker A))) (c_is_count : Cal P w K mg base CX0 3 "is_count" ["thing"] (SpP K 1 (f_is_count A))) : Cal P w K mg base CX0 4 "is_bundle" ["thing", "size"] (SpP K 2 (f_is_bundle A)) :=
  defR (τ := p_is_bundle A) dd sc_is_bundle 0 rfl rfl fun f cdv Ar out s H E hr => ⟨_, (pss_cons (ps_if (PW.pt (pw_or (pt_not (pt_val (pe_callB (kisi K) (by rfl) B.isinstance (by decide +kernel) (pa_cons (pv 0) (pa_cons (pe_ty (n := "tuple") B.tuple (by decide +kernel)) pa_nil))))) (pw_or (pt_cmpR (kne K hr.units) (pe_callB (klen' K) (by rfl) B.len (by decide +kernel) (pa_cons (pv 0) pa_nil)) pe_int (nomark _)) (pw_or1 (pt_not (pt_val (pe_c (E := fun _ _ _ => False) c_is_count (hr.mono (by decide)) pass0 (pa_cons (pe_ix (kix K) (pv 0) pe_int (fun _ _ => rfl)) pa_nil))))))))
      (pss_one (ps_ret pe_bl))
      pss_nil)
      (pss_one (ps_ret (pe_and (pe_c (E := fun _ _ _ => False) c_is_broker (hr.mono (by decide)) pass0 (pa_cons (pe_ix (kix K) (pv 0) pe_int (fun _ _ => rfl)) (pa_cons (pv 1) pa_nil))) (pe_and (pe_c (E := fun _ _ _ => False) c_is_broker (hr.mono (by decide)) pass0 (pa_cons (pe_ix (kix K) (pv 0) pe_int (fun _ _ => rfl)) (pa_cons (pv 1) pa_nil))) (pe_one (pe_cmpR op_lt (pe_ix (kix K) (pv 0) pe_int (fun _ _ => rfl)) (pe_ix (kix K) (pv 0) pe_int (fun _ _ => rfl)) (nomark _)))))))), fun c => by unfold p_is_bundle; infer_instance⟩

abbrev s_are_bundles : Stmt := top 18
abbrev sc_are_bundles_N : List Str := ["thing", "size", "bundle"]
theorem sc_are_bundles : FnScope sc_are_bundles_N ["thing", "size"] (defScope s_are_bundles) := ⟨rfl, rfl, rfl, by decide +kernel, rfl, by decide +kernel, by decide +kernel⟩
theorem ok_are_bundles {A : Ad} (dd : Def K mg "are_bundles" s_are_bundles ["thing", "size"]) (B : Blt mg) {t_MOST_BUNDLES : Tok} (m_MOST_BUNDLES : mg "MOST_BUNDLES" = some (.int 45 t_MOST_BUNDLES)) (c_is_bundle : Cal P w K mg base CX0 4 "is_bundle" ["thing", "size"] (SpP K 2 (f_is_bundle A))) : Cal P w K mg base CX0 5 "are_bundles" ["thing", "size"] (SpP K 2 (f_are_bundles A)) :=
  defR (τ := p_are_bundles A) dd sc_are_bundles 1 rfl rfl fun f cdv Ar out s H E hr => ⟨_, (pss_cons (ps_if (PW.pt (pw_or (pt_not (pt_val (pe_callB (kisi K) (by rfl) B.isinstance (by decide +kernel) (pa_cons (pv 0) (pa_cons (pe_ty (n := "list") B.list (by decide +kernel)) pa_nil))))) (pw_or1 (pt_cmpR op_gt (pe_callB (klen' K) (by rfl) B.len (by decide +kernel) (pa_cons (pv 0) pa_nil)) (pe_gi m_MOST_BUNDLES) (nomark _)))))
      (pss_one (ps_ret pe_bl))
      pss_nil)
      (pss_cons (ps_if (pt_not (pt_val (pe_callB (kall K) (by rfl) B.all (by decide +kernel) (pa_cons (klc (own := [("bundle", 2)]) (vs := [2]) (g := (gName 2)) (tt := tYes) sc_are_bundles.nd (kseq K (pv 0)) (blkOk_by (own := [("bundle", 2)]) (N := sc_are_bundles_N) (sc := defScope s_are_bundles) (by decide +kernel)) (fun _ _ _ _ _ => (pg_name (i := 2) sc_are_bundles.nd rfl (Or.inl rfl))) (fun _ _ _ _ _ => pts_nil) (fun _ _ _ _ _ => (pe_c (E := fun _ _ _ => False) c_is_bundle (hr.mono (by decide)) pass0 (pa_cons (pv 2) (pa_cons (pv 1) pa_nil))))) pa_nil))))
      (pss_one (ps_ret pe_bl))
      pss_nil)
      (pss_one (ps_ret (pe_cmpR (keq K hr.units) (pe_callB (klenS K P w) (by rfl) B.len (by decide +kernel) (pa_cons (ksc K P w (own := [("bundle", 2)]) (vs := [2]) (g := (gName 2)) (tt := tYes) (su hr) sc_are_bundles.nd (kseq K (pv 0)) (blkOk_by (own := [("bundle", 2)]) (N := sc_are_bundles_N) (sc := defScope s_are_bundles) (by decide +kernel)) (fun _ _ _ _ _ => (pg_name (i := 2) sc_are_bundles.nd rfl (Or.inl rfl))) (fun _ _ _ _ _ => pts_nil) (fun _ _ _ _ _ => (pe_slice (kslice K) (pv 2) po_none (po_some pe_int)))) pa_nil)) (pe_callB (klen' K) (by rfl) B.len (by decide +kernel) (pa_cons (pv 0) pa_nil)) (nomark _)))))), fun c => by unfold p_are_bundles p_are_bundles_e1 p_are_bundles_e0; infer_instance⟩

abbrev s_Cluster___init__ : Stmt := inClass (top 39) 0
abbrev sc_Cluster___init___N : List Str := ["self", "bounds", "bundles", "number", "bundle"]
theorem sc_Cluster___init__ : FnScope sc_Cluster___init___N ["self", "bounds", "bundles"] (defScope s_Cluster___init__) := ⟨rfl, rfl, rfl, by decide +kernel, rfl, by decide +kernel, by decide +kernel⟩
theorem ok_Cluster___init__ {A : Ad} (dd : MDef K A.Cluster "__init__" "Cluster.__init__" s_Cluster___init__ ["self", "bounds", "bundles"]) (B : Blt mg) [FldOk K A.Cluster "limits"] [FldOk K A.Cluster "rows"] [FldOk K A.Cluster "numbers"] (c_are_bounds : Cal P w K mg base CX0 5 "are_bounds" ["thing"] (SpP K 1 (f_are_bounds A))) (c_are_bundles : Cal P w K mg base CX0 5 "are_bundles" ["thing", "size"] (SpP K 2 (f_are_bundles A))) : MCal P w K mg base CX0 6 A.Cluster "__init__" ["self", "bounds", "bundles"] (SpI K A.Cluster 2 (f_Clusteru_initu A)) :=
  mdefI (τ := p_Clusteru_initu A) dd sc_Cluster___init__ 2 rfl rfl fun f cdv Ar out s H E hr => ⟨_, (pss_cons (ps_if (pt_not (pt_val (pe_c (E := fun _ _ _ => False) c_are_bounds (hr.mono (by decide)) pass0 (pa_cons (pv 1) pa_nil))))
      (pss_one (ps_never))
      pss_nil)
      (pss_cons (ps_if (pt_not (pt_val (pe_c (E := fun _ _ _ => False) c_are_bundles (hr.mono (by decide)) pass0 (pa_cons (pv 2) (pa_cons (pe_callB (klen' K) (by rfl) B.len (by decide +kernel) (pa_cons (pv 1) pa_nil)) pa_nil)))))
      (pss_one (ps_never))
      pss_nil)
      (pss_cons (ksfld K A.Cluster (pv 0) (pe_callTy (klistOf K) (by rfl) B.list (by decide +kernel) (pa_cons (pv 1) pa_nil)))
      (pss_cons (ksfld K A.Cluster (pv 0) (pe_callTy (klistOf K) (by rfl) B.list (by decide +kernel) (pa_cons (pv 2) pa_nil)))
      (pss_one (ksfld K A.Cluster (pv 0) (kdc (own := [("number", 3), ("bundle", 4)]) (vs := [3, 4]) (g := (gTup K 2 (gCons (gName 3) (gCons (gName 4) gNil)))) (tt := tYes) (su hr) sc_Cluster___init__.nd (kenu K (by rfl) B.enumerate (pa_cons (pv 2) pa_nil)) (blkOk_by (own := [("number", 3), ("bundle", 4)]) (N := sc_Cluster___init___N) (sc := defScope s_Cluster___init__) (by decide +kernel)) (fun _ _ _ _ _ => (kgtup K (n := 2) (pgs_cons (pg_name (i := 3) sc_Cluster___init__.nd rfl (Or.inl rfl)) (pgs_cons (pg_name (i := 4) sc_Cluster___init__.nd rfl (Or.inl rfl)) pgs_nil)))) (fun _ _ _ _ _ => pts_nil) (fun _ _ _ _ _ => (pe_slice (kslice K) (pv 4) po_none (po_some pe_int))) (fun _ _ _ _ _ => (pv 3))))))))), fun c => by unfold p_Clusteru_initu; infer_instance⟩

abbrev s_Stopped___init__ : Stmt := inClass (top 4) 0
abbrev sc_Stopped___init___N : List Str := ["self", "block", "turn", "run"]
theorem sc_Stopped___init__ : FnScope sc_Stopped___init___N ["self", "block", "turn", "run"] (defScope s_Stopped___init__) := ⟨rfl, rfl, rfl, by decide +kernel, rfl, by decide +kernel, by decide +kernel⟩
theorem ok_Stopped___init__ {A : Ad} (dd : MDef K (A.ex .stopped) "__init__" "Stopped.__init__" s_Stopped___init__ ["self", "block", "turn", "run"]) (n_LeadError : mg "LeadError" = some (.ref (A.ex .leadError))) (BC : BaseC K (A.ex .leadError)) (x_Stopped : ExC K A .stopped) : MCal P w K mg base CX0 1 (A.ex .stopped) "__init__" ["self", "block", "turn", "run"] (SpE A .stopped) :=
  mdefE dd sc_Stopped___init__ rfl fun f cdv Ar out s H vs Q E h => ⟨_, (pss_cons (ps_expr (pe_leinit n_LeadError BC (pa_cons (pv 0) (pa_cons pe_str pa_nil)))) (pss_cons (ps_ost (pv 0) (pv 1)) (pss_cons (ps_ost (pv 0) (pv 2)) (pss_one (ps_ost (pv 0) (pv 3)))))), ex3 rfl x_Stopped rfl h⟩

abbrev s_Cluster_bundle_of : Stmt := inClass (top 39) 9
abbrev sc_Cluster_bundle_of_N : List Str := ["self", "one", "other"]
theorem sc_Cluster_bundle_of : FnScope sc_Cluster_bundle_of_N ["self", "one", "other"] (defScope s_Cluster_bundle_of) := ⟨rfl, rfl, rfl, by decide +kernel, rfl, by decide +kernel, by decide +kernel⟩
theorem ok_Cluster_bundle_of {A : Ad} (dd : MDef K A.Cluster "bundle_of" "Cluster.bundle_of" s_Cluster_bundle_of ["self", "one", "other"]) (B : Blt mg) [FldOk K A.Cluster "numbers"] : MCal P w K mg base CX0 1 A.Cluster "bundle_of" ["self", "one", "other"] (SpP K 3 (f_Cluster_bundle_of A)) :=
  mdefR (τ := p_Cluster_bundle_of A) dd sc_Cluster_bundle_of 0 rfl rfl fun f cdv Ar out s H E hr => ⟨_, (pss_one (ps_ret (pe_dget1 (u1 hr) (kfld K A.Cluster (pv 0)) (pe_tup (pa_cons (pe_callB (kmin K) (by rfl) B.min (by decide +kernel) (pa_cons (pv 1) (pa_cons (pv 2) pa_nil))) (pa_cons (pe_callB (kmax K) (by rfl) B.max (by decide +kernel) (pa_cons (pv 1) (pa_cons (pv 2) pa_nil))) pa_nil))) ⟨rfl, rfl, rfl, rfl⟩))), fun c => by unfold p_Cluster_bundle_of; infer_instance⟩

abbrev s_moved : Stmt := top 23
abbrev sc_moved_N : List Str := ["cluster", "leads", "run", "one", "other", "times", "number", "change"]
theorem sc_moved : FnScope sc_moved_N ["cluster", "leads", "run"] (defScope s_moved) := ⟨rfl, rfl, rfl, by decide +kernel, rfl, by decide +kernel, by decide +kernel⟩
theorem ok_moved {A : Ad} (dd : Def K mg "moved" s_moved ["cluster", "leads", "run"]) (B : Blt mg) (T_Cluster : ClsR K mg A.Cluster "Cluster") (c_Cluster_bundle_of : MCal P w K mg base CX0 1 A.Cluster "bundle_of" ["self", "one", "other"] (SpP K 3 (f_Cluster_bundle_of A))) : Cal P w K mg base CX0 2 "moved" ["cluster", "leads", "run"] (SpP K 3 (f_moved A)) :=
  defR (τ := p_moved A) dd sc_moved 5 rfl rfl fun f cdv Ar out s H E hr => ⟨_, (pss_cons (ps_asg (pv 2) (kgtup K (n := 3) (pgs_cons (pg_name (i := 3) sc_moved.nd rfl (Or.inl rfl)) (pgs_cons (pg_name (i := 4) sc_moved.nd rfl (Or.inl rfl)) (pgs_cons (pg_name (i := 5) sc_moved.nd rfl (Or.inl rfl)) pgs_nil)))))
      (pss_cons (ps_set (i := 6) sc_moved.nd rfl (Or.inl rfl) (pe_m (E := fun _ _ _ => False) c_Cluster_bundle_of T_Cluster.cl (hr.mono (by decide)) pass0 (pv 0) (pa_cons (pv 3) (pa_cons (pv 4) pa_nil))))
      (pss_cons (ps_set (i := 7) sc_moved.nd rfl (Or.inl rfl) (pe_ifExp (pt_cmpR op_lt (pv 3) (pv 4) (nomark _)) (pe_un un_neg (pv 5)) (pv 5)))
      (pss_one (ps_ret (pe_op (kplus K) (pe_op (kplus K) (pe_slice (kslice K) (pv 1) po_none (po_some (pv 6))) (pe_tup (pa_cons (pe_op (kplus K) (pe_ix (kix K) (pv 1) (pv 6) (fun _ _ => rfl)) (pv 7)) pa_nil))) (pe_slice (kslice K) (pv 1) (po_some (pe_op (kplus K) (pv 6) pe_int)) po_none))))))), fun c => by unfold p_moved; infer_instance⟩

abbrev s_after_turn : Stmt := top 33
abbrev sc_after_turn_N : List Str := ["cluster", "leads", "runs", "run"]
theorem sc_after_turn : FnScope sc_after_turn_N ["cluster", "leads", "runs"] (defScope s_after_turn) := ⟨rfl, rfl, rfl, by decide +kernel, rfl, by decide +kernel, by decide +kernel⟩
theorem ok_after_turn {A : Ad} (dd : Def K mg "after_turn" s_after_turn ["cluster", "leads", "runs"]) (B : Blt mg) (c_moved : Cal P w K mg base CX0 2 "moved" ["cluster", "leads", "run"] (SpP K 3 (f_moved A))) : Cal P w K mg base CX0 3 "after_turn" ["cluster", "leads", "runs"] (SpP K 3 (f_after_turn A)) :=
  defR (τ := p_after_turn A) dd sc_after_turn 1 rfl rfl fun f cdv Ar out s H E hr => ⟨_, (pss_cons (ps_for PassesOwn.never rfl (kseq K (pv 2)) (pg_name (i := 3) sc_after_turn.nd rfl (Or.inl rfl))
      (pss_one (ps_set (i := 1) sc_after_turn.nd rfl (Or.inl rfl) (pe_c (E := fun _ _ _ => False) c_moved (hr.mono (by decide)) pass0 (pa_cons (pv 0) (pa_cons (pv 1) (pa_cons (pv 3) pa_nil)))))))
      (pss_one (ps_ret (pv 1)))), fun c => by unfold p_after_turn p_after_turn_b0 p_after_turn_g0; infer_instance⟩

abbrev s_Cluster_size : Stmt := inClass (top 39) 3
abbrev sc_Cluster_size_N : List Str := ["self"]
theorem sc_Cluster_size : FnScope sc_Cluster_size_N ["self"] (defScope s_Cluster_size) := ⟨rfl, rfl, rfl, by decide +kernel, rfl, by decide +kernel, by decide +kernel⟩
theorem ok_Cluster_size {A : Ad} (dd : MDef K A.Cluster "size" "Cluster.size" s_Cluster_size ["self"]) (B : Blt mg) [FldOk K A.Cluster "limits"] : MCal P w K mg base CX0 1 A.Cluster "size" ["self"] (SpP K 1 (f_Cluster_size A)) :=
  mdefR (τ := p_Cluster_size A) dd sc_Cluster_size 0 rfl rfl fun f cdv Ar out s H E hr => ⟨_, (pss_one (ps_ret (pe_callB (klen' K) (by rfl) B.len (by decide +kernel) (pa_cons (kfld K A.Cluster (pv 0)) pa_nil)))), fun c => by unfold p_Cluster_size; infer_instance⟩

abbrev s_Cluster_bundles : Stmt := inClass (top 39) 5
abbrev sc_Cluster_bundles_N : List Str := ["self"]
theorem sc_Cluster_bundles : FnScope sc_Cluster_bundles_N ["self"] (defScope s_Cluster_bundles) := ⟨rfl, rfl, rfl, by decide +kernel, rfl, by decide +kernel, by decide +kernel⟩
theorem ok_Cluster_bundles {A : Ad} (dd : MDef K A.Cluster "bundles" "Cluster.bundles" s_Cluster_bundles ["self"]) (B : Blt mg) [FldOk K A.Cluster "rows"] : MCal P w K mg base CX0 1 A.Cluster "bundles" ["self"] (SpP K 1 (f_Cluster_bundles A)) :=
  mdefR (τ := p_Cluster_bundles A) dd sc_Cluster_bundles 0 rfl rfl fun f cdv Ar out s H E hr => ⟨_, (pss_one (ps_ret (pe_callTy (klistOf K) (by rfl) B.list (by decide +kernel) (pa_cons (kfld K A.Cluster (pv 0)) pa_nil)))), fun c => by unfold p_Cluster_bundles; infer_instance⟩

abbrev s_loads : Stmt := top 21
abbrev sc_loads_N : List Str := ["cluster", "leads", "found", "led_by_first", "first", "second", "partitions"]
theorem sc_loads : FnScope sc_loads_N ["cluster", "leads"] (defScope s_loads) := ⟨rfl, rfl, rfl, by decide +kernel, rfl, by decide +kernel, by decide +kernel⟩
theorem ok_loads {A : Ad} (dd : Def K mg "loads" s_loads ["cluster", "leads"]) (B : Blt mg) (T_Cluster : ClsR K mg A.Cluster "Cluster") (c_Cluster_size : MCal P w K mg base CX0 1 A.Cluster "size" ["self"] (SpP K 1 (f_Cluster_size A))) (c_Cluster_bundles : MCal P w K mg base CX0 1 A.Cluster "bundles" ["self"] (SpP K 1 (f_Cluster_bundles A))) : Cal P w K mg base CX0 2 "loads" ["cluster", "leads"] (SpP K 2 (f_loads A)) :=
  defR (τ := p_loads A) dd sc_loads 5 rfl rfl fun f cdv Ar out s H E hr => ⟨_, (pss_cons (ps_set (i := 2) sc_loads.nd rfl (Or.inl rfl) (pe_op ktimes (pe_lst (pa_cons pe_int pa_nil)) (pe_m0 (E := fun _ _ _ => False) c_Cluster_size T_Cluster.cl (hr.mono (by decide)) pass0 (pv 0))))
      (pss_cons (ps_for PassesOwn.never rfl (kzip K (by rfl) B.zip (pa_cons (pv 1) (pa_cons (pe_m0 (E := fun _ _ _ => False) c_Cluster_bundles T_Cluster.cl (hr.mono (by decide)) pass0 (pv 0)) pa_nil))) (kgtup K (n := 2) (pgs_cons (pg_name (i := 3) sc_loads.nd rfl (Or.inl rfl)) (pgs_cons (kgtup K (n := 3) (pgs_cons (pg_name (i := 4) sc_loads.nd rfl (Or.inl rfl)) (pgs_cons (pg_name (i := 5) sc_loads.nd rfl (Or.inl rfl)) (pgs_cons (pg_name (i := 6) sc_loads.nd rfl (Or.inl rfl)) pgs_nil)))) pgs_nil)))
      (pss_cons (ps_augS (pv 2) (pv 4) (kget K) (pv 3) ip_add set_list)
      (pss_one (ps_augS (pv 2) (pv 5) (kget K) (pe_op op_sub (pv 6) (pv 3)) ip_add set_list))))
      (pss_one (ps_ret (pv 2))))), fun c => by unfold p_loads p_loads_b0 p_loads_g0; infer_instance⟩

abbrev s_Cluster_floor : Stmt := inClass (top 39) 6
abbrev sc_Cluster_floor_N : List Str := ["self", "broker"]
theorem sc_Cluster_floor : FnScope sc_Cluster_floor_N ["self", "broker"] (defScope s_Cluster_floor) := ⟨rfl, rfl, rfl, by decide +kernel, rfl, by decide +kernel, by decide +kernel⟩
theorem ok_Cluster_floor {A : Ad} (dd : MDef K A.Cluster "floor" "Cluster.floor" s_Cluster_floor ["self", "broker"]) (B : Blt mg) [FldOk K A.Cluster "limits"] : MCal P w K mg base CX0 1 A.Cluster "floor" ["self", "broker"] (SpP K 2 (f_Cluster_floor A)) :=
  mdefR (τ := p_Cluster_floor A) dd sc_Cluster_floor 0 rfl rfl fun f cdv Ar out s H E hr => ⟨_, (pss_one (ps_ret (pe_ix (kix K) (pe_ix (kix K) (kfld K A.Cluster (pv 0)) (pv 1) (fun _ _ => rfl)) pe_int (fun _ _ => rfl)))), fun c => by unfold p_Cluster_floor; infer_instance⟩

abbrev s_Cluster_ceiling : Stmt := inClass (top 39) 7
abbrev sc_Cluster_ceiling_N : List Str := ["self", "broker"]
theorem sc_Cluster_ceiling : FnScope sc_Cluster_ceiling_N ["self", "broker"] (defScope s_Cluster_ceiling) := ⟨rfl, rfl, rfl, by decide +kernel, rfl, by decide +kernel, by decide +kernel⟩
theorem ok_Cluster_ceiling {A : Ad} (dd : MDef K A.Cluster "ceiling" "Cluster.ceiling" s_Cluster_ceiling ["self", "broker"]) (B : Blt mg) [FldOk K A.Cluster "limits"] : MCal P w K mg base CX0 1 A.Cluster "ceiling" ["self", "broker"] (SpP K 2 (f_Cluster_ceiling A)) :=
  mdefR (τ := p_Cluster_ceiling A) dd sc_Cluster_ceiling 0 rfl rfl fun f cdv Ar out s H E hr => ⟨_, (pss_one (ps_ret (pe_ix (kix K) (pe_ix (kix K) (kfld K A.Cluster (pv 0)) (pv 1) (fun _ _ => rfl)) pe_int (fun _ _ => rfl)))), fun c => by unfold p_Cluster_ceiling; infer_instance⟩

abbrev s_led : Stmt := top 20
abbrev sc_led_N : List Str := ["cluster", "leads", "one", "other", "number"]
theorem sc_led : FnScope sc_led_N ["cluster", "leads", "one", "other"] (defScope s_led) := ⟨rfl, rfl, rfl, by decide +kernel, rfl, by decide +kernel, by decide +kernel⟩
theorem ok_led {A : Ad} (dd : Def K mg "led" s_led ["cluster", "leads", "one", "other"]) (B : Blt mg) (T_Cluster : ClsR K mg A.Cluster "Cluster") (c_Cluster_bundle_of : MCal P w K mg base CX0 1 A.Cluster "bundle_of" ["self", "one", "other"] (SpP K 3 (f_Cluster_bundle_of A))) (c_Cluster_bundles : MCal P w K mg base CX0 1 A.Cluster "bundles" ["self"] (SpP K 1 (f_Cluster_bundles A))) : Cal P w K mg base CX0 2 "led" ["cluster", "leads", "one", "other"] (SpP K 4 (f_led A)) :=
  defR (τ := p_led A) dd sc_led 1 rfl rfl fun f cdv Ar out s H E hr => ⟨_, (pss_cons (ps_set (i := 4) sc_led.nd rfl (Or.inl rfl) (pe_m (E := fun _ _ _ => False) c_Cluster_bundle_of T_Cluster.cl (hr.mono (by decide)) pass0 (pv 0) (pa_cons (pv 2) (pa_cons (pv 3) pa_nil))))
      (pss_cons (ps_if (pt_cmpR kisN (pv 4) pe_non (nomark _))
      (pss_one (ps_ret pe_int))
      pss_nil)
      (pss_cons (ps_if (pt_cmpR op_lt (pv 2) (pv 3) (nomark _))
      (pss_one (ps_ret (pe_ix (kix K) (pv 1) (pv 4) (fun _ _ => rfl))))
      pss_nil)
      (pss_one (ps_ret (pe_op op_sub (pe_ix (kix K) (pe_ix (kix K) (pe_m0 (E := fun _ _ _ => False) c_Cluster_bundles T_Cluster.cl (hr.mono (by decide)) pass0 (pv 0)) (pv 4) (fun _ _ => rfl)) pe_int (fun _ _ => rfl)) (pe_ix (kix K) (pv 1) (pv 4) (fun _ _ => rfl)))))))), fun c => by unfold p_led; infer_instance⟩

abbrev s_spares : Stmt := top 24
abbrev sc_spares_N : List Str := ["cluster", "leads", "run", "one", "other", "times", "found", "above", "below"]
theorem sc_spares : FnScope sc_spares_N ["cluster", "leads", "run"] (defScope s_spares) := ⟨rfl, rfl, rfl, by decide +kernel, rfl, by decide +kernel, by decide +kernel⟩
theorem ok_spares {A : Ad} (dd : Def K mg "spares" s_spares ["cluster", "leads", "run"]) (B : Blt mg) (T_Cluster : ClsR K mg A.Cluster "Cluster") (c_loads : Cal P w K mg base CX0 2 "loads" ["cluster", "leads"] (SpP K 2 (f_loads A))) (c_Cluster_floor : MCal P w K mg base CX0 1 A.Cluster "floor" ["self", "broker"] (SpP K 2 (f_Cluster_floor A))) (c_Cluster_ceiling : MCal P w K mg base CX0 1 A.Cluster "ceiling" ["self", "broker"] (SpP K 2 (f_Cluster_ceiling A))) (c_led : Cal P w K mg base CX0 2 "led" ["cluster", "leads", "one", "other"] (SpP K 4 (f_led A))) : Cal P w K mg base CX0 3 "spares" ["cluster", "leads", "run"] (SpP K 3 (f_spares A)) :=
  defR (τ := p_spares A) dd sc_spares 6 rfl rfl fun f cdv Ar out s H E hr => ⟨_, (pss_cons (ps_asg (pv 2) (kgtup K (n := 3) (pgs_cons (pg_name (i := 3) sc_spares.nd rfl (Or.inl rfl)) (pgs_cons (pg_name (i := 4) sc_spares.nd rfl (Or.inl rfl)) (pgs_cons (pg_name (i := 5) sc_spares.nd rfl (Or.inl rfl)) pgs_nil)))))
      (pss_cons (ps_set (i := 6) sc_spares.nd rfl (Or.inl rfl) (pe_c (E := fun _ _ _ => False) c_loads (hr.mono (by decide)) pass0 (pa_cons (pv 0) (pa_cons (pv 1) pa_nil))))
      (pss_cons (ps_par (i := 7) (j := 8) (by rfl) sc_spares.nd rfl rfl (by decide) rfl rfl (pa_cons (pe_op op_sub (pe_ix (kix K) (pv 6) (pv 3) (fun _ _ => rfl)) (pe_m (E := fun _ _ _ => False) c_Cluster_floor T_Cluster.cl (hr.mono (by decide)) pass0 (pv 0) (pa_cons (pv 3) pa_nil))) (pa_cons (pe_op op_sub (pe_m (E := fun _ _ _ => False) c_Cluster_ceiling T_Cluster.cl (hr.mono (by decide)) pass0 (pv 0) (pa_cons (pv 4) pa_nil)) (pe_ix (kix K) (pv 6) (pv 4) (fun _ _ => rfl))) pa_nil)) (by rfl))
      (pss_one (ps_ret (pe_lst (pa_cons (pe_op op_sub (pe_c (E := fun _ _ _ => False) c_led (hr.mono (by decide)) pass0 (pa_cons (pv 0) (pa_cons (pv 1) (pa_cons (pv 3) (pa_cons (pv 4) pa_nil))))) (pv 5)) (pa_cons (pe_op op_sub (pv 7) (pv 5)) (pa_cons (pe_op op_sub (pv 8) (pv 5)) pa_nil))))))))), fun c => by unfold p_spares; infer_instance⟩

abbrev s_first_stop : Stmt := top 34
abbrev sc_first_stop_N : List Str := ["cluster", "leads", "runs", "now", "later", "found", "number", "run", "spare", "then", "turn"]
theorem sc_first_stop : FnScope sc_first_stop_N ["cluster", "leads", "runs"] (defScope s_first_stop) := ⟨rfl, rfl, rfl, by decide +kernel, rfl, by decide +kernel, by decide +kernel⟩
theorem ok_first_stop {A : Ad} (dd : Def K mg "first_stop" s_first_stop ["cluster", "leads", "runs"]) (B : Blt mg) (c_after_turn : Cal P w K mg base CX0 3 "after_turn" ["cluster", "leads", "runs"] (SpP K 3 (f_after_turn A))) (c_spares : Cal P w K mg base CX0 3 "spares" ["cluster", "leads", "run"] (SpP K 3 (f_spares A))) (c_moved : Cal P w K mg base CX0 2 "moved" ["cluster", "leads", "run"] (SpP K 3 (f_moved A))) : Cal P w K mg base CX0 4 "first_stop" ["cluster", "leads", "runs"] (SpP K 3 (f_first_stop A)) :=
  defR (τ := p_first_stop A) dd sc_first_stop 8 rfl rfl fun f cdv Ar out s H E hr => ⟨_, (pss_cons (ps_par (i := 3) (j := 4) (by rfl) sc_first_stop.nd rfl rfl (by decide) rfl rfl (pa_cons (pv 1) (pa_cons (pe_c (E := fun _ _ _ => False) c_after_turn (hr.mono (by decide)) pass0 (pa_cons (pv 0) (pa_cons (pv 1) (pa_cons (pv 2) pa_nil)))) pa_nil)) (by rfl))
      (pss_cons (ps_set (i := 5) sc_first_stop.nd rfl (Or.inl rfl) pe_non)
      (pss_cons (ps_for PassesOwn.never rfl (kenu K (by rfl) B.enumerate (pa_cons (pv 2) pa_nil)) (kgtup K (n := 2) (pgs_cons (pg_name (i := 6) sc_first_stop.nd rfl (Or.inl rfl)) (pgs_cons (pg_name (i := 7) sc_first_stop.nd rfl (Or.inl rfl)) pgs_nil)))
      (pss_cons (ps_for PassesOwn.never rfl (kzip K (by rfl) B.zip (pa_cons (pe_c (E := fun _ _ _ => False) c_spares (hr.mono (by decide)) pass0 (pa_cons (pv 0) (pa_cons (pv 3) (pa_cons (pv 7) pa_nil)))) (pa_cons (pe_c (E := fun _ _ _ => False) c_spares (hr.mono (by decide)) pass0 (pa_cons (pv 0) (pa_cons (pv 4) (pa_cons (pv 7) pa_nil)))) pa_nil))) (kgtup K (n := 2) (pgs_cons (pg_name (i := 8) sc_first_stop.nd rfl (Or.inl rfl)) (pgs_cons (pg_name (i := 9) sc_first_stop.nd rfl (Or.inl rfl)) pgs_nil)))
      (pss_cons (ps_set (i := 10) sc_first_stop.nd rfl (Or.inl rfl) pe_non)
      (pss_cons (ps_if (pt_cmpR op_lt (pv 8) pe_int (nomark _))
      (pss_one (ps_set (i := 10) sc_first_stop.nd rfl (Or.inl rfl) pe_int))
      (pss_one (ps_if (pt_cmpR op_lt (pv 9) (pv 8) (nomark _))
      (pss_one (ps_set (i := 10) sc_first_stop.nd rfl (Or.inl rfl) (pe_op (kplus K) (pe_op op_fdivW (pv 8) (pe_op op_sub (pv 8) (pv 9))) pe_int)))
      pss_nil)))
      (pss_one (ps_if (PW.pt (pw_and (pt_cmpR knotN (pv 10) pe_non (nomark _)) (pw_and1 (PW.pt (pw_or (pt_cmpR kisN (pv 5) pe_non (nomark _)) (pw_or1 (pt_cmpR op_lt (pv 10) (pe_ix (kix K) (pv 5) pe_int (fun _ _ => rfl)) (nomark _))))))))
      (pss_one (ps_set (i := 5) sc_first_stop.nd rfl (Or.inl rfl) (pe_tup (pa_cons (pv 10) (pa_cons (pv 6) pa_nil)))))
      pss_nil)))))
      (pss_one (ps_par (i := 3) (j := 4) (by rfl) sc_first_stop.nd rfl rfl (by decide) rfl rfl (pa_cons (pe_c (E := fun _ _ _ => False) c_moved (hr.mono (by decide)) pass0 (pa_cons (pv 0) (pa_cons (pv 3) (pa_cons (pv 7) pa_nil)))) (pa_cons (pe_c (E := fun _ _ _ => False) c_moved (hr.mono (by decide)) pass0 (pa_cons (pv 0) (pa_cons (pv 4) (pa_cons (pv 7) pa_nil)))) pa_nil)) (by rfl)))))
      (pss_one (ps_ret (pv 5)))))), fun c => by unfold p_first_stop p_first_stop_b1 p_first_stop_g1 p_first_stop_b0 p_first_stop_g0; infer_instance⟩

abbrev s_play : Stmt := top 35
abbrev sc_play_N : List Str := ["cluster", "leads", "plan", "block", "turns", "runs", "stop", "later", "now", "then"]
theorem sc_play : FnScope sc_play_N ["cluster", "leads", "plan"] (defScope s_play) := ⟨rfl, rfl, rfl, by decide +kernel, rfl, by decide +kernel, by decide +kernel⟩
theorem ok_play {A : Ad} (dd : Def K mg "play" s_play ["cluster", "leads", "plan"]) (B : Blt mg) (c_Stopped___init__ : MCal P w K mg base CX0 1 (A.ex .stopped) "__init__" ["self", "block", "turn", "run"] (SpE A .stopped)) (c_first_stop : Cal P w K mg base CX0 4 "first_stop" ["cluster", "leads", "runs"] (SpP K 3 (f_first_stop A))) (c_after_turn : Cal P w K mg base CX0 3 "after_turn" ["cluster", "leads", "runs"] (SpP K 3 (f_after_turn A))) (n_Stopped : mg "Stopped" = some (.ref (A.ex .stopped))) (x_Stopped : ExC K A .stopped) : Cal P w K mg base (L2.CX P w) 5 "play" ["cluster", "leads", "plan"] (SpX K A 3 (f_play A)) :=
  defX (τ := p_play A) dd sc_play 7 rfl rfl fun f cdv Ar out s H E hr => ⟨_, (pss_cons (ps_for (passes_of rfl) rfl (kenu K (by rfl) B.enumerate (pa_cons (pv 2) pa_nil)) (kgtup K (n := 2) (pgs_cons (pg_name (i := 3) sc_play.nd rfl (Or.inl rfl)) (pgs_cons (kgtup K (n := 2) (pgs_cons (pg_name (i := 4) sc_play.nd rfl (Or.inr rfl)) (pgs_cons (pg_name (i := 5) sc_play.nd rfl (Or.inl rfl)) pgs_nil))) pgs_nil)))
      (pss_cons (ps_set (i := 6) sc_play.nd rfl (Or.inl rfl) (pe_c (E := fun _ _ _ => False) c_first_stop (hr.mono (by decide)) pass0 (pa_cons (pv 0) (pa_cons (pv 1) (pa_cons (pv 5) pa_nil)))))
      (pss_cons (ps_if (PW.pt (pw_and (pt_cmpR knotN (pv 6) pe_non (nomark _)) (pw_and1 (pt_cmpR op_lt (pe_ix (kix K) (pv 6) pe_int (fun _ _ => rfl)) (pv 4) (nomark _)))))
      (pss_one (ps_raiseX (takes_of rfl rfl rfl rfl) (pmk_E x_Stopped c_Stopped___init__ (hr.mono (by decide)) n_Stopped (pa_cons (pv 3) (pa_cons (pe_ix (kix K) (pv 6) pe_int (fun _ _ => rfl)) (pa_cons (pe_ix (kix K) (pv 6) pe_int (fun _ _ => rfl)) pa_nil))))))
      pss_nil)
      (pss_cons (ps_set (i := 7) sc_play.nd rfl (Or.inl rfl) (pe_c (E := fun _ _ _ => False) c_after_turn (hr.mono (by decide)) pass0 (pa_cons (pv 0) (pa_cons (pv 1) (pa_cons (pv 5) pa_nil)))))
      (pss_one (ps_set (i := 1) sc_play.nd rfl (Or.inl rfl) (pe_callTy (ktupOf K) (by rfl) B.tuple (by decide +kernel) (pa_cons (klc (own := [("now", 8), ("then", 9)]) (vs := [8, 9]) (g := (gTup K 2 (gCons (gName 8) (gCons (gName 9) gNil)))) (tt := tYes) sc_play.nd (kzip K (by rfl) B.zip (pa_cons (pv 1) (pa_cons (pv 7) pa_nil))) (blkOk_by (own := [("now", 8), ("then", 9)]) (N := sc_play_N) (sc := defScope s_play) (by decide +kernel)) (fun _ _ _ _ _ => (kgtup K (n := 2) (pgs_cons (pg_name (i := 8) sc_play.nd rfl (Or.inl rfl)) (pgs_cons (pg_name (i := 9) sc_play.nd rfl (Or.inl rfl)) pgs_nil)))) (fun _ _ _ _ _ => pts_nil) (fun _ _ _ _ _ => (pe_op (kplus K) (pv 8) (pe_op ktimes (pv 4) (pe_op op_sub (pv 9) (pv 8)))))) pa_nil))))))))
      (pss_one (ps_ret (pv 1)))), fun c X0 _ => by unfold p_play p_play_b0 p_play_g0 p_play_e0; exact (ssSeq (ssFor inferInstance (fun _ => inferInstance) (fun _ _ => (ssSeq inferInstance (ssSeq (ssIf inferInstance inferInstance inferInstance) (ssSeq inferInstance inferInstance))))) inferInstance)⟩

abbrev s__law_told : Stmt := top 44
abbrev sc__law_told_N : List Str := ["_law_cluster", "_law_leads", "_law_plan", "e"]
theorem sc__law_told : FnScope sc__law_told_N ["_law_cluster", "_law_leads", "_law_plan"] (defScope s__law_told) := ⟨rfl, rfl, rfl, by decide +kernel, rfl, by decide +kernel, by decide +kernel⟩
theorem ok__law_told {A : Ad} (dd : Def K mg "_law_told" s__law_told ["_law_cluster", "_law_leads", "_law_plan"]) (B : Blt mg) (c_play : Cal P w K mg base (L2.CX P w) 5 "play" ["cluster", "leads", "plan"] (SpX K A 3 (f_play A))) (n_LeadError : mg "LeadError" = some (.ref (A.ex .leadError))) (n_Stopped : mg "Stopped" = some (.ref (A.ex .stopped))) [EF : ExF K A [.leadError, .stopped]] : Cal P w K mg base CX0 6 "_law_told" ["_law_cluster", "_law_leads", "_law_plan"] (SpP K 3 (f__law_told_2 A)) :=
  defR (τ := p__law_told_2 A) dd sc__law_told 1 rfl rfl fun f cdv Ar out s H E hr => ⟨_, (pss_one (ktry_as K (i := 3) sc__law_told.nd rfl rfl ⟨rfl, by decide, .inl n_LeadError⟩ takesN
      (fun W1 pn1 xe1 tk1 po1 => (pss_one (ps_ret (pe_tup (pa_cons pe_str (pa_cons (pe_cS c_play (hr.mono (by decide)) tk1 (pa_cons (pv 0) (pa_cons (pv 1) (pa_cons (pv 2) pa_nil)))) pa_nil))))))
      (fun a1 oe1 cls1 d1 pn1 hz1 hf1 => (pss_one (ps_ret (pe_ifExp (pt_val (pe_callB (call_isX K hz1 hf1) (by rfl) B.isinstance (by decide +kernel) (pa_cons (pv 3) (pa_cons (pe_glob (v := .ref (A.ex .stopped)) (by rfl) n_Stopped rfl) pa_nil)))) (pe_tup (pa_cons pe_str (pa_cons (pe_xfA K hz1 hf1 (pv 3)) (pa_cons (pe_xfA K hz1 hf1 (pv 3)) (pa_cons (pe_xfA K hz1 hf1 (pv 3)) pa_nil))))) (pe_tup (pa_cons pe_str pa_nil)))))))), fun c => by unfold p__law_told_2; exact (ssTryAs inferInstance inferInstance inferInstance (fun _ _ _ => inferInstance) (fun _ _ _ _ _ _ => inferInstance))⟩

abbrev s__law_alike : Stmt := top 43
abbrev sc__law_alike_N : List Str := ["_law_found", "_law_due"]
theorem sc__law_alike : FnScope sc__law_alike_N ["_law_found", "_law_due"] (defScope s__law_alike) := ⟨rfl, rfl, rfl, by decide +kernel, rfl, by decide +kernel, by decide +kernel⟩
theorem ok__law_alike {A : Ad} (dd : Def K mg "_law_alike" s__law_alike ["_law_found", "_law_due"]) (B : Blt mg) : CalG P w K mg base CX0 1 "_law_alike" ["_law_found", "_law_due"] (SpP K 2 (f__law_alike A)) :=
  defRG (τ := p__law_alike A) dd sc__law_alike 0 rfl rfl fun f cdv Ar out s H E hgu hr => ⟨_, (pss_one (ps_ret (pe_and (pe_cmpR (keq K hr.units) (pv 0) (pv 1) (nomark _)) (pe_one (pe_cmpR op_eq (pe_callB (krepr K hgu hr.units) (by rfl) B.repr (by decide +kernel) (pa_cons (pv 0) pa_nil)) (pe_callB (krepr K hgu hr.units) (by rfl) B.repr (by decide +kernel) (pa_cons (pv 1) pa_nil)) (nomark _)))))), fun c => by unfold p__law_alike; infer_instance⟩

abbrev s_is_run : Stmt := top 29
abbrev sc_is_run_N : List Str := ["thing", "size"]
theorem sc_is_run : FnScope sc_is_run_N ["thing", "size"] (defScope s_is_run) := ⟨rfl, rfl, rfl, by decide +kernel, rfl, by decide +kernel, by decide +kernel⟩
theorem ok_is_run {A : Ad} (dd : Def K mg "is_run" s_is_run ["thing", "size"]) (B : Blt mg) (c_is_broker : Cal P w K mg base CX0 3 "is_broker" ["thing", "size"] (SpP K 2 (f_is_broker A))) (c_is_count : Cal P w K mg base CX0 3 "is_count" ["thing"] (SpP K 1 (f_is_count A))) : Cal P w K mg base CX0 4 "is_run" ["thing", "size"] (SpP K 2 (f_is_run A)) :=
  defR (τ := p_is_run A) dd sc_is_run 0 rfl rfl fun f cdv Ar out s H E hr => ⟨_, (pss_cons (ps_if (PW.pt (pw_or (pt_not (pt_val (pe_callB (kisi K) (by rfl) B.isinstance (by decide +kernel) (pa_cons (pv 0) (pa_cons (pe_ty (n := "tuple") B.tuple (by decide +kernel)) pa_nil))))) (pw_or (pt_cmpR (kne K hr.units) (pe_callB (klen' K) (by rfl) B.len (by decide +kernel) (pa_cons (pv 0) pa_nil)) pe_int (nomark _)) (pw_or1 (pt_not (pt_val (pe_c (E := fun _ _ _ => False) c_is_count (hr.mono (by decide)) pass0 (pa_cons (pe_ix (kix K) (pv 0) pe_int (fun _ _ => rfl)) pa_nil))))))))
      (pss_one (ps_ret pe_bl))
      pss_nil)
      (pss_one (ps_ret (pe_and (pe_c (E := fun _ _ _ => False) c_is_broker (hr.mono (by decide)) pass0 (pa_cons (pe_ix (kix K) (pv 0) pe_int (fun _ _ => rfl)) (pa_cons (pv 1) pa_nil))) (pe_and (pe_c (E := fun _ _ _ => False) c_is_broker (hr.mono (by decide)) pass0 (pa_cons (pe_ix (kix K) (pv 0) pe_int (fun _ _ => rfl)) (pa_cons (pv 1) pa_nil))) (pe_one (pe_cmpR (kne K hr.units) (pe_ix (kix K) (pv 0) pe_int (fun _ _ => rfl)) (pe_ix (kix K) (pv 0) pe_int (fun _ _ => rfl)) (nomark _)))))))), fun c => by unfold p_is_run; infer_instance⟩

abbrev s_is_block : Stmt := top 30
abbrev sc_is_block_N : List Str := ["thing", "size", "run"]
theorem sc_is_block : FnScope sc_is_block_N ["thing", "size"] (defScope s_is_block) := ⟨rfl, rfl, rfl, by decide +kernel, rfl, by decide +kernel, by decide +kernel⟩
theorem ok_is_block {A : Ad} (dd : Def K mg "is_block" s_is_block ["thing", "size"]) (B : Blt mg) {t_MOST_IN_BLOCK : Tok} (m_MOST_IN_BLOCK : mg "MOST_IN_BLOCK" = some (.int 1000 t_MOST_IN_BLOCK)) (c_is_count : Cal P w K mg base CX0 3 "is_count" ["thing"] (SpP K 1 (f_is_count A))) (c_is_run : Cal P w K mg base CX0 4 "is_run" ["thing", "size"] (SpP K 2 (f_is_run A))) : Cal P w K mg base CX0 5 "is_block" ["thing", "size"] (SpP K 2 (f_is_block A)) :=
  defR (τ := p_is_block A) dd sc_is_block 1 rfl rfl fun f cdv Ar out s H E hr => ⟨_, (pss_cons (ps_if (PW.pt (pw_or (pt_not (pt_val (pe_callB (kisi K) (by rfl) B.isinstance (by decide +kernel) (pa_cons (pv 0) (pa_cons (pe_ty (n := "tuple") B.tuple (by decide +kernel)) pa_nil))))) (pw_or (pt_cmpR (kne K hr.units) (pe_callB (klen' K) (by rfl) B.len (by decide +kernel) (pa_cons (pv 0) pa_nil)) pe_int (nomark _)) (pw_or1 (pt_not (pt_val (pe_c (E := fun _ _ _ => False) c_is_count (hr.mono (by decide)) pass0 (pa_cons (pe_ix (kix K) (pv 0) pe_int (fun _ _ => rfl)) pa_nil))))))))
      (pss_one (ps_ret pe_bl))
      pss_nil)
      (pss_cons (ps_if (PW.pt (pw_or (pt_not (pt_val (pe_callB (kisi K) (by rfl) B.isinstance (by decide +kernel) (pa_cons (pe_ix (kix K) (pv 0) pe_int (fun _ _ => rfl)) (pa_cons (pe_ty (n := "list") B.list (by decide +kernel)) pa_nil))))) (pw_or1 (pt_not (pt_chain op_le op_le pe_int (pe_callB (klen' K) (by rfl) B.len (by decide +kernel) (pa_cons (pe_ix (kix K) (pv 0) pe_int (fun _ _ => rfl)) pa_nil)) (pe_gi m_MOST_IN_BLOCK))))))
      (pss_one (ps_ret pe_bl))
      pss_nil)
      (pss_one (ps_ret (pe_callB (kall K) (by rfl) B.all (by decide +kernel) (pa_cons (klc (own := [("run", 2)]) (vs := [2]) (g := (gName 2)) (tt := tYes) sc_is_block.nd (kseq K (pe_ix (kix K) (pv 0) pe_int (fun _ _ => rfl))) (blkOk_by (own := [("run", 2)]) (N := sc_is_block_N) (sc := defScope s_is_block) (by decide +kernel)) (fun _ _ _ _ _ => (pg_name (i := 2) sc_is_block.nd rfl (Or.inl rfl))) (fun _ _ _ _ _ => pts_nil) (fun _ _ _ _ _ => (pe_c (E := fun _ _ _ => False) c_is_run (hr.mono (by decide)) pass0 (pa_cons (pv 2) (pa_cons (pv 1) pa_nil))))) pa_nil)))))), fun c => by unfold p_is_block p_is_block_e0; infer_instance⟩

abbrev s_are_blocks : Stmt := top 31
abbrev sc_are_blocks_N : List Str := ["thing", "size", "turns", "runs", "block"]
theorem sc_are_blocks : FnScope sc_are_blocks_N ["thing", "size"] (defScope s_are_blocks) := ⟨rfl, rfl, rfl, by decide +kernel, rfl, by decide +kernel, by decide +kernel⟩
theorem ok_are_blocks {A : Ad} (dd : Def K mg "are_blocks" s_are_blocks ["thing", "size"]) (B : Blt mg) {t_MOST_BLOCKS : Tok} (m_MOST_BLOCKS : mg "MOST_BLOCKS" = some (.int 400 t_MOST_BLOCKS)) {t_MOST_RUNS : Tok} (m_MOST_RUNS : mg "MOST_RUNS" = some (.int 4000 t_MOST_RUNS)) (c_is_block : Cal P w K mg base CX0 5 "is_block" ["thing", "size"] (SpP K 2 (f_is_block A))) : Cal P w K mg base CX0 6 "are_blocks" ["thing", "size"] (SpP K 2 (f_are_blocks A)) :=
  defR (τ := p_are_blocks A) dd sc_are_blocks 3 rfl rfl fun f cdv Ar out s H E hr => ⟨_, (pss_cons (ps_if (PW.pt (pw_or (pt_not (pt_val (pe_callB (kisi K) (by rfl) B.isinstance (by decide +kernel) (pa_cons (pv 0) (pa_cons (pe_ty (n := "list") B.list (by decide +kernel)) pa_nil))))) (pw_or (pt_cmpR op_gt (pe_callB (klen' K) (by rfl) B.len (by decide +kernel) (pa_cons (pv 0) pa_nil)) (pe_gi m_MOST_BLOCKS) (nomark _)) (pw_or1 (pt_not (pt_val (pe_callB (kall K) (by rfl) B.all (by decide +kernel) (pa_cons (klc (own := [("block", 4)]) (vs := [4]) (g := (gName 4)) (tt := tYes) sc_are_blocks.nd (kseq K (pv 0)) (blkOk_by (own := [("block", 4)]) (N := sc_are_blocks_N) (sc := defScope s_are_blocks) (by decide +kernel)) (fun _ _ _ _ _ => (pg_name (i := 4) sc_are_blocks.nd rfl (Or.inl rfl))) (fun _ _ _ _ _ => pts_nil) (fun _ _ _ _ _ => (pe_c (E := fun _ _ _ => False) c_is_block (hr.mono (by decide)) pass0 (pa_cons (pv 4) (pa_cons (pv 1) pa_nil))))) pa_nil))))))))
      (pss_one (ps_ret pe_bl))
      pss_nil)
      (pss_one (ps_ret (pe_cmpR op_le (pe_callB (ksum K) (by rfl) B.sum (by decide +kernel) (pa_cons (klc (own := [("turns", 2), ("runs", 3)]) (vs := [2, 3]) (g := (gTup K 2 (gCons (gName 2) (gCons (gName 3) gNil)))) (tt := tYes) sc_are_blocks.nd (kseq K (pv 0)) (blkOk_by (own := [("turns", 2), ("runs", 3)]) (N := sc_are_blocks_N) (sc := defScope s_are_blocks) (by decide +kernel)) (fun _ _ _ _ _ => (kgtup K (n := 2) (pgs_cons (pg_name (i := 2) sc_are_blocks.nd rfl (Or.inl rfl)) (pgs_cons (pg_name (i := 3) sc_are_blocks.nd rfl (Or.inl rfl)) pgs_nil)))) (fun _ _ _ _ _ => pts_nil) (fun _ _ _ _ _ => (pe_callB (klen' K) (by rfl) B.len (by decide +kernel) (pa_cons (pv 3) pa_nil)))) pa_nil)) (pe_gi m_MOST_RUNS) (nomark _))))), fun c => by unfold p_are_blocks p_are_blocks_e1 p_are_blocks_e0; infer_instance⟩

abbrev s_is_plan : Stmt := top 32
abbrev sc_is_plan_N : List Str := ["cluster", "thing", "turns", "runs", "run"]
theorem sc_is_plan : FnScope sc_is_plan_N ["cluster", "thing"] (defScope s_is_plan) := ⟨rfl, rfl, rfl, by decide +kernel, rfl, by decide +kernel, by decide +kernel⟩
theorem ok_is_plan {A : Ad} (dd : Def K mg "is_plan" s_is_plan ["cluster", "thing"]) (B : Blt mg) (T_Cluster : ClsR K mg A.Cluster "Cluster") (c_are_blocks : Cal P w K mg base CX0 6 "are_blocks" ["thing", "size"] (SpP K 2 (f_are_blocks A))) (c_Cluster_size : MCal P w K mg base CX0 1 A.Cluster "size" ["self"] (SpP K 1 (f_Cluster_size A))) (c_Cluster_bundle_of : MCal P w K mg base CX0 1 A.Cluster "bundle_of" ["self", "one", "other"] (SpP K 3 (f_Cluster_bundle_of A))) : Cal P w K mg base CX0 7 "is_plan" ["cluster", "thing"] (SpP K 2 (f_is_plan A)) :=
  defR (τ := p_is_plan A) dd sc_is_plan 3 rfl rfl fun f cdv Ar out s H E hr => ⟨_, (pss_cons (ps_if (pt_not (pt_val (pe_c (E := fun _ _ _ => False) c_are_blocks (hr.mono (by decide)) pass0 (pa_cons (pv 1) (pa_cons (pe_m0 (E := fun _ _ _ => False) c_Cluster_size T_Cluster.cl (hr.mono (by decide)) pass0 (pv 0)) pa_nil)))))
      (pss_one (ps_ret pe_bl))
      pss_nil)
      (pss_one (ps_ret (pe_callB (kall K) (by rfl) B.all (by decide +kernel) (pa_cons (klc2 (own := [("turns", 2), ("runs", 3), ("run", 4)]) (vs := [2, 3, 4]) (g := (gTup K 2 (gCons (gName 2) (gCons (gName 3) gNil)))) (tt := tYes) (vs1 := [4]) (g1 := (gName 4)) (tt1 := tYes) sc_is_plan.nd (kseq K (pv 1)) (blkOk_by (own := [("turns", 2), ("runs", 3), ("run", 4)]) (N := sc_is_plan_N) (sc := defScope s_is_plan) (by decide +kernel)) (fun _ _ _ _ _ => (kgtup K (n := 2) (pgs_cons (pg_name (i := 2) sc_is_plan.nd rfl (Or.inl rfl)) (pgs_cons (pg_name (i := 3) sc_is_plan.nd rfl (Or.inl rfl)) pgs_nil)))) (fun _ _ _ _ _ => pts_nil) (fun _ _ _ _ _ => (kseq K (pv 3))) (fun _ _ _ _ _ => (pg_name (i := 4) sc_is_plan.nd rfl (Or.inl rfl))) (fun _ _ _ _ _ => pts_nil) (fun _ _ _ _ _ => (pe_cmpR knotN (pe_m (E := fun _ _ _ => False) c_Cluster_bundle_of T_Cluster.cl (hr.mono (by decide)) pass0 (pv 0) (pa_cons (pe_ix (kix K) (pv 4) pe_int (fun _ _ => rfl)) (pa_cons (pe_ix (kix K) (pv 4) pe_int (fun _ _ => rfl)) pa_nil))) pe_non (nomark _)))) pa_nil))))), fun c => by unfold p_is_plan p_is_plan_e0; infer_instance⟩

abbrev s_leads_to : Stmt := top 37
abbrev sc_leads_to_N : List Str := ["cluster", "leads", "goal", "thing"]
theorem sc_leads_to : FnScope sc_leads_to_N ["cluster", "leads", "goal", "thing"] (defScope s_leads_to) := ⟨rfl, rfl, rfl, by decide +kernel, rfl, by decide +kernel, by decide +kernel⟩
theorem ok_leads_to {A : Ad} (dd : Def K mg "leads_to" s_leads_to ["cluster", "leads", "goal", "thing"]) (B : Blt mg) (c_is_plan : Cal P w K mg base CX0 7 "is_plan" ["cluster", "thing"] (SpP K 2 (f_is_plan A))) (c_play : Cal P w K mg base (L2.CX P w) 5 "play" ["cluster", "leads", "plan"] (SpX K A 3 (f_play A))) (n_Stopped : mg "Stopped" = some (.ref (A.ex .stopped))) [EF : ExF K A [.stopped]] : Cal P w K mg base CX0 8 "leads_to" ["cluster", "leads", "goal", "thing"] (SpP K 4 (f_leads_to A)) :=
  defR (τ := p_leads_to A) dd sc_leads_to 0 rfl rfl fun f cdv Ar out s H E hr => ⟨_, (pss_cons (ps_if (pt_not (pt_val (pe_c (E := fun _ _ _ => False) c_is_plan (hr.mono (by decide)) pass0 (pa_cons (pv 0) (pa_cons (pv 3) pa_nil)))))
      (pss_one (ps_ret pe_bl))
      pss_nil)
      (pss_one (ktry_o K ⟨rfl, by decide, .inl n_Stopped⟩ takesN
      (fun W1 pn1 xe1 tk1 po1 => (pss_one (ps_ret (pe_cmpR (keq K hr.units) (pe_cS c_play (hr.mono (by decide)) tk1 (pa_cons (pv 0) (pa_cons (pv 1) (pa_cons (pv 3) pa_nil)))) (pv 2) (nomark _)))))
      (fun a1 oe1 cls1 d1 pn1 hz1 hf1 => (pss_one (ps_ret pe_bl)))))), fun c => by unfold p_leads_to; exact (ssSeq (ssIf inferInstance inferInstance inferInstance) (ssTryO inferInstance inferInstance inferInstance (fun _ _ _ => inferInstance) (fun _ _ _ _ _ _ => inferInstance)))⟩

abbrev s_most_turns : Stmt := top 36
abbrev sc_most_turns_N : List Str := ["cluster", "leads", "runs", "stop"]
theorem sc_most_turns : FnScope sc_most_turns_N ["cluster", "leads", "runs"] (defScope s_most_turns) := ⟨rfl, rfl, rfl, by decide +kernel, rfl, by decide +kernel, by decide +kernel⟩
theorem ok_most_turns {A : Ad} (dd : Def K mg "most_turns" s_most_turns ["cluster", "leads", "runs"]) (B : Blt mg) (c_first_stop : Cal P w K mg base CX0 4 "first_stop" ["cluster", "leads", "runs"] (SpP K 3 (f_first_stop A))) : Cal P w K mg base CX0 5 "most_turns" ["cluster", "leads", "runs"] (SpP K 3 (f_most_turns A)) :=
  defR (τ := p_most_turns A) dd sc_most_turns 1 rfl rfl fun f cdv Ar out s H E hr => ⟨_, (pss_cons (ps_set (i := 3) sc_most_turns.nd rfl (Or.inl rfl) (pe_c (E := fun _ _ _ => False) c_first_stop (hr.mono (by decide)) pass0 (pa_cons (pv 0) (pa_cons (pv 1) (pa_cons (pv 2) pa_nil)))))
      (pss_one (ps_ret (pe_ifExp (pt_cmpR kisN (pv 3) pe_non (nomark _)) pe_non (pe_ix (kix K) (pv 3) pe_int (fun _ _ => rfl)))))), fun c => by unfold p_most_turns; infer_instance⟩

abbrev s_law : Stmt := top 46
abbrev sc_law_N : List Str := ["_law_script", "_law_bag_here", "_law_k", "_law_bounds", "_law_bundles", "_law_leads", "_law_runs", "_law_stopped", "_law_cluster", "_law_turn", "_law_run", "_law_done", "_law_goal", "_law_ahead", "_law_plan", "_law_found"]
theorem sc_law : FnScope sc_law_N ["_law_script"] (defScope s_law) := ⟨rfl, rfl, rfl, by decide +kernel, rfl, by decide +kernel, by decide +kernel⟩
theorem ok_law {A : Ad} (dd : Def K mg "law" s_law ["_law_script"]) (B : Blt mg) (T_Cluster : ClsR K mg A.Cluster "Cluster") (c__law_bag : Cal P w K mg base CX0 1 "_law_bag" ["_law_script"] (sp_bag K)) (c__law_case : Cal P w K mg base CX0 2 "_law_case" ["_law_bag_here"] (SpP K 1 (f__law_case A))) (c_Cluster___init__ : MCal P w K mg base CX0 6 A.Cluster "__init__" ["self", "bounds", "bundles"] (SpI K A.Cluster 2 (f_Clusteru_initu A))) (c__law_told : Cal P w K mg base CX0 6 "_law_told" ["_law_cluster", "_law_leads", "_law_plan"] (SpP K 3 (f__law_told_2 A))) (c__law_alike : CalG P w K mg base CX0 1 "_law_alike" ["_law_found", "_law_due"] (SpP K 2 (f__law_alike A))) (c_leads_to : Cal P w K mg base CX0 8 "leads_to" ["cluster", "leads", "goal", "thing"] (SpP K 4 (f_leads_to A))) (c_most_turns : Cal P w K mg base CX0 5 "most_turns" ["cluster", "leads", "runs"] (SpP K 3 (f_most_turns A))) (hq : runL (p_law_k24 A) 16 1) : CalG P w K mg base CX0 9 "law" ["_law_script"] (sp_law K) :=
  lawR dd sc_law rfl (by decide) hq fun f cdv Ar out s H E hgu hr => ⟨_, (pss_cons (ps_set (i := 1) sc_law.nd rfl (Or.inl rfl) (pe_c (E := fun _ _ _ => False) c__law_bag (hr.mono (by decide)) pass0 (pa_cons (pv 0) pa_nil)))
      (pss_cons (ps_for PassesOwn.never rfl (pi_range1 rfl B.range (pa_cons pe_int pa_nil)) (pg_name (i := 2) sc_law.nd rfl (Or.inl rfl))
      (pss_cons (ps_asg (pe_c (E := fun _ _ _ => False) c__law_case (hr.mono (by decide)) pass0 (pa_cons (pv 1) pa_nil)) (kgtup K (n := 5) (pgs_cons (pg_name (i := 3) sc_law.nd rfl (Or.inl rfl)) (pgs_cons (pg_name (i := 4) sc_law.nd rfl (Or.inl rfl)) (pgs_cons (pg_name (i := 5) sc_law.nd rfl (Or.inl rfl)) (pgs_cons (pg_name (i := 6) sc_law.nd rfl (Or.inl rfl)) (pgs_cons (pg_name (i := 7) sc_law.nd rfl (Or.inl rfl)) pgs_nil)))))))
      (pss_cons (ps_set (i := 8) sc_law.nd rfl (Or.inl rfl) (pe_mk (E := fun _ _ _ => False) c_Cluster___init__ T_Cluster.mks T_Cluster.kc T_Cluster.mgC (hr.mono (by decide)) pass0 (pa_cons (pv 3) (pa_cons (pv 4) pa_nil))))
      (pss_cons (ps_asg (pv 7) (kgtup K (n := 2) (pgs_cons (pg_name (i := 9) sc_law.nd rfl (Or.inl rfl)) (pgs_cons (pg_name (i := 10) sc_law.nd rfl (Or.inl rfl)) pgs_nil))))
      (pss_cons (ps_if (pt_not (pt_val (pe_cGV (E := fun _ _ _ => False) c__law_alike hgu (hr.mono (by decide)) pass0 (pa_cons (pe_c (E := fun _ _ _ => False) c__law_told (hr.mono (by decide)) pass0 (pa_cons (pv 8) (pa_cons (pv 5) (pa_cons (pe_lst (pa_cons (pe_tup (pa_cons (pe_op op_pow pe_int pe_int) (pa_cons (pv 6) pa_nil))) pa_nil)) pa_nil)))) (pa_cons (pe_tup (pa_cons pe_str (pa_cons pe_int (pa_cons (pv 9) (pa_cons (pv 10) pa_nil))))) pa_nil)))))
      (pss_one (ps_ret pe_bl))
      pss_nil)
      (pss_cons (ps_if (pt_not (pt_val (pe_cGV (E := fun _ _ _ => False) c__law_alike hgu (hr.mono (by decide)) pass0 (pa_cons (pe_c (E := fun _ _ _ => False) c__law_told (hr.mono (by decide)) pass0 (pa_cons (pv 8) (pa_cons (pv 5) (pa_cons (pe_lst (pa_cons (pe_tup (pa_cons (pe_op (kplus K) (pv 9) pe_int) (pa_cons (pv 6) pa_nil))) pa_nil)) pa_nil)))) (pa_cons (pe_tup (pa_cons pe_str (pa_cons pe_int (pa_cons (pv 9) (pa_cons (pv 10) pa_nil))))) pa_nil)))))
      (pss_one (ps_ret pe_bl))
      pss_nil)
      (pss_cons (ps_if (PW.pt (pw_and (pt_cmpR op_gt (pv 9) pe_int (nomark _)) (pw_and1 (pt_cmpR (kne K hr.units) (pe_ix (kix K) (pe_c (E := fun _ _ _ => False) c__law_told (hr.mono (by decide)) pass0 (pa_cons (pv 8) (pa_cons (pv 5) (pa_cons (pe_lst (pa_cons (pe_tup (pa_cons (pv 9) (pa_cons (pv 6) pa_nil))) pa_nil)) pa_nil)))) pe_int (fun _ _ => rfl)) pe_str (nomark _)))))
      (pss_one (ps_ret pe_bl))
      pss_nil)
      (pss_cons (ps_set (i := 11) sc_law.nd rfl (Or.inl rfl) (pe_ifExp (pt_cmpR op_gt (pv 9) pe_int (nomark _)) (pe_ix (kix K) (pe_c (E := fun _ _ _ => False) c__law_told (hr.mono (by decide)) pass0 (pa_cons (pv 8) (pa_cons (pv 5) (pa_cons (pe_lst (pa_cons (pe_tup (pa_cons (pv 9) (pa_cons (pv 6) pa_nil))) pa_nil)) pa_nil)))) (pe_un un_neg pe_int) (fun _ _ => rfl)) (pv 5)))
      (pss_cons (ps_for PassesOwn.never rfl (kseq K (pe_tup (pa_cons (pv 5) (pa_cons (pv 11) pa_nil)))) (pg_name (i := 12) sc_law.nd rfl (Or.inl rfl))
      (pss_one (ps_if (pt_cmpR op_notBl (pe_c (E := fun _ _ _ => False) c_leads_to (hr.mono (by decide)) pass0 (pa_cons (pv 8) (pa_cons (pv 5) (pa_cons (pv 12) (pa_cons (pe_lst (pa_cons (pe_tup (pa_cons (pe_op (kplus K) (pv 9) pe_int) (pa_cons (pv 6) pa_nil))) pa_nil)) pa_nil))))) pe_bl (nomark _))
      (pss_one (ps_ret pe_bl))
      pss_nil)))
      (pss_cons (ps_if (PW.pt (pw_and (pt_cmpR op_gt (pv 9) pe_int (nomark _)) (pw_and1 (pt_cmpR op_notBl (pe_c (E := fun _ _ _ => False) c_leads_to (hr.mono (by decide)) pass0 (pa_cons (pv 8) (pa_cons (pv 5) (pa_cons (pv 11) (pa_cons (pe_lst (pa_cons (pe_tup (pa_cons (pv 9) (pa_cons (pv 6) pa_nil))) pa_nil)) pa_nil))))) pe_bl (nomark _)))))
      (pss_one (ps_ret pe_bl))
      pss_nil)
      (pss_cons (ps_set (i := 13) sc_law.nd rfl (Or.inl rfl) (pe_lst (pa_cons (pe_tup (pa_cons pe_int (pa_cons (pe_lst (pa_cons (pe_tup (pa_cons pe_int (pa_cons pe_int (pa_cons pe_int pa_nil)))) (pa_cons (pe_tup (pa_cons pe_int (pa_cons pe_int (pa_cons pe_int pa_nil)))) pa_nil))) pa_nil))) pa_nil)))
      (pss_cons (ps_set (i := 14) sc_law.nd rfl (Or.inl rfl) (pe_op (kplus K) (pv 13) (pe_lst (pa_cons (pe_tup (pa_cons (pe_op (kplus K) (pv 9) pe_int) (pa_cons (pv 6) pa_nil))) pa_nil))))
      (pss_cons (ps_set (i := 15) sc_law.nd rfl (Or.inl rfl) (pe_c (E := fun _ _ _ => False) c__law_told (hr.mono (by decide)) pass0 (pa_cons (pv 8) (pa_cons (pv 5) (pa_cons (pv 14) pa_nil)))))
      (pss_cons (ps_if (PW.pt (pw_and (pt_cmpR op_gt (pv 9) pe_int (nomark _)) (pw_and1 (pt_not (pt_val (pe_cGV (E := fun _ _ _ => False) c__law_alike hgu (hr.mono (by decide)) pass0 (pa_cons (pv 15) (pa_cons (pe_tup (pa_cons pe_str (pa_cons pe_int (pa_cons (pv 9) (pa_cons (pv 10) pa_nil))))) pa_nil))))))))
      (pss_one (ps_ret pe_bl))
      pss_nil)
      (pss_one (ps_if (pt_not (pt_val (pe_cGV (E := fun _ _ _ => False) c__law_alike hgu (hr.mono (by decide)) pass0 (pa_cons (pe_c (E := fun _ _ _ => False) c_most_turns (hr.mono (by decide)) pass0 (pa_cons (pv 8) (pa_cons (pv 5) (pa_cons (pv 6) pa_nil)))) (pa_cons (pv 9) pa_nil)))))
      (pss_one (ps_ret pe_bl))
      pss_nil))))))))))))))))
      (pss_one (ps_ret pe_bl)))), fun c => by unfold p_law_k24 p_law_k24_b1 p_law_k24_g1 p_law_k24_c3 p_law_k24_c2 p_law_k24_c1 p_law_k24_c0 p_law_k24_b0 p_law_k24_g0; infer_instance⟩

end
theorem all_mk {l : PySem.W.OpenLaw} {w : World} {K : PySem.W.Frag} {h : Heap} {mg : Str → Option Value} {fa : Addr} (X : K.In h) (G : h.Ns mainGlobals mg) (hfa : mg "law" = some (.ref fa))
    {C_Cluster : Addr}
    {C_LeadError : Addr} {LeadError_nm LeadError_q : Str} {LeadError_N : Addr} {LeadError_bs LeadError_bm : List Value} {LeadError_sn : List Str} {LeadError_sub : List Value} {LeadError_ab : Bool} {LeadError_col : Option Bool} {LeadError_dd : Option Addr} {LeadError_k0 LeadError_k1 LeadError_k2 LeadError_k3 LeadError_k5 : Option Value}
    {C_Wrong : Addr} {Wrong_nm Wrong_q : Str} {Wrong_N : Addr} {Wrong_bs Wrong_bm : List Value} {Wrong_sn : List Str} {Wrong_sub : List Value} {Wrong_ab : Bool} {Wrong_col : Option Bool} {Wrong_dd : Option Addr} {Wrong_k0 Wrong_k1 Wrong_k2 Wrong_k3 Wrong_k5 : Option Value}
    {C_Stopped : Addr} {Stopped_nm Stopped_q : Str} {Stopped_N : Addr} {Stopped_bs Stopped_bm : List Value} {Stopped_sn : List Str} {Stopped_sub : List Value} {Stopped_ab : Bool} {Stopped_col : Option Bool} {Stopped_dd : Option Addr} {Stopped_k0 Stopped_k1 Stopped_k2 Stopped_k3 Stopped_k5 : Option Value}
    {f1 : Addr} {od1 an1 : Option Addr} {sl1 : Array (Option Value)} {oc1 kV1 dc1 pm1 cd1 ct1 : Value}
    {f2 : Addr} {od2 an2 : Option Addr} {sl2 : Array (Option Value)} {oc2 kV2 dc2 pm2 cd2 ct2 : Value}
    {f3 : Addr} {od3 an3 : Option Addr} {sl3 : Array (Option Value)} {oc3 kV3 dc3 pm3 cd3 ct3 : Value}
    {f4 : Addr} {od4 an4 : Option Addr} {sl4 : Array (Option Value)} {oc4 kV4 dc4 pm4 cd4 ct4 : Value}
    {f5 : Addr} {od5 an5 : Option Addr} {sl5 : Array (Option Value)} {oc5 kV5 dc5 pm5 cd5 ct5 : Value}
    {f6 : Addr} {od6 an6 : Option Addr} {sl6 : Array (Option Value)} {oc6 kV6 dc6 pm6 cd6 ct6 : Value}
    {f7 : Addr} {od7 an7 : Option Addr} {sl7 : Array (Option Value)} {oc7 kV7 dc7 pm7 cd7 ct7 : Value}
    {f8 : Addr} {od8 an8 : Option Addr} {sl8 : Array (Option Value)} {oc8 kV8 dc8 pm8 cd8 ct8 : Value}
    {f9 : Addr} {od9 an9 : Option Addr} {sl9 : Array (Option Value)} {oc9 kV9 dc9 pm9 cd9 ct9 : Value}
    {f10 : Addr} {od10 an10 : Option Addr} {sl10 : Array (Option Value)} {oc10 kV10 dc10 pm10 cd10 ct10 : Value}
    {f11 : Addr} {od11 an11 : Option Addr} {sl11 : Array (Option Value)} {oc11 kV11 dc11 pm11 cd11 ct11 : Value}
    {f12 : Addr} {od12 an12 : Option Addr} {sl12 : Array (Option Value)} {oc12 kV12 dc12 pm12 cd12 ct12 : Value}
    {f13 : Addr} {od13 an13 : Option Addr} {sl13 : Array (Option Value)} {oc13 kV13 dc13 pm13 cd13 ct13 : Value}
    {f14 : Addr} {od14 an14 : Option Addr} {sl14 : Array (Option Value)} {oc14 kV14 dc14 pm14 cd14 ct14 : Value}
    {f15 : Addr} {od15 an15 : Option Addr} {sl15 : Array (Option Value)} {oc15 kV15 dc15 pm15 cd15 ct15 : Value}
    {f16 : Addr} {od16 an16 : Option Addr} {sl16 : Array (Option Value)} {oc16 kV16 dc16 pm16 cd16 ct16 : Value}
    {f17 : Addr} {od17 an17 : Option Addr} {sl17 : Array (Option Value)} {oc17 kV17 dc17 pm17 cd17 ct17 : Value}
    {f18 : Addr} {od18 an18 : Option Addr} {sl18 : Array (Option Value)} {oc18 kV18 dc18 pm18 cd18 ct18 : Value}
    {f19 : Addr} {od19 an19 : Option Addr} {sl19 : Array (Option Value)} {oc19 kV19 dc19 pm19 cd19 ct19 : Value}
    {f20 : Addr} {od20 an20 : Option Addr} {sl20 : Array (Option Value)} {oc20 kV20 dc20 pm20 cd20 ct20 : Value}
    {f21 : Addr} {od21 an21 : Option Addr} {sl21 : Array (Option Value)} {oc21 kV21 dc21 pm21 cd21 ct21 : Value}
    {f22 : Addr} {od22 an22 : Option Addr} {sl22 : Array (Option Value)} {oc22 kV22 dc22 pm22 cd22 ct22 : Value}
    {f23 : Addr} {od23 an23 : Option Addr} {sl23 : Array (Option Value)} {oc23 kV23 dc23 pm23 cd23 ct23 : Value}
    {f24 : Addr} {od24 an24 : Option Addr} {sl24 : Array (Option Value)} {oc24 kV24 dc24 pm24 cd24 ct24 : Value}
    {f25 : Addr} {od25 an25 : Option Addr} {sl25 : Array (Option Value)} {oc25 kV25 dc25 pm25 cd25 ct25 : Value}
    {f26 : Addr} {od26 an26 : Option Addr} {sl26 : Array (Option Value)} {oc26 kV26 dc26 pm26 cd26 ct26 : Value}
    {f27 : Addr} {od27 an27 : Option Addr} {sl27 : Array (Option Value)} {oc27 kV27 dc27 pm27 cd27 ct27 : Value}
    {f28 : Addr} {od28 an28 : Option Addr} {sl28 : Array (Option Value)} {oc28 kV28 dc28 pm28 cd28 ct28 : Value}
    {f29 : Addr} {od29 an29 : Option Addr} {sl29 : Array (Option Value)} {oc29 kV29 dc29 pm29 cd29 ct29 : Value}
    {f30 : Addr} {od30 an30 : Option Addr} {sl30 : Array (Option Value)} {oc30 kV30 dc30 pm30 cd30 ct30 : Value}
    {f31 : Addr} {od31 an31 : Option Addr} {sl31 : Array (Option Value)} {oc31 kV31 dc31 pm31 cd31 ct31 : Value}
    {f32 : Addr} {od32 an32 : Option Addr} {sl32 : Array (Option Value)} {oc32 kV32 dc32 pm32 cd32 ct32 : Value}
    {f33 : Addr} {od33 an33 : Option Addr} {sl33 : Array (Option Value)} {oc33 kV33 dc33 pm33 cd33 ct33 : Value}
    {f34 : Addr} {od34 an34 : Option Addr} {sl34 : Array (Option Value)} {oc34 kV34 dc34 pm34 cd34 ct34 : Value}
    {f35 : Addr} {od35 an35 : Option Addr} {sl35 : Array (Option Value)} {oc35 kV35 dc35 pm35 cd35 ct35 : Value}
    {t_MOST_BROKERS : Tok}
    {t_MOST_BUNDLES : Tok}
    {t_MOST_AMOUNT : Tok}
    {t_MOST_COUNT : Tok}
    {t_MOST_BLOCKS : Tok}
    {t_MOST_RUNS : Tok}
    {t_MOST_IN_BLOCK : Tok}
    (Cluster_aC : PySem.W.nsIn K mainGlobals "Cluster" = some (some (.ref C_Cluster)))
    (Cluster_pg : PySem.W.plainGet K C_Cluster Str.empty = true)
    (Cluster_hd : PySem.W.hasDictIn K C_Cluster = true)
    (Cluster_po : PySem.W.plainOver K C_Cluster = true)
    (Cluster_sa : PySem.W.findIn K (.ref C_Cluster) "__setattr__" = some (some (.builtin "object.__setattr__")))
    (Cluster_mk : PySem.W.makesIn K C_Cluster = true)
    (Cluster_kc : PySem.W.keepIn K (.ref C_Cluster) = true)
    (Cluster_n_limits : PySem.W.findIn K (.ref C_Cluster) "limits" = some none)
    (Cluster_n_rows : PySem.W.findIn K (.ref C_Cluster) "rows" = some none)
    (Cluster_n_numbers : PySem.W.findIn K (.ref C_Cluster) "numbers" = some none)
    (LeadError_aC : PySem.W.nsIn K mainGlobals "LeadError" = some (some (.ref C_LeadError)))
    (LeadError_ob : K.lookup C_LeadError = some (excClassObj LeadError_nm LeadError_q C_LeadError LeadError_N LeadError_bs LeadError_bm true LeadError_sn LeadError_sub LeadError_ab LeadError_col LeadError_dd LeadError_k0 LeadError_k1 LeadError_k2 LeadError_k3 LeadError_k5 "ValueError.__new__"))
    (LeadError_vm : PySem.HandSPX.refsVE LeadError_bm = true)
    (LeadError_sa : PySem.W.findIn K (.ref C_LeadError) "__setattr__" = some (some (.builtin "object.__setattr__")))
    (LeadError_xC : PySem.W.subIn K (.ref C_LeadError) (.type "BaseException") = some true)
    (LeadError_tt : PySem.W.typeIn K (.ref C_LeadError) = some (.type "type"))
    (LeadError_kc : PySem.W.keepIn K (.ref C_LeadError) = true)
    (LeadError_ga : PySem.W.findIn K (.ref C_LeadError) "__getattribute__" = some (some (.builtin "BaseException.__getattribute__")))
    (LeadError_gg : PySem.W.findIn K (.ref C_LeadError) "__getattr__" = some none)
    (LeadError_hd : PySem.W.hasDictIn K C_LeadError = true)
    (LeadError_is : PySem.W.isClsIn K C_LeadError = true)
    (LeadError_ha : PySem.W.findIn K (.ref C_LeadError) "__class__" = some (some (.builtin "object.__class__")))
    (LeadError_hm : PySem.W.mroIn K C_LeadError (.type "object") = some true)
    (LeadError_ve : PySem.W.subIn K (.ref C_LeadError) (.type "ValueError") = some true)
    (Wrong_aC : PySem.W.nsIn K mainGlobals "Wrong" = some (some (.ref C_Wrong)))
    (Wrong_ob : K.lookup C_Wrong = some (excClassObj Wrong_nm Wrong_q C_Wrong Wrong_N Wrong_bs Wrong_bm true Wrong_sn Wrong_sub Wrong_ab Wrong_col Wrong_dd Wrong_k0 Wrong_k1 Wrong_k2 Wrong_k3 Wrong_k5 "ValueError.__new__"))
    (Wrong_vm : PySem.HandSPX.refsVE Wrong_bm = true)
    (Wrong_sa : PySem.W.findIn K (.ref C_Wrong) "__setattr__" = some (some (.builtin "object.__setattr__")))
    (Wrong_xC : PySem.W.subIn K (.ref C_Wrong) (.type "BaseException") = some true)
    (Wrong_tt : PySem.W.typeIn K (.ref C_Wrong) = some (.type "type"))
    (Wrong_kc : PySem.W.keepIn K (.ref C_Wrong) = true)
    (Wrong_n_place : PySem.W.findIn K (.ref C_Wrong) "place" = some none)
    (Wrong_ga : PySem.W.findIn K (.ref C_Wrong) "__getattribute__" = some (some (.builtin "BaseException.__getattribute__")))
    (Wrong_gg : PySem.W.findIn K (.ref C_Wrong) "__getattr__" = some none)
    (Wrong_hd : PySem.W.hasDictIn K C_Wrong = true)
    (Wrong_is : PySem.W.isClsIn K C_Wrong = true)
    (Wrong_ha : PySem.W.findIn K (.ref C_Wrong) "__class__" = some (some (.builtin "object.__class__")))
    (Wrong_hm : PySem.W.mroIn K C_Wrong (.type "object") = some true)
    (Wrong_ve : PySem.W.subIn K (.ref C_Wrong) (.type "ValueError") = some true)
    (Stopped_aC : PySem.W.nsIn K mainGlobals "Stopped" = some (some (.ref C_Stopped)))
    (Stopped_ob : K.lookup C_Stopped = some (excClassObj Stopped_nm Stopped_q C_Stopped Stopped_N Stopped_bs Stopped_bm true Stopped_sn Stopped_sub Stopped_ab Stopped_col Stopped_dd Stopped_k0 Stopped_k1 Stopped_k2 Stopped_k3 Stopped_k5 "ValueError.__new__"))
    (Stopped_vm : PySem.HandSPX.refsVE Stopped_bm = true)
    (Stopped_sa : PySem.W.findIn K (.ref C_Stopped) "__setattr__" = some (some (.builtin "object.__setattr__")))
    (Stopped_xC : PySem.W.subIn K (.ref C_Stopped) (.type "BaseException") = some true)
    (Stopped_tt : PySem.W.typeIn K (.ref C_Stopped) = some (.type "type"))
    (Stopped_kc : PySem.W.keepIn K (.ref C_Stopped) = true)
    (Stopped_n_block : PySem.W.findIn K (.ref C_Stopped) "block" = some none)
    (Stopped_n_turn : PySem.W.findIn K (.ref C_Stopped) "turn" = some none)
    (Stopped_n_run : PySem.W.findIn K (.ref C_Stopped) "run" = some none)
    (Stopped_ga : PySem.W.findIn K (.ref C_Stopped) "__getattribute__" = some (some (.builtin "BaseException.__getattribute__")))
    (Stopped_gg : PySem.W.findIn K (.ref C_Stopped) "__getattr__" = some none)
    (Stopped_hd : PySem.W.hasDictIn K C_Stopped = true)
    (Stopped_is : PySem.W.isClsIn K C_Stopped = true)
    (Stopped_ha : PySem.W.findIn K (.ref C_Stopped) "__class__" = some (some (.builtin "object.__class__")))
    (Stopped_hm : PySem.W.mroIn K C_Stopped (.type "object") = some true)
    (Stopped_ve : PySem.W.subIn K (.ref C_Stopped) (.type "ValueError") = some true)
    (x_hn : PySem.W.specialIn K (.builtin "object.__class__") "__get__" = some (some (.builtin "getset_descriptor.__get__")))
    (x_ht : PySem.W.takesIn K (.builtin "object.__class__") = some true)
    (b_ga : PySem.W.specialIn K (.ref C_LeadError) "__getattribute__" = some (some (.builtin "type.__getattribute__")))
    (b_rd : PySem.W.readsIn K C_LeadError (.type "type") = true)
    (b_vi : PySem.W.findCls K (.ref C_LeadError) (.type "type") "__init__" = some (.val (.builtin "ValueError.__init__")))
    (s_LeadError_LeadError : PySem.W.subIn K (.ref C_LeadError) (.ref C_LeadError) = some true)
    (s_LeadError_Wrong : PySem.W.subIn K (.ref C_LeadError) (.ref C_Wrong) = some false)
    (s_LeadError_Stopped : PySem.W.subIn K (.ref C_LeadError) (.ref C_Stopped) = some false)
    (s_Wrong_LeadError : PySem.W.subIn K (.ref C_Wrong) (.ref C_LeadError) = some true)
    (s_Wrong_Wrong : PySem.W.subIn K (.ref C_Wrong) (.ref C_Wrong) = some true)
    (s_Wrong_Stopped : PySem.W.subIn K (.ref C_Wrong) (.ref C_Stopped) = some false)
    (s_Stopped_LeadError : PySem.W.subIn K (.ref C_Stopped) (.ref C_LeadError) = some true)
    (s_Stopped_Wrong : PySem.W.subIn K (.ref C_Stopped) (.ref C_Wrong) = some false)
    (s_Stopped_Stopped : PySem.W.subIn K (.ref C_Stopped) (.ref C_Stopped) = some true)
    (a1 : PySem.W.nsIn K mainGlobals "_law_bag" = some (some (.ref f1))) (l1 : K.lookup f1 = some ⟨oc1, od1, .func (PySem.W.fnOf "_law_bag" "_law_bag" (defArgs s__law_bag) (defBody s__law_bag) (defScope s__law_bag) .none kV1 dc1 pm1 an1 cd1 ct1), sl1⟩) (c1 : PySem.W.codeIn K cd1 "_law_bag" = true) (k1 : PySem.W.keepIn K (.ref f1) = true)
    (a2 : PySem.W.nsIn K mainGlobals "_law_take" = some (some (.ref f2))) (l2 : K.lookup f2 = some ⟨oc2, od2, .func (PySem.W.fnOf "_law_take" "_law_take" (defArgs s__law_take) (defBody s__law_take) (defScope s__law_take) .none kV2 dc2 pm2 an2 cd2 ct2), sl2⟩) (c2 : PySem.W.codeIn K cd2 "_law_take" = true) (k2 : PySem.W.keepIn K (.ref f2) = true)
    (a3 : PySem.W.nsIn K mainGlobals "_law_case" = some (some (.ref f3))) (l3 : K.lookup f3 = some ⟨oc3, od3, .func (PySem.W.fnOf "_law_case" "_law_case" (defArgs s__law_case) (defBody s__law_case) (defScope s__law_case) .none kV3 dc3 pm3 an3 cd3 ct3), sl3⟩) (c3 : PySem.W.codeIn K cd3 "_law_case" = true) (k3 : PySem.W.keepIn K (.ref f3) = true)
    (a4 : PySem.W.nsIn K mainGlobals "is_integer" = some (some (.ref f4))) (l4 : K.lookup f4 = some ⟨oc4, od4, .func (PySem.W.fnOf "is_integer" "is_integer" (defArgs s_is_integer) (defBody s_is_integer) (defScope s_is_integer) .none kV4 dc4 pm4 an4 cd4 ct4), sl4⟩) (c4 : PySem.W.codeIn K cd4 "is_integer" = true) (k4 : PySem.W.keepIn K (.ref f4) = true)
    (a5 : PySem.W.nsIn K mainGlobals "is_between" = some (some (.ref f5))) (l5 : K.lookup f5 = some ⟨oc5, od5, .func (PySem.W.fnOf "is_between" "is_between" (defArgs s_is_between) (defBody s_is_between) (defScope s_is_between) .none kV5 dc5 pm5 an5 cd5 ct5), sl5⟩) (c5 : PySem.W.codeIn K cd5 "is_between" = true) (k5 : PySem.W.keepIn K (.ref f5) = true)
    (a6 : PySem.W.nsIn K mainGlobals "is_amount" = some (some (.ref f6))) (l6 : K.lookup f6 = some ⟨oc6, od6, .func (PySem.W.fnOf "is_amount" "is_amount" (defArgs s_is_amount) (defBody s_is_amount) (defScope s_is_amount) .none kV6 dc6 pm6 an6 cd6 ct6), sl6⟩) (c6 : PySem.W.codeIn K cd6 "is_amount" = true) (k6 : PySem.W.keepIn K (.ref f6) = true)
    (a7 : PySem.W.nsIn K mainGlobals "is_bound" = some (some (.ref f7))) (l7 : K.lookup f7 = some ⟨oc7, od7, .func (PySem.W.fnOf "is_bound" "is_bound" (defArgs s_is_bound) (defBody s_is_bound) (defScope s_is_bound) .none kV7 dc7 pm7 an7 cd7 ct7), sl7⟩) (c7 : PySem.W.codeIn K cd7 "is_bound" = true) (k7 : PySem.W.keepIn K (.ref f7) = true)
    (a8 : PySem.W.nsIn K mainGlobals "are_bounds" = some (some (.ref f8))) (l8 : K.lookup f8 = some ⟨oc8, od8, .func (PySem.W.fnOf "are_bounds" "are_bounds" (defArgs s_are_bounds) (defBody s_are_bounds) (defScope s_are_bounds) .none kV8 dc8 pm8 an8 cd8 ct8), sl8⟩) (c8 : PySem.W.codeIn K cd8 "are_bounds" = true) (k8 : PySem.W.keepIn K (.ref f8) = true)
    (a9 : PySem.W.nsIn K mainGlobals "is_broker" = some (some (.ref f9))) (l9 : K.lookup f9 = some ⟨oc9, od9, .func (PySem.W.fnOf "is_broker" "is_broker" (defArgs s_is_broker) (defBody s_is_broker) (defScope s_is_broker) .none kV9 dc9 pm9 an9 cd9 ct9), sl9⟩) (c9 : PySem.W.codeIn K cd9 "is_broker" = true) (k9 : PySem.W.keepIn K (.ref f9) = true)
    (a10 : PySem.W.nsIn K mainGlobals "is_count" = some (some (.ref f10))) (l10 : K.lookup f10 = some ⟨oc10, od10, .func (PySem.W.fnOf "is_count" "is_count" (defArgs s_is_count) (defBody s_is_count) (defScope s_is_count) .none kV10 dc10 pm10 an10 cd10 ct10), sl10⟩) (c10 : PySem.W.codeIn K cd10 "is_count" = true) (k10 : PySem.W.keepIn K (.ref f10) = true)
    (a11 : PySem.W.nsIn K mainGlobals "is_bundle" = some (some (.ref f11))) (l11 : K.lookup f11 = some ⟨oc11, od11, .func (PySem.W.fnOf "is_bundle" "is_bundle" (defArgs s_is_bundle) (defBody s_is_bundle) (defScope s_is_bundle) .none kV11 dc11 pm11 an11 cd11 ct11), sl11⟩) (c11 : PySem.W.codeIn K cd11 "is_bundle" = true) (k11 : PySem.W.keepIn K (.ref f11) = true)
    (a12 : PySem.W.nsIn K mainGlobals "are_bundles" = some (some (.ref f12))) (l12 : K.lookup f12 = some ⟨oc12, od12, .func (PySem.W.fnOf "are_bundles" "are_bundles" (defArgs s_are_bundles) (defBody s_are_bundles) (defScope s_are_bundles) .none kV12 dc12 pm12 an12 cd12 ct12), sl12⟩) (c12 : PySem.W.codeIn K cd12 "are_bundles" = true) (k12 : PySem.W.keepIn K (.ref f12) = true)
    (a13 : PySem.W.findIn K (.ref C_Cluster) "__init__" = some (some (.ref f13))) (i13 : PySem.W.isFn K (.ref f13) = true) (l13 : K.lookup f13 = some ⟨oc13, od13, .func (PySem.W.fnOf "__init__" "Cluster.__init__" (defArgs s_Cluster___init__) (defBody s_Cluster___init__) (defScope s_Cluster___init__) .none kV13 dc13 pm13 an13 cd13 ct13), sl13⟩) (c13 : PySem.W.codeIn K cd13 "Cluster.__init__" = true) (k13 : PySem.W.keepIn K (.ref f13) = true)
    (a14 : PySem.W.findIn K (.ref C_Stopped) "__init__" = some (some (.ref f14))) (i14 : PySem.W.isFn K (.ref f14) = true) (l14 : K.lookup f14 = some ⟨oc14, od14, .func (PySem.W.fnOf "__init__" "Stopped.__init__" (defArgs s_Stopped___init__) (defBody s_Stopped___init__) (defScope s_Stopped___init__) .none kV14 dc14 pm14 an14 cd14 ct14), sl14⟩) (c14 : PySem.W.codeIn K cd14 "Stopped.__init__" = true) (k14 : PySem.W.keepIn K (.ref f14) = true)
    (a15 : PySem.W.findIn K (.ref C_Cluster) "bundle_of" = some (some (.ref f15))) (i15 : PySem.W.isFn K (.ref f15) = true) (l15 : K.lookup f15 = some ⟨oc15, od15, .func (PySem.W.fnOf "bundle_of" "Cluster.bundle_of" (defArgs s_Cluster_bundle_of) (defBody s_Cluster_bundle_of) (defScope s_Cluster_bundle_of) .none kV15 dc15 pm15 an15 cd15 ct15), sl15⟩) (c15 : PySem.W.codeIn K cd15 "Cluster.bundle_of" = true) (k15 : PySem.W.keepIn K (.ref f15) = true)
    (a16 : PySem.W.nsIn K mainGlobals "moved" = some (some (.ref f16))) (l16 : K.lookup f16 = some ⟨oc16, od16, .func (PySem.W.fnOf "moved" "moved" (defArgs s_moved) (defBody s_moved) (defScope s_moved) .none kV16 dc16 pm16 an16 cd16 ct16), sl16⟩) (c16 : PySem.W.codeIn K cd16 "moved" = true) (k16 : PySem.W.keepIn K (.ref f16) = true)
    (a17 : PySem.W.nsIn K mainGlobals "after_turn" = some (some (.ref f17))) (l17 : K.lookup f17 = some ⟨oc17, od17, .func (PySem.W.fnOf "after_turn" "after_turn" (defArgs s_after_turn) (defBody s_after_turn) (defScope s_after_turn) .none kV17 dc17 pm17 an17 cd17 ct17), sl17⟩) (c17 : PySem.W.codeIn K cd17 "after_turn" = true) (k17 : PySem.W.keepIn K (.ref f17) = true)
    (a18 : PySem.W.findIn K (.ref C_Cluster) "size" = some (some (.ref f18))) (i18 : PySem.W.isFn K (.ref f18) = true) (l18 : K.lookup f18 = some ⟨oc18, od18, .func (PySem.W.fnOf "size" "Cluster.size" (defArgs s_Cluster_size) (defBody s_Cluster_size) (defScope s_Cluster_size) .none kV18 dc18 pm18 an18 cd18 ct18), sl18⟩) (c18 : PySem.W.codeIn K cd18 "Cluster.size" = true) (k18 : PySem.W.keepIn K (.ref f18) = true)
    (a19 : PySem.W.findIn K (.ref C_Cluster) "bundles" = some (some (.ref f19))) (i19 : PySem.W.isFn K (.ref f19) = true) (l19 : K.lookup f19 = some ⟨oc19, od19, .func (PySem.W.fnOf "bundles" "Cluster.bundles" (defArgs s_Cluster_bundles) (defBody s_Cluster_bundles) (defScope s_Cluster_bundles) .none kV19 dc19 pm19 an19 cd19 ct19), sl19⟩) (c19 : PySem.W.codeIn K cd19 "Cluster.bundles" = true) (k19 : PySem.W.keepIn K (.ref f19) = true)
    (a20 : PySem.W.nsIn K mainGlobals "loads" = some (some (.ref f20))) (l20 : K.lookup f20 = some ⟨oc20, od20, .func (PySem.W.fnOf "loads" "loads" (defArgs s_loads) (defBody s_loads) (defScope s_loads) .none kV20 dc20 pm20 an20 cd20 ct20), sl20⟩) (c20 : PySem.W.codeIn K cd20 "loads" = true) (k20 : PySem.W.keepIn K (.ref f20) = true)
    (a21 : PySem.W.findIn K (.ref C_Cluster) "floor" = some (some (.ref f21))) (i21 : PySem.W.isFn K (.ref f21) = true) (l21 : K.lookup f21 = some ⟨oc21, od21, .func (PySem.W.fnOf "floor" "Cluster.floor" (defArgs s_Cluster_floor) (defBody s_Cluster_floor) (defScope s_Cluster_floor) .none kV21 dc21 pm21 an21 cd21 ct21), sl21⟩) (c21 : PySem.W.codeIn K cd21 "Cluster.floor" = true) (k21 : PySem.W.keepIn K (.ref f21) = true)
    (a22 : PySem.W.findIn K (.ref C_Cluster) "ceiling" = some (some (.ref f22))) (i22 : PySem.W.isFn K (.ref f22) = true) (l22 : K.lookup f22 = some ⟨oc22, od22, .func (PySem.W.fnOf "ceiling" "Cluster.ceiling" (defArgs s_Cluster_ceiling) (defBody s_Cluster_ceiling) (defScope s_Cluster_ceiling) .none kV22 dc22 pm22 an22 cd22 ct22), sl22⟩) (c22 : PySem.W.codeIn K cd22 "Cluster.ceiling" = true) (k22 : PySem.W.keepIn K (.ref f22) = true)
    (a23 : PySem.W.nsIn K mainGlobals "led" = some (some (.ref f23))) (l23 : K.lookup f23 = some ⟨oc23, od23, .func (PySem.W.fnOf "led" "led" (defArgs s_led) (defBody s_led) (defScope s_led) .none kV23 dc23 pm23 an23 cd23 ct23), sl23⟩) (c23 : PySem.W.codeIn K cd23 "led" = true) (k23 : PySem.W.keepIn K (.ref f23) = true)
    (a24 : PySem.W.nsIn K mainGlobals "spares" = some (some (.ref f24))) (l24 : K.lookup f24 = some ⟨oc24, od24, .func (PySem.W.fnOf "spares" "spares" (defArgs s_spares) (defBody s_spares) (defScope s_spares) .none kV24 dc24 pm24 an24 cd24 ct24), sl24⟩) (c24 : PySem.W.codeIn K cd24 "spares" = true) (k24 : PySem.W.keepIn K (.ref f24) = true)
    (a25 : PySem.W.nsIn K mainGlobals "first_stop" = some (some (.ref f25))) (l25 : K.lookup f25 = some ⟨oc25, od25, .func (PySem.W.fnOf "first_stop" "first_stop" (defArgs s_first_stop) (defBody s_first_stop) (defScope s_first_stop) .none kV25 dc25 pm25 an25 cd25 ct25), sl25⟩) (c25 : PySem.W.codeIn K cd25 "first_stop" = true) (k25 : PySem.W.keepIn K (.ref f25) = true)
    (a26 : PySem.W.nsIn K mainGlobals "play" = some (some (.ref f26))) (l26 : K.lookup f26 = some ⟨oc26, od26, .func (PySem.W.fnOf "play" "play" (defArgs s_play) (defBody s_play) (defScope s_play) .none kV26 dc26 pm26 an26 cd26 ct26), sl26⟩) (c26 : PySem.W.codeIn K cd26 "play" = true) (k26 : PySem.W.keepIn K (.ref f26) = true)
    (a27 : PySem.W.nsIn K mainGlobals "_law_told" = some (some (.ref f27))) (l27 : K.lookup f27 = some ⟨oc27, od27, .func (PySem.W.fnOf "_law_told" "_law_told" (defArgs s__law_told) (defBody s__law_told) (defScope s__law_told) .none kV27 dc27 pm27 an27 cd27 ct27), sl27⟩) (c27 : PySem.W.codeIn K cd27 "_law_told" = true) (k27 : PySem.W.keepIn K (.ref f27) = true)
    (a28 : PySem.W.nsIn K mainGlobals "_law_alike" = some (some (.ref f28))) (l28 : K.lookup f28 = some ⟨oc28, od28, .func (PySem.W.fnOf "_law_alike" "_law_alike" (defArgs s__law_alike) (defBody s__law_alike) (defScope s__law_alike) .none kV28 dc28 pm28 an28 cd28 ct28), sl28⟩) (c28 : PySem.W.codeIn K cd28 "_law_alike" = true) (k28 : PySem.W.keepIn K (.ref f28) = true)
    (a29 : PySem.W.nsIn K mainGlobals "is_run" = some (some (.ref f29))) (l29 : K.lookup f29 = some ⟨oc29, od29, .func (PySem.W.fnOf "is_run" "is_run" (defArgs s_is_run) (defBody s_is_run) (defScope s_is_run) .none kV29 dc29 pm29 an29 cd29 ct29), sl29⟩) (c29 : PySem.W.codeIn K cd29 "is_run" = true) (k29 : PySem.W.keepIn K (.ref f29) = true)
    (a30 : PySem.W.nsIn K mainGlobals "is_block" = some (some (.ref f30))) (l30 : K.lookup f30 = some ⟨oc30, od30, .func (PySem.W.fnOf "is_block" "is_block" (defArgs s_is_block) (defBody s_is_block) (defScope s_is_block) .none kV30 dc30 pm30 an30 cd30 ct30), sl30⟩) (c30 : PySem.W.codeIn K cd30 "is_block" = true) (k30 : PySem.W.keepIn K (.ref f30) = true)
    (a31 : PySem.W.nsIn K mainGlobals "are_blocks" = some (some (.ref f31))) (l31 : K.lookup f31 = some ⟨oc31, od31, .func (PySem.W.fnOf "are_blocks" "are_blocks" (defArgs s_are_blocks) (defBody s_are_blocks) (defScope s_are_blocks) .none kV31 dc31 pm31 an31 cd31 ct31), sl31⟩) (c31 : PySem.W.codeIn K cd31 "are_blocks" = true) (k31 : PySem.W.keepIn K (.ref f31) = true)
    (a32 : PySem.W.nsIn K mainGlobals "is_plan" = some (some (.ref f32))) (l32 : K.lookup f32 = some ⟨oc32, od32, .func (PySem.W.fnOf "is_plan" "is_plan" (defArgs s_is_plan) (defBody s_is_plan) (defScope s_is_plan) .none kV32 dc32 pm32 an32 cd32 ct32), sl32⟩) (c32 : PySem.W.codeIn K cd32 "is_plan" = true) (k32 : PySem.W.keepIn K (.ref f32) = true)
    (a33 : PySem.W.nsIn K mainGlobals "leads_to" = some (some (.ref f33))) (l33 : K.lookup f33 = some ⟨oc33, od33, .func (PySem.W.fnOf "leads_to" "leads_to" (defArgs s_leads_to) (defBody s_leads_to) (defScope s_leads_to) .none kV33 dc33 pm33 an33 cd33 ct33), sl33⟩) (c33 : PySem.W.codeIn K cd33 "leads_to" = true) (k33 : PySem.W.keepIn K (.ref f33) = true)
    (a34 : PySem.W.nsIn K mainGlobals "most_turns" = some (some (.ref f34))) (l34 : K.lookup f34 = some ⟨oc34, od34, .func (PySem.W.fnOf "most_turns" "most_turns" (defArgs s_most_turns) (defBody s_most_turns) (defScope s_most_turns) .none kV34 dc34 pm34 an34 cd34 ct34), sl34⟩) (c34 : PySem.W.codeIn K cd34 "most_turns" = true) (k34 : PySem.W.keepIn K (.ref f34) = true)
    (a35 : PySem.W.nsIn K mainGlobals "law" = some (some (.ref f35))) (l35 : K.lookup f35 = some ⟨oc35, od35, .func (PySem.W.fnOf "law" "law" (defArgs s_law) (defBody s_law) (defScope s_law) .none kV35 dc35 pm35 an35 cd35 ct35), sl35⟩) (c35 : PySem.W.codeIn K cd35 "law" = true) (k35 : PySem.W.keepIn K (.ref f35) = true)
    (g_MOST_BROKERS : PySem.W.nsIn K mainGlobals "MOST_BROKERS" = some (some (.int 10 t_MOST_BROKERS)))
    (g_MOST_BUNDLES : PySem.W.nsIn K mainGlobals "MOST_BUNDLES" = some (some (.int 45 t_MOST_BUNDLES)))
    (g_MOST_AMOUNT : PySem.W.nsIn K mainGlobals "MOST_AMOUNT" = some (some (.int 1000000000000000000000000000000 t_MOST_AMOUNT)))
    (g_MOST_COUNT : PySem.W.nsIn K mainGlobals "MOST_COUNT" = some (some (.int 1000000000000000000 t_MOST_COUNT)))
    (g_MOST_BLOCKS : PySem.W.nsIn K mainGlobals "MOST_BLOCKS" = some (some (.int 400 t_MOST_BLOCKS)))
    (g_MOST_RUNS : PySem.W.nsIn K mainGlobals "MOST_RUNS" = some (some (.int 4000 t_MOST_RUNS)))
    (g_MOST_IN_BLOCK : PySem.W.nsIn K mainGlobals "MOST_IN_BLOCK" = some (some (.int 1000 t_MOST_IN_BLOCK)))
    (z_len : PySem.W.nsIn K mainGlobals "len" = some none)
    (z_isinstance : PySem.W.nsIn K mainGlobals "isinstance" = some none)
    (z_int : PySem.W.nsIn K mainGlobals "int" = some none)
    (z_bool : PySem.W.nsIn K mainGlobals "bool" = some none)
    (z_list : PySem.W.nsIn K mainGlobals "list" = some none)
    (z_tuple : PySem.W.nsIn K mainGlobals "tuple" = some none)
    (z_str : PySem.W.nsIn K mainGlobals "str" = some none)
    (z_all : PySem.W.nsIn K mainGlobals "all" = some none)
    (z_any : PySem.W.nsIn K mainGlobals "any" = some none)
    (z_zip : PySem.W.nsIn K mainGlobals "zip" = some none)
    (z_range : PySem.W.nsIn K mainGlobals "range" = some none)
    (z_abs : PySem.W.nsIn K mainGlobals "abs" = some none)
    (z_repr : PySem.W.nsIn K mainGlobals "repr" = some none)
    (z_min : PySem.W.nsIn K mainGlobals "min" = some none)
    (z_max : PySem.W.nsIn K mainGlobals "max" = some none)
    (z_sum : PySem.W.nsIn K mainGlobals "sum" = some none)
    (z_sorted : PySem.W.nsIn K mainGlobals "sorted" = some none)
    (z_enumerate : PySem.W.nsIn K mainGlobals "enumerate" = some none)
    (z_reversed : PySem.W.nsIn K mainGlobals "reversed" = some none)
    (z_set : PySem.W.nsIn K mainGlobals "set" = some none)
    (z_dict : PySem.W.nsIn K mainGlobals "dict" = some none)
    (z_ValueError : PySem.W.nsIn K mainGlobals "ValueError" = some none) :
    ∃ fd : FuncData, (∀ (s : Shared) (v : Value), BindsTo s fd ⟨[v], []⟩ [("_law_script", v)]) ∧ ∀ base : Heap, K.In base → base.Ns mainGlobals mg → FnG l.prog w K mg base CX0 9 fa fd ["_law_script"] (sp_law K) := by
  have T_Cluster : ClsR K mg C_Cluster "Cluster" := ⟨⟨Cluster_pg, Cluster_hd, Cluster_po, Cluster_sa⟩, PySem.W.mg_of X G Cluster_aC, Cluster_mk, Cluster_kc⟩
  haveI F_Cluster_limits : FldOk K C_Cluster "limits" := ⟨T_Cluster.cl, Cluster_n_limits⟩
  haveI F_Cluster_rows : FldOk K C_Cluster "rows" := ⟨T_Cluster.cl, Cluster_n_rows⟩
  haveI F_Cluster_numbers : FldOk K C_Cluster "numbers" := ⟨T_Cluster.cl, Cluster_n_numbers⟩
  have x_LeadError : ExC K ⟨C_Cluster, C_LeadError, C_Wrong, 0, C_Stopped, 0, 0, 0, 0, 0, 0, 0, 0, 0, 0, 0, 0, 0, 0⟩ .leadError := ⟨⟨⟨_, _, _, _, _, _, _, _, _, _, _, _, _, _, _, LeadError_ob, LeadError_vm⟩, LeadError_sa, LeadError_xC, LeadError_tt, LeadError_kc⟩, (fun f hf => by simp [Ek.flds] at hf), LeadError_ga, LeadError_gg, LeadError_hd, LeadError_is, LeadError_ha, x_hn, x_ht, LeadError_hm, LeadError_ve⟩
  have n_LeadError : mg "LeadError" = some (.ref (Ad.ex ⟨C_Cluster, C_LeadError, C_Wrong, 0, C_Stopped, 0, 0, 0, 0, 0, 0, 0, 0, 0, 0, 0, 0, 0, 0⟩ .leadError)) := PySem.W.mg_of X G LeadError_aC
  have x_Wrong : ExC K ⟨C_Cluster, C_LeadError, C_Wrong, 0, C_Stopped, 0, 0, 0, 0, 0, 0, 0, 0, 0, 0, 0, 0, 0, 0⟩ .wrong := ⟨⟨⟨_, _, _, _, _, _, _, _, _, _, _, _, _, _, _, Wrong_ob, Wrong_vm⟩, Wrong_sa, Wrong_xC, Wrong_tt, Wrong_kc⟩, (fun f hf => by simp only [Ek.flds, List.mem_cons, List.not_mem_nil, or_false] at hf; rcases hf with rfl <;> assumption), Wrong_ga, Wrong_gg, Wrong_hd, Wrong_is, Wrong_ha, x_hn, x_ht, Wrong_hm, Wrong_ve⟩
  have n_Wrong : mg "Wrong" = some (.ref (Ad.ex ⟨C_Cluster, C_LeadError, C_Wrong, 0, C_Stopped, 0, 0, 0, 0, 0, 0, 0, 0, 0, 0, 0, 0, 0, 0⟩ .wrong)) := PySem.W.mg_of X G Wrong_aC
  have x_Stopped : ExC K ⟨C_Cluster, C_LeadError, C_Wrong, 0, C_Stopped, 0, 0, 0, 0, 0, 0, 0, 0, 0, 0, 0, 0, 0, 0⟩ .stopped := ⟨⟨⟨_, _, _, _, _, _, _, _, _, _, _, _, _, _, _, Stopped_ob, Stopped_vm⟩, Stopped_sa, Stopped_xC, Stopped_tt, Stopped_kc⟩, (fun f hf => by simp only [Ek.flds, List.mem_cons, List.not_mem_nil, or_false] at hf; rcases hf with rfl | rfl | rfl <;> assumption), Stopped_ga, Stopped_gg, Stopped_hd, Stopped_is, Stopped_ha, x_hn, x_ht, Stopped_hm, Stopped_ve⟩
  have n_Stopped : mg "Stopped" = some (.ref (Ad.ex ⟨C_Cluster, C_LeadError, C_Wrong, 0, C_Stopped, 0, 0, 0, 0, 0, 0, 0, 0, 0, 0, 0, 0, 0, 0⟩ .stopped)) := PySem.W.mg_of X G Stopped_aC
  have BC : BaseC K (Ad.ex ⟨C_Cluster, C_LeadError, C_Wrong, 0, C_Stopped, 0, 0, 0, 0, 0, 0, 0, 0, 0, 0, 0, 0, 0, 0⟩ .leadError) := ⟨b_ga, b_rd, b_vi⟩
  have EF : ExF K ⟨C_Cluster, C_LeadError, C_Wrong, 0, C_Stopped, 0, 0, 0, 0, 0, 0, 0, 0, 0, 0, 0, 0, 0, 0⟩ [.leadError, .wrong, .stopped] := ⟨fun k hk => by simp only [List.mem_cons, List.not_mem_nil, or_false] at hk; rcases hk with rfl | rfl | rfl <;> assumption, fun k hk k2 hk2 => by simp only [List.mem_cons, List.not_mem_nil, or_false] at hk hk2; rcases hk with rfl | rfl | rfl <;> rcases hk2 with rfl | rfl | rfl <;> assumption⟩
  have D__law_bag : Def K mg "_law_bag" s__law_bag ["_law_script"] := def_mk X G a1 l1 c1 k1 (fun _ _ _ _ _ _ us hl => match us, hl with | [_], _ => rfl)
  have D__law_take : Def K mg "_law_take" s__law_take ["_law_bag_here", "_law_many"] := def_mk X G a2 l2 c2 k2 (fun _ _ _ _ _ _ us hl => match us, hl with | [_, _], _ => rfl)
  have D__law_case : Def K mg "_law_case" s__law_case ["_law_bag_here"] := def_mk X G a3 l3 c3 k3 (fun _ _ _ _ _ _ us hl => match us, hl with | [_], _ => rfl)
  have D_is_integer : Def K mg "is_integer" s_is_integer ["thing"] := def_mk X G a4 l4 c4 k4 (fun _ _ _ _ _ _ us hl => match us, hl with | [_], _ => rfl)
  have D_is_between : Def K mg "is_between" s_is_between ["thing", "least", "most"] := def_mk X G a5 l5 c5 k5 (fun _ _ _ _ _ _ us hl => match us, hl with | [_, _, _], _ => rfl)
  have D_is_amount : Def K mg "is_amount" s_is_amount ["thing"] := def_mk X G a6 l6 c6 k6 (fun _ _ _ _ _ _ us hl => match us, hl with | [_], _ => rfl)
  have D_is_bound : Def K mg "is_bound" s_is_bound ["thing"] := def_mk X G a7 l7 c7 k7 (fun _ _ _ _ _ _ us hl => match us, hl with | [_], _ => rfl)
  have D_are_bounds : Def K mg "are_bounds" s_are_bounds ["thing"] := def_mk X G a8 l8 c8 k8 (fun _ _ _ _ _ _ us hl => match us, hl with | [_], _ => rfl)
  have D_is_broker : Def K mg "is_broker" s_is_broker ["thing", "size"] := def_mk X G a9 l9 c9 k9 (fun _ _ _ _ _ _ us hl => match us, hl with | [_, _], _ => rfl)
  have D_is_count : Def K mg "is_count" s_is_count ["thing"] := def_mk X G a10 l10 c10 k10 (fun _ _ _ _ _ _ us hl => match us, hl with | [_], _ => rfl)
  have D_is_bundle : Def K mg "is_bundle" s_is_bundle ["thing", "size"] := def_mk X G a11 l11 c11 k11 (fun _ _ _ _ _ _ us hl => match us, hl with | [_, _], _ => rfl)
  have D_are_bundles : Def K mg "are_bundles" s_are_bundles ["thing", "size"] := def_mk X G a12 l12 c12 k12 (fun _ _ _ _ _ _ us hl => match us, hl with | [_, _], _ => rfl)
  have D_Cluster___init__ : MDef K C_Cluster "__init__" "Cluster.__init__" s_Cluster___init__ ["self", "bounds", "bundles"] := mdef_mk a13 i13 l13 c13 k13 (fun _ _ _ _ _ _ us hl => match us, hl with | [_, _, _], _ => rfl)
  have D_Stopped___init__ : MDef K (Ad.ex ⟨C_Cluster, C_LeadError, C_Wrong, 0, C_Stopped, 0, 0, 0, 0, 0, 0, 0, 0, 0, 0, 0, 0, 0, 0⟩ .stopped) "__init__" "Stopped.__init__" s_Stopped___init__ ["self", "block", "turn", "run"] := mdef_mk a14 i14 l14 c14 k14 (fun _ _ _ _ _ _ us hl => match us, hl with | [_, _, _, _], _ => rfl)
  have D_Cluster_bundle_of : MDef K C_Cluster "bundle_of" "Cluster.bundle_of" s_Cluster_bundle_of ["self", "one", "other"] := mdef_mk a15 i15 l15 c15 k15 (fun _ _ _ _ _ _ us hl => match us, hl with | [_, _, _], _ => rfl)
  have D_moved : Def K mg "moved" s_moved ["cluster", "leads", "run"] := def_mk X G a16 l16 c16 k16 (fun _ _ _ _ _ _ us hl => match us, hl with | [_, _, _], _ => rfl)
  have D_after_turn : Def K mg "after_turn" s_after_turn ["cluster", "leads", "runs"] := def_mk X G a17 l17 c17 k17 (fun _ _ _ _ _ _ us hl => match us, hl with | [_, _, _], _ => rfl)
  have D_Cluster_size : MDef K C_Cluster "size" "Cluster.size" s_Cluster_size ["self"] := mdef_mk a18 i18 l18 c18 k18 (fun _ _ _ _ _ _ us hl => match us, hl with | [_], _ => rfl)
  have D_Cluster_bundles : MDef K C_Cluster "bundles" "Cluster.bundles" s_Cluster_bundles ["self"] := mdef_mk a19 i19 l19 c19 k19 (fun _ _ _ _ _ _ us hl => match us, hl with | [_], _ => rfl)
  have D_loads : Def K mg "loads" s_loads ["cluster", "leads"] := def_mk X G a20 l20 c20 k20 (fun _ _ _ _ _ _ us hl => match us, hl with | [_, _], _ => rfl)
  have D_Cluster_floor : MDef K C_Cluster "floor" "Cluster.floor" s_Cluster_floor ["self", "broker"] := mdef_mk a21 i21 l21 c21 k21 (fun _ _ _ _ _ _ us hl => match us, hl with | [_, _], _ => rfl)
  have D_Cluster_ceiling : MDef K C_Cluster "ceiling" "Cluster.ceiling" s_Cluster_ceiling ["self", "broker"] := mdef_mk a22 i22 l22 c22 k22 (fun _ _ _ _ _ _ us hl => match us, hl with | [_, _], _ => rfl)
  have D_led : Def K mg "led" s_led ["cluster", "leads", "one", "other"] := def_mk X G a23 l23 c23 k23 (fun _ _ _ _ _ _ us hl => match us, hl with | [_, _, _, _], _ => rfl)
  have D_spares : Def K mg "spares" s_spares ["cluster", "leads", "run"] := def_mk X G a24 l24 c24 k24 (fun _ _ _ _ _ _ us hl => match us, hl with | [_, _, _], _ => rfl)
  have D_first_stop : Def K mg "first_stop" s_first_stop ["cluster", "leads", "runs"] := def_mk X G a25 l25 c25 k25 (fun _ _ _ _ _ _ us hl => match us, hl with | [_, _, _], _ => rfl)
  have D_play : Def K mg "play" s_play ["cluster", "leads", "plan"] := def_mk X G a26 l26 c26 k26 (fun _ _ _ _ _ _ us hl => match us, hl with | [_, _, _], _ => rfl)
  have D__law_told : Def K mg "_law_told" s__law_told ["_law_cluster", "_law_leads", "_law_plan"] := def_mk X G a27 l27 c27 k27 (fun _ _ _ _ _ _ us hl => match us, hl with | [_, _, _], _ => rfl)
  have D__law_alike : Def K mg "_law_alike" s__law_alike ["_law_found", "_law_due"] := def_mk X G a28 l28 c28 k28 (fun _ _ _ _ _ _ us hl => match us, hl with | [_, _], _ => rfl)
  have D_is_run : Def K mg "is_run" s_is_run ["thing", "size"] := def_mk X G a29 l29 c29 k29 (fun _ _ _ _ _ _ us hl => match us, hl with | [_, _], _ => rfl)
  have D_is_block : Def K mg "is_block" s_is_block ["thing", "size"] := def_mk X G a30 l30 c30 k30 (fun _ _ _ _ _ _ us hl => match us, hl with | [_, _], _ => rfl)
  have D_are_blocks : Def K mg "are_blocks" s_are_blocks ["thing", "size"] := def_mk X G a31 l31 c31 k31 (fun _ _ _ _ _ _ us hl => match us, hl with | [_, _], _ => rfl)
  have D_is_plan : Def K mg "is_plan" s_is_plan ["cluster", "thing"] := def_mk X G a32 l32 c32 k32 (fun _ _ _ _ _ _ us hl => match us, hl with | [_, _], _ => rfl)
  have D_leads_to : Def K mg "leads_to" s_leads_to ["cluster", "leads", "goal", "thing"] := def_mk X G a33 l33 c33 k33 (fun _ _ _ _ _ _ us hl => match us, hl with | [_, _, _, _], _ => rfl)
  have D_most_turns : Def K mg "most_turns" s_most_turns ["cluster", "leads", "runs"] := def_mk X G a34 l34 c34 k34 (fun _ _ _ _ _ _ us hl => match us, hl with | [_, _, _], _ => rfl)
  have D_law : Def K mg "law" s_law ["_law_script"] := def_mk X G a35 l35 c35 k35 (fun _ _ _ _ _ _ us hl => match us, hl with | [_], _ => rfl)
  have m_MOST_BROKERS := PySem.W.mg_of X G g_MOST_BROKERS
  have m_MOST_BUNDLES := PySem.W.mg_of X G g_MOST_BUNDLES
  have m_MOST_AMOUNT := PySem.W.mg_of X G g_MOST_AMOUNT
  have m_MOST_COUNT := PySem.W.mg_of X G g_MOST_COUNT
  have m_MOST_BLOCKS := PySem.W.mg_of X G g_MOST_BLOCKS
  have m_MOST_RUNS := PySem.W.mg_of X G g_MOST_RUNS
  have m_MOST_IN_BLOCK := PySem.W.mg_of X G g_MOST_IN_BLOCK
  have B : Blt mg := ⟨PySem.W.mg_none_of X G z_len, PySem.W.mg_none_of X G z_isinstance, PySem.W.mg_none_of X G z_int, PySem.W.mg_none_of X G z_bool, PySem.W.mg_none_of X G z_list, PySem.W.mg_none_of X G z_tuple, PySem.W.mg_none_of X G z_str, PySem.W.mg_none_of X G z_all, PySem.W.mg_none_of X G z_any, PySem.W.mg_none_of X G z_zip, PySem.W.mg_none_of X G z_range, PySem.W.mg_none_of X G z_abs, PySem.W.mg_none_of X G z_repr, PySem.W.mg_none_of X G z_min, PySem.W.mg_none_of X G z_max, PySem.W.mg_none_of X G z_sum, PySem.W.mg_none_of X G z_sorted, PySem.W.mg_none_of X G z_enumerate, PySem.W.mg_none_of X G z_reversed, PySem.W.mg_none_of X G z_set, PySem.W.mg_none_of X G z_dict, PySem.W.mg_none_of X G z_ValueError⟩
  refine law_end D_law hfa (fun _ _ _ _ _ _ _ => rfl) (fun base _ _ => ?_)
  have c__law_bag := ok__law_bag (P := l.prog) (w := w) (base := base) D__law_bag B
  have c__law_take := R.Cal.imp (ok__law_take (P := l.prog) (w := w) (base := base) D__law_take B) (fun _ _ _ _ z => sp_take_of (K := K) z)
  have c__law_case := ok__law_case (P := l.prog) (w := w) (base := base) (A := ⟨C_Cluster, C_LeadError, C_Wrong, 0, C_Stopped, 0, 0, 0, 0, 0, 0, 0, 0, 0, 0, 0, 0, 0, 0⟩) D__law_case B c__law_take
  have c_is_integer := ok_is_integer (P := l.prog) (w := w) (base := base) (A := ⟨C_Cluster, C_LeadError, C_Wrong, 0, C_Stopped, 0, 0, 0, 0, 0, 0, 0, 0, 0, 0, 0, 0, 0, 0⟩) D_is_integer B
  have c_is_between := ok_is_between (P := l.prog) (w := w) (base := base) (A := ⟨C_Cluster, C_LeadError, C_Wrong, 0, C_Stopped, 0, 0, 0, 0, 0, 0, 0, 0, 0, 0, 0, 0, 0, 0⟩) D_is_between B c_is_integer
  have c_is_amount := ok_is_amount (P := l.prog) (w := w) (base := base) (A := ⟨C_Cluster, C_LeadError, C_Wrong, 0, C_Stopped, 0, 0, 0, 0, 0, 0, 0, 0, 0, 0, 0, 0, 0, 0⟩) D_is_amount B m_MOST_AMOUNT c_is_between
  have c_is_bound := ok_is_bound (P := l.prog) (w := w) (base := base) (A := ⟨C_Cluster, C_LeadError, C_Wrong, 0, C_Stopped, 0, 0, 0, 0, 0, 0, 0, 0, 0, 0, 0, 0, 0, 0⟩) D_is_bound B c_is_amount
  have c_are_bounds := ok_are_bounds (P := l.prog) (w := w) (base := base) (A := ⟨C_Cluster, C_LeadError, C_Wrong, 0, C_Stopped, 0, 0, 0, 0, 0, 0, 0, 0, 0, 0, 0, 0, 0, 0⟩) D_are_bounds B m_MOST_BROKERS c_is_bound
  have c_is_broker := ok_is_broker (P := l.prog) (w := w) (base := base) (A := ⟨C_Cluster, C_LeadError, C_Wrong, 0, C_Stopped, 0, 0, 0, 0, 0, 0, 0, 0, 0, 0, 0, 0, 0, 0⟩) D_is_broker B c_is_between
  have c_is_count := ok_is_count (P := l.prog) (w := w) (base := base) (A := ⟨C_Cluster, C_LeadError, C_Wrong, 0, C_Stopped, 0, 0, 0, 0, 0, 0, 0, 0, 0, 0, 0, 0, 0, 0⟩) D_is_count B m_MOST_COUNT c_is_between
  have c_is_bundle := ok_is_bundle (P := l.prog) (w := w) (base := base) (A := ⟨C_Cluster, C_LeadError, C_Wrong, 0, C_Stopped, 0, 0, 0, 0, 0, 0, 0, 0, 0, 0, 0, 0, 0, 0⟩) D_is_bundle B c_is_broker c_is_count
  have c_are_bundles := ok_are_bundles (P := l.prog) (w := w) (base := base) (A := ⟨C_Cluster, C_LeadError, C_Wrong, 0, C_Stopped, 0, 0, 0, 0, 0, 0, 0, 0, 0, 0, 0, 0, 0, 0⟩) D_are_bundles B m_MOST_BUNDLES c_is_bundle
  have c_Cluster___init__ := ok_Cluster___init__ (P := l.prog) (w := w) (base := base) (A := ⟨C_Cluster, C_LeadError, C_Wrong, 0, C_Stopped, 0, 0, 0, 0, 0, 0, 0, 0, 0, 0, 0, 0, 0, 0⟩) D_Cluster___init__ B c_are_bounds c_are_bundles
  have c_Stopped___init__ := ok_Stopped___init__ (P := l.prog) (w := w) (base := base) (A := ⟨C_Cluster, C_LeadError, C_Wrong, 0, C_Stopped, 0, 0, 0, 0, 0, 0, 0, 0, 0, 0, 0, 0, 0, 0⟩) D_Stopped___init__ n_LeadError BC x_Stopped
  have c_Cluster_bundle_of := ok_Cluster_bundle_of (P := l.prog) (w := w) (base := base) (A := ⟨C_Cluster, C_LeadError, C_Wrong, 0, C_Stopped, 0, 0, 0, 0, 0, 0, 0, 0, 0, 0, 0, 0, 0, 0⟩) D_Cluster_bundle_of B
  have c_moved := ok_moved (P := l.prog) (w := w) (base := base) (A := ⟨C_Cluster, C_LeadError, C_Wrong, 0, C_Stopped, 0, 0, 0, 0, 0, 0, 0, 0, 0, 0, 0, 0, 0, 0⟩) D_moved B T_Cluster c_Cluster_bundle_of
  have c_after_turn := ok_after_turn (P := l.prog) (w := w) (base := base) (A := ⟨C_Cluster, C_LeadError, C_Wrong, 0, C_Stopped, 0, 0, 0, 0, 0, 0, 0, 0, 0, 0, 0, 0, 0, 0⟩) D_after_turn B c_moved
  have c_Cluster_size := ok_Cluster_size (P := l.prog) (w := w) (base := base) (A := ⟨C_Cluster, C_LeadError, C_Wrong, 0, C_Stopped, 0, 0, 0, 0, 0, 0, 0, 0, 0, 0, 0, 0, 0, 0⟩) D_Cluster_size B
  have c_Cluster_bundles := ok_Cluster_bundles (P := l.prog) (w := w) (base := base) (A := ⟨C_Cluster, C_LeadError, C_Wrong, 0, C_Stopped, 0, 0, 0, 0, 0, 0, 0, 0, 0, 0, 0, 0, 0, 0⟩) D_Cluster_bundles B
  have c_loads := ok_loads (P := l.prog) (w := w) (base := base) (A := ⟨C_Cluster, C_LeadError, C_Wrong, 0, C_Stopped, 0, 0, 0, 0, 0, 0, 0, 0, 0, 0, 0, 0, 0, 0⟩) D_loads B T_Cluster c_Cluster_size c_Cluster_bundles
  have c_Cluster_floor := ok_Cluster_floor (P := l.prog) (w := w) (base := base) (A := ⟨C_Cluster, C_LeadError, C_Wrong, 0, C_Stopped, 0, 0, 0, 0, 0, 0, 0, 0, 0, 0, 0, 0, 0, 0⟩) D_Cluster_floor B
  have c_Cluster_ceiling := ok_Cluster_ceiling (P := l.prog) (w := w) (base := base) (A := ⟨C_Cluster, C_LeadError, C_Wrong, 0, C_Stopped, 0, 0, 0, 0, 0, 0, 0, 0, 0, 0, 0, 0, 0, 0⟩) D_Cluster_ceiling B
  have c_led := ok_led (P := l.prog) (w := w) (base := base) (A := ⟨C_Cluster, C_LeadError, C_Wrong, 0, C_Stopped, 0, 0, 0, 0, 0, 0, 0, 0, 0, 0, 0, 0, 0, 0⟩) D_led B T_Cluster c_Cluster_bundle_of c_Cluster_bundles
  have c_spares := ok_spares (P := l.prog) (w := w) (base := base) (A := ⟨C_Cluster, C_LeadError, C_Wrong, 0, C_Stopped, 0, 0, 0, 0, 0, 0, 0, 0, 0, 0, 0, 0, 0, 0⟩) D_spares B T_Cluster c_loads c_Cluster_floor c_Cluster_ceiling c_led
  have c_first_stop := ok_first_stop (P := l.prog) (w := w) (base := base) (A := ⟨C_Cluster, C_LeadError, C_Wrong, 0, C_Stopped, 0, 0, 0, 0, 0, 0, 0, 0, 0, 0, 0, 0, 0, 0⟩) D_first_stop B c_after_turn c_spares c_moved
  have c_play := ok_play (P := l.prog) (w := w) (base := base) (A := ⟨C_Cluster, C_LeadError, C_Wrong, 0, C_Stopped, 0, 0, 0, 0, 0, 0, 0, 0, 0, 0, 0, 0, 0, 0⟩) D_play B c_Stopped___init__ c_first_stop c_after_turn n_Stopped x_Stopped
  haveI EF__law_told : ExF K ⟨C_Cluster, C_LeadError, C_Wrong, 0, C_Stopped, 0, 0, 0, 0, 0, 0, 0, 0, 0, 0, 0, 0, 0, 0⟩ [.leadError, .stopped] := EF.sub (by decide)
  have c__law_told := ok__law_told (P := l.prog) (w := w) (base := base) (A := ⟨C_Cluster, C_LeadError, C_Wrong, 0, C_Stopped, 0, 0, 0, 0, 0, 0, 0, 0, 0, 0, 0, 0, 0, 0⟩) (EF := EF__law_told) D__law_told B c_play n_LeadError n_Stopped
  have c__law_alike := ok__law_alike (P := l.prog) (w := w) (base := base) (A := ⟨C_Cluster, C_LeadError, C_Wrong, 0, C_Stopped, 0, 0, 0, 0, 0, 0, 0, 0, 0, 0, 0, 0, 0, 0⟩) D__law_alike B
  have c_is_run := ok_is_run (P := l.prog) (w := w) (base := base) (A := ⟨C_Cluster, C_LeadError, C_Wrong, 0, C_Stopped, 0, 0, 0, 0, 0, 0, 0, 0, 0, 0, 0, 0, 0, 0⟩) D_is_run B c_is_broker c_is_count
  have c_is_block := ok_is_block (P := l.prog) (w := w) (base := base) (A := ⟨C_Cluster, C_LeadError, C_Wrong, 0, C_Stopped, 0, 0, 0, 0, 0, 0, 0, 0, 0, 0, 0, 0, 0, 0⟩) D_is_block B m_MOST_IN_BLOCK c_is_count c_is_run
  have c_are_blocks := ok_are_blocks (P := l.prog) (w := w) (base := base) (A := ⟨C_Cluster, C_LeadError, C_Wrong, 0, C_Stopped, 0, 0, 0, 0, 0, 0, 0, 0, 0, 0, 0, 0, 0, 0⟩) D_are_blocks B m_MOST_BLOCKS m_MOST_RUNS c_is_block
  have c_is_plan := ok_is_plan (P := l.prog) (w := w) (base := base) (A := ⟨C_Cluster, C_LeadError, C_Wrong, 0, C_Stopped, 0, 0, 0, 0, 0, 0, 0, 0, 0, 0, 0, 0, 0, 0⟩) D_is_plan B T_Cluster c_are_blocks c_Cluster_size c_Cluster_bundle_of
  haveI EF_leads_to : ExF K ⟨C_Cluster, C_LeadError, C_Wrong, 0, C_Stopped, 0, 0, 0, 0, 0, 0, 0, 0, 0, 0, 0, 0, 0, 0⟩ [.stopped] := EF.sub (by decide)
  have c_leads_to := ok_leads_to (P := l.prog) (w := w) (base := base) (A := ⟨C_Cluster, C_LeadError, C_Wrong, 0, C_Stopped, 0, 0, 0, 0, 0, 0, 0, 0, 0, 0, 0, 0, 0, 0⟩) (EF := EF_leads_to) D_leads_to B c_is_plan c_play n_Stopped
  have c_most_turns := ok_most_turns (P := l.prog) (w := w) (base := base) (A := ⟨C_Cluster, C_LeadError, C_Wrong, 0, C_Stopped, 0, 0, 0, 0, 0, 0, 0, 0, 0, 0, 0, 0, 0, 0⟩) D_most_turns B c_first_stop
  exact ok_law (A := ⟨C_Cluster, C_LeadError, C_Wrong, 0, C_Stopped, 0, 0, 0, 0, 0, 0, 0, 0, 0, 0, 0, 0, 0, 0⟩) D_law B T_Cluster c__law_bag c__law_case c_Cluster___init__ c__law_told c__law_alike c_leads_to c_most_turns (k24_law _)
theorem walk_law {l : PySem.W.OpenLaw} {q : Program} {loose : List Str} {XP : (Str → Option Value) → Heap → Prop} {YP : World → Heap → Prop} {d : DefRec} {K : Params → PySem.W.Frag} (hn : l.most = some 63) (hdf : d.params.defaults = [])
    (hY : ∀ (w : World) (h : Heap), YP w h → (K w.params).In h)
    (F : ∀ (w : World) (mg : Str → Option Value) (fa : Addr) (h : Heap), (K w.params).In h → h.Ns mainGlobals mg → mg d.name = some (.ref fa) →
      ∃ fd : FuncData, (∀ (s : Shared) (u : Value), BindsTo s fd ⟨[u], []⟩ [("_law_script", u)]) ∧ ∀ base : Heap, (K w.params).In base → base.Ns mainGlobals mg → FnG l.prog w (K w.params) mg base CX0 9 fa fd ["_law_script"] (sp_law (K w.params))) :
    PySem.W.WalkO q loose XP YP l.row.toRowW d [] (fun f vs => PySem.call f vs) :=
  walk_ofG (n := 63) (k := 9) (x := "_law_script") (cx := fun _ => CX0) (sp := fun w => (sp_law (K w.params))) hn (by decide) hdf ⟨rfl, by decide, by decide⟩ hY F (fun _ _ a ns hl _ hS => ⟨a, ns, rfl, hS, hl, fun _ => rfl⟩) fun _ _ _ _ _ z => z
end R

open PySem PySem.W PyProof.Rows in
set_option maxRecDepth 100000 in
set_option maxHeartbeats 0 in
theorem PySem.Challenge.cw_leadswitch_k24_stopped_far_holds : PySem.Challenge.rw_leadswitch_k24_stopped_far.Holds := by
  w_on; o_law; k_head; (case hw => w_witness2)
  k_fill
  refine R.walk_law (l := PySem.Challenge.rw_leadswitch_k24_stopped_far) rfl rfl (fun w h Y => PySem.W.kIn_of Y) ?F
  case F =>
    intro w mg fa h KX gn hmg
    refine' R.all_mk KX gn hmg ?Cluster_aC ?Cluster_pg ?Cluster_hd ?Cluster_po ?Cluster_sa ?Cluster_mk ?Cluster_kc ?Cluster_n_limits ?Cluster_n_rows ?Cluster_n_numbers ?LeadError_aC ?LeadError_ob ?LeadError_vm ?LeadError_sa ?LeadError_xC ?LeadError_tt ?LeadError_kc ?LeadError_ga ?LeadError_gg ?LeadError_hd ?LeadError_is ?LeadError_ha ?LeadError_hm ?LeadError_ve ?Wrong_aC ?Wrong_ob ?Wrong_vm ?Wrong_sa ?Wrong_xC ?Wrong_tt ?Wrong_kc ?Wrong_n_place ?Wrong_ga ?Wrong_gg ?Wrong_hd ?Wrong_is ?Wrong_ha ?Wrong_hm ?Wrong_ve ?Stopped_aC ?Stopped_ob ?Stopped_vm ?Stopped_sa ?Stopped_xC ?Stopped_tt ?Stopped_kc ?Stopped_n_block ?Stopped_n_turn ?Stopped_n_run ?Stopped_ga ?Stopped_gg ?Stopped_hd ?Stopped_is ?Stopped_ha ?Stopped_hm ?Stopped_ve ?x_hn ?x_ht ?b_ga ?b_rd ?b_vi ?s_LeadError_LeadError ?s_LeadError_Wrong ?s_LeadError_Stopped ?s_Wrong_LeadError ?s_Wrong_Wrong ?s_Wrong_Stopped ?s_Stopped_LeadError ?s_Stopped_Wrong ?s_Stopped_Stopped ?a1 ?l1 ?c1 ?k1 ?a2 ?l2 ?c2 ?k2 ?a3 ?l3 ?c3 ?k3 ?a4 ?l4 ?c4 ?k4 ?a5 ?l5 ?c5 ?k5 ?a6 ?l6 ?c6 ?k6 ?a7 ?l7 ?c7 ?k7 ?a8 ?l8 ?c8 ?k8 ?a9 ?l9 ?c9 ?k9 ?a10 ?l10 ?c10 ?k10 ?a11 ?l11 ?c11 ?k11 ?a12 ?l12 ?c12 ?k12 ?a13 ?i13 ?l13 ?c13 ?k13 ?a14 ?i14 ?l14 ?c14 ?k14 ?a15 ?i15 ?l15 ?c15 ?k15 ?a16 ?l16 ?c16 ?k16 ?a17 ?l17 ?c17 ?k17 ?a18 ?i18 ?l18 ?c18 ?k18 ?a19 ?i19 ?l19 ?c19 ?k19 ?a20 ?l20 ?c20 ?k20 ?a21 ?i21 ?l21 ?c21 ?k21 ?a22 ?i22 ?l22 ?c22 ?k22 ?a23 ?l23 ?c23 ?k23 ?a24 ?l24 ?c24 ?k24 ?a25 ?l25 ?c25 ?k25 ?a26 ?l26 ?c26 ?k26 ?a27 ?l27 ?c27 ?k27 ?a28 ?l28 ?c28 ?k28 ?a29 ?l29 ?c29 ?k29 ?a30 ?l30 ?c30 ?k30 ?a31 ?l31 ?c31 ?k31 ?a32 ?l32 ?c32 ?k32 ?a33 ?l33 ?c33 ?k33 ?a34 ?l34 ?c34 ?k34 ?a35 ?l35 ?c35 ?k35 ?g_MOST_BROKERS ?g_MOST_BUNDLES ?g_MOST_AMOUNT ?g_MOST_COUNT ?g_MOST_BLOCKS ?g_MOST_RUNS ?g_MOST_IN_BLOCK ?z_len ?z_isinstance ?z_int ?z_bool ?z_list ?z_tuple ?z_str ?z_all ?z_any ?z_zip ?z_range ?z_abs ?z_repr ?z_min ?z_max ?z_sum ?z_sorted ?z_enumerate ?z_reversed ?z_set ?z_dict ?z_ValueError
    (case Cluster_aC => k_is)
    (case Cluster_pg => k_is)
    (case Cluster_hd => k_is)
    (case Cluster_po => k_is)
    (case Cluster_sa => k_is)
    (case Cluster_mk => k_is)
    (case Cluster_kc => k_is)
    (case Cluster_n_limits => k_is)
    (case Cluster_n_rows => k_is)
    (case Cluster_n_numbers => k_is)
    (case LeadError_aC => k_is)
    (case LeadError_ob => k_is)
    (case LeadError_vm => decide +kernel)
    (case LeadError_sa => k_is)
    (case LeadError_xC => k_is)
    (case LeadError_tt => k_is)
    (case LeadError_kc => k_is)
    (case LeadError_ga => k_is)
    (case LeadError_gg => k_is)
    (case LeadError_hd => k_is)
    (case LeadError_is => k_is)
    (case LeadError_ha => k_is)
    (case LeadError_hm => k_is)
    (case LeadError_ve => k_is)
    (case Wrong_aC => k_is)
    (case Wrong_ob => k_is)
    (case Wrong_vm => decide +kernel)
    (case Wrong_sa => k_is)
    (case Wrong_xC => k_is)
    (case Wrong_tt => k_is)
    (case Wrong_kc => k_is)
    (case Wrong_n_place => k_is)
    (case Wrong_ga => k_is)
    (case Wrong_gg => k_is)
    (case Wrong_hd => k_is)
    (case Wrong_is => k_is)
    (case Wrong_ha => k_is)
    (case Wrong_hm => k_is)
    (case Wrong_ve => k_is)
    (case Stopped_aC => k_is)
    (case Stopped_ob => k_is)
    (case Stopped_vm => decide +kernel)
    (case Stopped_sa => k_is)
    (case Stopped_xC => k_is)
    (case Stopped_tt => k_is)
    (case Stopped_kc => k_is)
    (case Stopped_n_block => k_is)
    (case Stopped_n_turn => k_is)
    (case Stopped_n_run => k_is)
    (case Stopped_ga => k_is)
    (case Stopped_gg => k_is)
    (case Stopped_hd => k_is)
    (case Stopped_is => k_is)
    (case Stopped_ha => k_is)
    (case Stopped_hm => k_is)
    (case Stopped_ve => k_is)
    (case x_hn => k_is)
    (case x_ht => k_is)
    (case b_ga => k_is)
    (case b_rd => k_is)
    (case b_vi => k_is)
    (case s_LeadError_LeadError => k_is)
    (case s_LeadError_Wrong => k_is)
    (case s_LeadError_Stopped => k_is)
    (case s_Wrong_LeadError => k_is)
    (case s_Wrong_Wrong => k_is)
    (case s_Wrong_Stopped => k_is)
    (case s_Stopped_LeadError => k_is)
    (case s_Stopped_Wrong => k_is)
    (case s_Stopped_Stopped => k_is)
    (case a1 => k_is)
    (case l1 => k_is)
    (case c1 => k_is)
    (case k1 => k_is)
    (case a2 => k_is)
    (case l2 => k_is)
    (case c2 => k_is)
    (case k2 => k_is)
    (case a3 => k_is)
    (case l3 => k_is)
    (case c3 => k_is)
    (case k3 => k_is)
    (case a4 => k_is)
    (case l4 => k_is)
    (case c4 => k_is)
    (case k4 => k_is)
    (case a5 => k_is)
    (case l5 => k_is)
    (case c5 => k_is)
    (case k5 => k_is)
    (case a6 => k_is)
    (case l6 => k_is)
    (case c6 => k_is)
    (case k6 => k_is)
    (case a7 => k_is)
    (case l7 => k_is)
    (case c7 => k_is)
    (case k7 => k_is)
    (case a8 => k_is)
    (case l8 => k_is)
    (case c8 => k_is)
    (case k8 => k_is)
    (case a9 => k_is)
    (case l9 => k_is)
    (case c9 => k_is)
    (case k9 => k_is)
    (case a10 => k_is)
    (case l10 => k_is)
    (case c10 => k_is)
    (case k10 => k_is)
    (case a11 => k_is)
    (case l11 => k_is)
    (case c11 => k_is)
    (case k11 => k_is)
    (case a12 => k_is)
    (case l12 => k_is)
    (case c12 => k_is)
    (case k12 => k_is)
    (case a13 => k_is)
    (case i13 => k_is)
    (case l13 => k_is)
    (case c13 => k_is)
    (case k13 => k_is)
    (case a14 => k_is)
    (case i14 => k_is)
    (case l14 => k_is)
    (case c14 => k_is)
    (case k14 => k_is)
    (case a15 => k_is)
    (case i15 => k_is)
    (case l15 => k_is)
    (case c15 => k_is)
    (case k15 => k_is)
    (case a16 => k_is)
    (case l16 => k_is)
    (case c16 => k_is)
    (case k16 => k_is)
    (case a17 => k_is)
    (case l17 => k_is)
    (case c17 => k_is)
    (case k17 => k_is)
    (case a18 => k_is)
    (case i18 => k_is)
    (case l18 => k_is)
    (case c18 => k_is)
    (case k18 => k_is)
    (case a19 => k_is)
    (case i19 => k_is)
    (case l19 => k_is)
    (case c19 => k_is)
    (case k19 => k_is)
    (case a20 => k_is)
    (case l20 => k_is)
    (case c20 => k_is)
    (case k20 => k_is)
    (case a21 => k_is)
    (case i21 => k_is)
    (case l21 => k_is)
    (case c21 => k_is)
    (case k21 => k_is)
    (case a22 => k_is)
    (case i22 => k_is)
    (case l22 => k_is)
    (case c22 => k_is)
    (case k22 => k_is)
    (case a23 => k_is)
    (case l23 => k_is)
    (case c23 => k_is)
    (case k23 => k_is)
    (case a24 => k_is)
    (case l24 => k_is)
    (case c24 => k_is)
    (case k24 => k_is)
    (case a25 => k_is)
    (case l25 => k_is)
    (case c25 => k_is)
    (case k25 => k_is)
    (case a26 => k_is)
    (case l26 => k_is)
    (case c26 => k_is)
    (case k26 => k_is)
    (case a27 => k_is)
    (case l27 => k_is)
    (case c27 => k_is)
    (case k27 => k_is)
    (case a28 => k_is)
    (case l28 => k_is)
    (case c28 => k_is)
    (case k28 => k_is)
    (case a29 => k_is)
    (case l29 => k_is)
    (case c29 => k_is)
    (case k29 => k_is)
    (case a30 => k_is)
    (case l30 => k_is)
    (case c30 => k_is)
    (case k30 => k_is)
    (case a31 => k_is)
    (case l31 => k_is)
    (case c31 => k_is)
    (case k31 => k_is)
    (case a32 => k_is)
    (case l32 => k_is)
    (case c32 => k_is)
    (case k32 => k_is)
    (case a33 => k_is)
    (case l33 => k_is)
    (case c33 => k_is)
    (case k33 => k_is)
    (case a34 => k_is)
    (case l34 => k_is)
    (case c34 => k_is)
    (case k34 => k_is)
    (case a35 => k_is)
    (case l35 => k_is)
    (case c35 => k_is)
    (case k35 => k_is)
    (case g_MOST_BROKERS => k_is)
    (case g_MOST_BUNDLES => k_is)
    (case g_MOST_AMOUNT => k_is)
    (case g_MOST_COUNT => k_is)
    (case g_MOST_BLOCKS => k_is)
    (case g_MOST_RUNS => k_is)
    (case g_MOST_IN_BLOCK => k_is)
    (case z_len => k_is)
    (case z_isinstance => k_is)
    (case z_int => k_is)
    (case z_bool => k_is)
    (case z_list => k_is)
    (case z_tuple => k_is)
    (case z_str => k_is)
    (case z_all => k_is)
    (case z_any => k_is)
    (case z_zip => k_is)
    (case z_range => k_is)
    (case z_abs => k_is)
    (case z_repr => k_is)
    (case z_min => k_is)
    (case z_max => k_is)
    (case z_sum => k_is)
    (case z_sorted => k_is)
    (case z_enumerate => k_is)
    (case z_reversed => k_is)
    (case z_set => k_is)
    (case z_dict => k_is)
    (case z_ValueError => k_is)
