import PyProof.Rows.All
import Wide.All
import OpenK.AllK
import Wide.FinOn
import PyProof.EqAt
import PyProof.EqKinds
import PyProof.TupleCall
import HandS.ForMost
import HandS.ForExc
import HandS.Wide
import HandS.IsInst
import HandS.Evl
import HandS.Zip
import HandS.Flow
import HandS.TupAny
import HandS.Walk
import HandS.Style
import PyProof.StrBlock2
import PyProof.ReprLen
import PyProof.FitsInt
import HandS.SetBool
import HandS.TupSets
import HandS.Deep
import PySem.Challenge.RW_leadswitch_k12_bounds_and_bundles
set_option Elab.async false
set_option linter.all false
set_option maxRecDepth 100000
set_option maxHeartbeats 4000000
/-! ## G1: calls of defs that want to know that no repr runs around them -/
namespace G
open PySem PySem.Spec PyProof.Rows L2
/-- FnOk for callers around which no repr is running -/
structure FnG (P : Program) (w : World) (K : PySem.W.Frag) (mg : Str → Option Value) (base : Heap) (cx : CXT) (k : Nat) (f : Addr) (fd : FuncData) (ps : List Str) (sp : Sp) : Prop where
  lenG : ∀ vs H Q E, sp vs H Q E → vs.length = ps.length
  runG : ∀ (A : Around) (out : List Env) (st : Shared) (H : Hp) (as : Args) (us : List Value) (vs : List V) (Q : VK) (E : XK), A.guards = some [] → Room k A → Env0 P w K mg base A out st H →
    BindsTo st fd as (ps.zip us) → Vals vs us → sp vs H Q E → codeAny (model P w) A (.call (.ref f) as) (CR cx out P w H st Q E) st
section
variable {P : Program} {w : World} {K : PySem.W.Frag} {mg : Str → Option Value} {base : Heap} {cx : CXT} {k : Nat} {f : Addr} {fd : FuncData} {ps : List Str} {sp : Sp}
theorem FnG.of (F : FnOk P w K mg base cx k f fd ps sp) : FnG P w K mg base cx k f fd ps sp :=
  ⟨F.len, fun A out st H as us vs Q E _ hr => F.run A out st H as us vs Q E hr⟩
theorem FnG.up {j : Nat} (F : FnG P w K mg base cx j f fd ps sp) (h : j ≤ k) : FnG P w K mg base cx k f fd ps sp :=
  ⟨F.lenG, fun A out st H as us vs Q E hg hr => F.runG A out st H as us vs Q E hg (hr.mono h)⟩
theorem fnG_of {name qual : Str} {params : Arguments} {body : List Stmt} {scope : Scope} {dV kV doc pm cdv ct oc : Value} {an od : Option Addr} {osl : Array (Option Value)} {N : List Str}
    (lk : K.lookup f = some ⟨oc, od, .func (PySem.W.fnOf name qual params body scope dV kV doc pm an cdv ct), osl⟩) (hcd : PySem.W.codeIn K cdv qual = true) (S : FnScope N ps scope)
    (ln : ∀ vs H Q E, sp vs H Q E → vs.length = ps.length)
    (bd : ∀ (A : Around) (out : List Env) (st : Shared) (H : Hp) (vs : List V) (Q : VK) (E : XK), A.guards = some [] → Room k (A.deeper (envOfC qual scope st.heap.objs.size f cdv)) → sp vs H Q E →
      ∃ t, PSs (cxOf cx P w K mg base N qual scope f cdv A out st H E) body t ∧ t { nx := fun _ H' => Q .non H', rt := Q } (start N vs) H) :
    FnG P w K mg base cx (k + 1) f (PySem.W.fnOf name qual params body scope dV kV doc pm an cdv ct) ps sp := by
  refine ⟨ln, fun A out st H as us vs Q E hg hr e0 hb r hsp => ?_⟩
  have hkeep : ∀ b o, base.get? b = some o → st.heap.get? b = some o := fun b o e => (e0.bs b o e).1
  have KX : K.In st.heap := e0.mod.kin.keeps hkeep
  have hkind : ∀ y ∈ ps.zip us, scope.names.lookup y.1 = some .local ∨ (scope.names.lookup y.1 = some .cell ∧ ((cellsFrom (st.heap.objs.size + 1) scope.names []).lookup y.1).isSome = true) := by
    rintro ⟨n, v⟩ hy
    rcases S.par n (List.of_mem_zip hy).1 with q | q
    · exact Or.inl q
    · exact Or.inr ⟨q, PySem.W.cellsFrom_some _ _ _ (Or.inl q)⟩
  refine codeAny_call_function hr.depth (KX _ _ lk) rfl S.co S.gen rfl (PySem.W.codeRec_of KX hcd) (hb _ _ _ _ ?_)
  refine wpAny_newFunctionEnv_cells S.kind hkind fun env he st1 x => ?_
  subst he
  refine ⟨(e0.mod.nolimit.keeps hkeep).keeps x.toInCall.keep, codeAny_func ?_⟩
  obtain ⟨t, ht, hq⟩ := bd A out st H vs Q E hg (hr.deeper _) hsp
  have I0 := inv_start (CX := cx) (E := E) S hr.hd e0 (ln _ _ _ _ hsp) r x
  refine wpAny_mono (ht.run [] st1 (start N vs) H _ I0 hq) (fun fl s' hs => ?_) fun _ _ z => z
  match fl, hs with
  | .ret u, ⟨v, σ', H', J, rv, q⟩ => exact ⟨v, H', J.os, J.bare, J.base, J.hok, rv, q⟩
  | .next, ⟨σ', H', J, q⟩ => exact ⟨V.non, H', J.os, J.bare, J.base, J.hok, rfl, q⟩
  | .brk, ⟨_, _, _, q⟩ => exact False.elim q
  | .cont, ⟨_, _, _, q⟩ => exact False.elim q
/-- a def without errors that leave it -/
theorem okG {x qual : Str} {st : Stmt} {N : List Str} (F : Fun K x qual st f fd) (S : FnScope N ps (defScope st)) (ln : ∀ vs H Q E, sp vs H Q E → vs.length = ps.length)
    (bd : ∀ (cdv : Value) (A : Around) (out : List Env) (s : Shared) (H : Hp) (vs : List V) (Q : VK) (E : XK), A.guards = some [] → Room k (A.deeper (envOfC qual (defScope st) s.heap.objs.size f cdv)) → sp vs H Q E →
      ∃ t, PSs (cxOf CX0 P w K mg base N qual (defScope st) f cdv A out s H E).nox (defBody st) t ∧ t { nx := fun _ H' => Q .non H', rt := Q } (start N vs) H) : FnG P w K mg base CX0 (k + 1) f fd ps sp := by
  obtain ⟨oc, od, kV, doc, pm, an, cdv, ct, osl, rfl, lk, hcd⟩ := F.ex
  refine fnG_of lk hcd S ln fun A out s H vs Q E hg hr hsp => ?_
  obtain ⟨t, ht, q⟩ := bd cdv A out s H vs Q E hg hr hsp
  exact ⟨t, ht.nox, q⟩
/-- .. with such errors -/
theorem okGX {x qual : Str} {st : Stmt} {N : List Str} (F : Fun K x qual st f fd) (S : FnScope N ps (defScope st)) (ln : ∀ vs H Q E, sp vs H Q E → vs.length = ps.length)
    (bd : ∀ (cdv : Value) (A : Around) (out : List Env) (s : Shared) (H : Hp) (vs : List V) (Q : VK) (E : XK), A.guards = some [] → Room k (A.deeper (envOfC qual (defScope st) s.heap.objs.size f cdv)) → sp vs H Q E →
      ∃ t, PSs (cxOf (L2.CX P w) P w K mg base N qual (defScope st) f cdv A out s H E) (defBody st) t ∧ t { nx := fun _ H' => Q .non H', rt := Q } (start N vs) H) : FnG P w K mg base (L2.CX P w) (k + 1) f fd ps sp := by
  obtain ⟨oc, od, kV, doc, pm, an, cdv, ct, osl, rfl, lk, hcd⟩ := F.ex
  exact fnG_of lk hcd S ln fun A out s H vs Q E hg hr hsp => bd cdv A out s H vs Q E hg hr hsp
end
section
variable {X : Cx} {cx : CXT} {k : Nat} {f : Addr} {fd : FuncData} {ps : List Str} {sp : Sp} {dvs : List V} {ds : List Value} {E : XK} {x : Str} {p pos : Pos} {e : Expr} {es : List Expr} {t : TA}
theorem run_fnG {pins : List (Addr × Obj)} {σ : L2.St} {H : Hp} {s : Shared} {Q : VK} {us : List Value} {vs : List V} (F : FnG X.prog X.w X.K X.mg X.base cx k f fd ps sp) (hgu : X.A.guards = some []) (hr : Room k X.A) (hb : Binds X.K fd ps ds) (hd : Vals dvs ds)
    (hx : Passes cx X E) (I : Inv X pins σ H s) (r : Vals vs us) (h : sp (vs ++ dvs) H Q E) : wpAny (model X.prog X.w) X.A (call (.ref f) us) (EP X pins σ Q) X.xe s := by
  have r2 := r.append hd
  have hl := F.lenG _ _ _ _ h
  rw [r2.length] at hl
  have go := F.runG X.A X.stack s H ⟨us, []⟩ (us ++ ds) (vs ++ dvs) Q E hgu hr I.env0 (hb s us I.kIn hl) r2 h
  refine wpAny_call (codeAny_mono go fun res s' hq => ?_)
  match res, hq with
  | .error e, hq => exact hx pins σ H s e s' I hq
  | .ok (.ret u), hq => exact I.after hq
  | .ok .next, hq => exact False.elim hq
  | .ok .brk, hq => exact False.elim hq
  | .ok .cont, hq => exact False.elim hq
theorem pe_callG (F : FnG X.prog X.w X.K X.mg X.base cx k f fd ps sp) (hgu : X.A.guards = some []) (hr : Room k X.A) (hg : Gl X x) (hm : X.mg x = some (.ref f)) (hk : PySem.W.keepIn X.K (.ref f) = true) (hb : Binds X.K fd ps ds) (hd : Vals dvs ds)
    (hx : Passes cx X E) (ha : PA X (e :: es) t) (hdb : (x == ("__debug__" : Str)) = false := by decide) (he : starEach (e :: es) X.env = (false, eval e X.env) :: starEach es X.env := by rfl)
    (hpl : (backTo pos (starEach es X.env)).any (·.1) = false := by rfl) : PE X (.Call (.Name x p) (e :: es) [] pos) (tCall sp dvs E t) := by
  refine ⟨fun pins s σ H Q I h => wpAny_Call_Name_kw (ld_glob I hg hm ?_ hdb)⟩
  refine PySem.W.callWith_K (h₀ := X.base) I.ok.mod.kin hk (thn (ha.run pos pins s σ H _ I h) fun us s1 hh => ?_) he hpl
  obtain ⟨vs, H1, I1, r, q⟩ := hh
  exact ⟨I1.kIn, run_fnG F hgu hr hb hd hx I1 r q⟩
theorem pe_callG0 (F : FnG X.prog X.w X.K X.mg X.base cx k f fd ps sp) (hgu : X.A.guards = some []) (hr : Room k X.A) (hg : Gl X x) (hm : X.mg x = some (.ref f)) (hk : PySem.W.keepIn X.K (.ref f) = true) (hb : Binds X.K fd ps ds) (hd : Vals dvs ds)
    (hx : Passes cx X E) (hdb : (x == ("__debug__" : Str)) = false := by decide) : PE X (.Call (.Name x p) [] [] pos) (tCall sp dvs E tNil) :=
  ⟨fun pins s σ H Q I h => wpAny_Call_Name_kw (ld_glob I hg hm (PySem.W.callWith_K0 I.kIn hk (run_fnG (us := []) F hgu hr hb hd hx I .nil h)) hdb)⟩
end
/-- the law's call, from a promise that holds where no repr runs around -/
theorem law_callG {P : Program} {w : World} {K : PySem.W.Frag} {mg mb : Str → Option Value} {cx : CXT} {k : Nat} {fa a : Addr} {fd : FuncData} {x : Str} {sp : Sp} {s₁ : Shared} {vs : List Value} {ns : List Int}
    (KX : K.In s₁.heap) (hns : s₁.heap.Ns mainGlobals mg) (hb : s₁.heap.Ns builtinsNs mb) (hbb : ∀ x : Str, x ≠ "__name__" → mb x = bootBuiltins x) (hlim : s₁.heap.NoLimit) (hg : s₁.gens = #[])
    (ha : s₁.heap.get? a = some { cls := .type "list", data := .seq vs.toArray }) (hi : IntsAre vs ns) (hl : ns.length ≤ sizeLine) (hr : Room k callerA)
    (F : ∀ base : Heap, K.In base → base.Ns mainGlobals mg → FnG P w K mg base cx k fa fd [x] sp) (hbind : ∀ (s : Shared) (u : Value), BindsTo s fd ⟨[u], []⟩ [(x, u)])
    (hsp : ∀ H : Hp, Only H → SqL K H a (ns.map V.int) → sp [.ref a] H (fun v _ => v = .bl true) fun _ _ _ => False)
    (hcx : ∀ H e s', cx [] H s₁ (fun _ _ _ => False) e s' → False) :
    codeAny (model P w) callerA (.call (.ref fa) ⟨[.ref a], []⟩) (fun r s' => r = .ok (.ret (.bool true)) ∧ OldK s₁.heap s'.heap ∧ s'.os = s₁.os ∧ AllBare s'.gens) s₁ := by
  have rv := vals_ints hi
  have lenV := hi.length
  have core : ∀ H : Hp, Only H → SqL K H a (ns.map V.int) → HOk P w H s₁.heap → (∀ b, H b ≠ none → b = a) → (H a ≠ none → K.lookup a = none) →
      codeAny (model P w) callerA (.call (.ref fa) ⟨[.ref a], []⟩) (fun r s' => r = .ok (.ret (.bool true)) ∧ OldK s₁.heap s'.heap ∧ s'.os = s₁.os ∧ AllBare s'.gens) s₁ := by
    intro H only hS hok hA hK
    have nodict : ∀ {b : Addr} {o : Obj} {es : Array DictEntry} {ep : Nat}, s₁.heap.get? b = some o → o.data = .dict es ep → H b = none := by
      intro b o es ep e d
      refine Classical.byContradiction fun q => ?_
      have eb := hA b q
      subst eb
      rw [ha] at e
      cases e
      exact nomatch d
    have nsK : ∀ {b : Addr} {m : Str → Option Value}, s₁.heap.Ns b m → (hidT s₁.heap H).Ns b m := by
      rintro b m ⟨o, es, ep, e, d, r⟩
      exact ⟨o, es, ep, hidT_get e (nodict e d), d, r⟩
    have hKb : K.In (hidT s₁.heap H) := by
      intro b o e
      refine hidT_get (KX b o e) (Classical.byContradiction fun q => ?_)
      have eb := hA b q
      subst eb
      rw [hK q] at e
      cases e
    obtain ⟨mc, hm1, hm2⟩ := hlim
    have md : Mod K mg (hidT s₁.heap H) := ⟨hKb, nsK hns, ⟨mb, nsK hb, hbb⟩, ⟨mc, nsK hm1, hm2⟩⟩
    have e0 : Env0 P w K mg (hidT s₁.heap H) callerA [] s₁ H :=
      ⟨rfl, md, fun b o e => of_hidT e, Nat.le_of_eq (hidT_size _ _), trivial, fun b z => absurd (show b ∈ ([] : List Addr) from z) (by simp), hok, .of_eq hg⟩
    have go := (F _ hKb (nsK hns)).runG callerA [] s₁ H ⟨[.ref a], []⟩ [.ref a] [.ref a] _ _ rfl hr e0 (hbind s₁ (.ref a)) (.cons rfl .nil) (hsp H only hS)
    refine codeAny_mono go fun res s' h => ?_
    match res, h with
    | .error e, h => exact (hcx H e s' h).elim
    | .ok .next, h => exact False.elim h
    | .ok .brk, h => exact False.elim h
    | .ok .cont, h => exact False.elim h
    | .ok (.ret u), ⟨v, H', os, bare, un, hok', r', q⟩ =>
      have q' : v = .bl true := q
      subst q'
      have r'' : u = Value.bool true := r'
      subst r''
      refine ⟨rfl, OldK.of_keep fun b o e => ?_, os, bare⟩
      rcases only b with z | ⟨ob, xs, z⟩
      · exact un.keep b o e z (fun z => absurd (show b ∈ ([] : List Addr) from z) (by simp)) (by simp)
      · have e1 := (hok b _ z).1
        have e2 := (hok' b _ (un.frzs b ob _ z)).1
        rw [e] at e1
        cases e1
        exact e2
  cases hk : K.lookup a with
  | some o =>
    have e := KX a o hk
    rw [ha] at e
    cases e
    exact core (fun _ => none) (fun _ => Or.inl rfl) (Or.inr ⟨_, vs.toArray, _, hk, rfl, rfl, rfl, by rw [List.size_toArray, lenV]; exact hl, by simpa using rv⟩) (fun _ _ z => nomatch z) (fun _ z => absurd rfl z) fun z => absurd rfl z
  | none =>
    refine core (fun b => if b = a then some (.frz { cls := .type "list", data := .seq vs.toArray } (.lst (ns.map V.int))) else none) (fun b => ?_) (Or.inl (Or.inr ⟨{ cls := .type "list", data := .seq vs.toArray }, if_pos rfl⟩)) (fun b u z => ?_) (fun b z => ?_) fun _ => hk
    · by_cases hb : b = a
      · exact Or.inr ⟨_, _, if_pos hb⟩
      · exact Or.inl (if_neg hb)
    · by_cases hb : b = a
      · dsimp only at z
        rw [if_pos hb] at z
        cases z
        subst hb
        exact ⟨ha, by rw [List.length_map]; exact hl, vs, _, rv, ha⟩
      · dsimp only at z
        rw [if_neg hb] at z
        cases z
    · exact Classical.byContradiction fun hb => z (if_neg hb)
theorem walk_ofG {l : PySem.W.OpenLaw} {n k : Nat} {q : Program} {loose : List Str} {XP : (Str → Option Value) → Heap → Prop} {YP : World → Heap → Prop} {d : DefRec} {K : Params → PySem.W.Frag} {cx : World → CXT} {sp : World → Sp} {x : Str}
    (hn : l.most = some n) (hn2 : n ≤ sizeLine) (hdf : d.params.defaults = []) (hr : Room k callerA)
    (hY : ∀ (w : World) (h : Heap), YP w h → (K w.params).In h)
    (F : ∀ (w : World) (mg : Str → Option Value) (fa : Addr) (h : Heap), (K w.params).In h → h.Ns mainGlobals mg → mg d.name = some (.ref fa) →
      ∃ fd : FuncData, (∀ (s : Shared) (u : Value), BindsTo s fd ⟨[u], []⟩ [(x, u)]) ∧
        ∀ base : Heap, (K w.params).In base → base.Ns mainGlobals mg → FnG l.prog w (K w.params) mg base (cx w) k fa fd [x] (sp w))
    (hsp : ∀ (w : World) (H : Hp) (a : Addr) (ns : List Int), ns.length ≤ n → Only H → SqL (K w.params) H a (ns.map V.int) → sp w [.ref a] H (fun v _ => v = .bl true) fun _ _ _ => False)
    (hcx : ∀ (w : World) (H : Hp) (s : Shared) (e : Value) (s' : Shared), cx w [] H s (fun _ _ _ => False) e s' → False) :
    PySem.W.WalkO q loose XP YP l.row.toRowW d [] (fun f vs => PySem.call f vs) := by
  refine Att.attach_call hn hdf fun w s₀ s₁ mg mb fa o pm cd doc a vs ns gr y ho hd hcd hmg hobj hints hlen hg => ?_
  obtain ⟨fd, hb, hF⟩ := F w mg fa _ (hY w _ y) gr.T.g hmg
  exact law_callG (hY w _ y) gr.T.g gr.T.b gr.T.builtins gr.T.nolimit hg hobj hints (Nat.le_trans hlen hn2) hr hF hb (fun H only hS => hsp w H a ns hlen only hS) fun H e s' => hcx w H s₁ e s'
end G

/-! ## G2: data (None, bools, ints, texts, lists, tuples, dicts) over the abstract heap: what a value stands for; its type; repr; == -/
namespace G
open PySem PySem.Spec PyProof.Rows L2
def kD : Key → PyData
  | .inl i => .int i
  | .inr x => .str x
mutual
/-- in H the value stands for the datum -/
inductive Da (K : PySem.W.Frag) (H : Hp) : V → PyData → Prop
  | non : Da K H .non .none
  | bl (b : Bool) : Da K H (.bl b) (.bool b)
  | int (i : Int) : Da K H (.int i) (.int i)
  | str (x : Str) : Da K H (.str x) (.str x)
  | lst {a : Addr} {xs : List V} {ds : List PyData} : SqL K H a xs → DaL K H xs ds → Da K H (.ref a) (.list ds)
  | tup {a : Addr} {xs : List V} {ds : List PyData} : SqT K H a xs → DaL K H xs ds → Da K H (.ref a) (.tuple ds)
  | dct {a : Addr} {kvs : List (Key × V)} {es : List (PyData × PyData)} : H a = some (.dK kvs) → DaE K H kvs es → Da K H (.ref a) (.dict es)
inductive DaL (K : PySem.W.Frag) (H : Hp) : List V → List PyData → Prop
  | nil : DaL K H [] []
  | cons {v : V} {vs : List V} {d : PyData} {ds : List PyData} : Da K H v d → DaL K H vs ds → DaL K H (v :: vs) (d :: ds)
inductive DaE (K : PySem.W.Frag) (H : Hp) : List (Key × V) → List (PyData × PyData) → Prop
  | nil : DaE K H [] []
  | cons {k : Key} {v : V} {kvs : List (Key × V)} {d : PyData} {es : List (PyData × PyData)} : Da K H v d → DaE K H kvs es → DaE K H ((k, v) :: kvs) ((kD k, d) :: es)
end
section
variable {K : PySem.W.Frag} {H H' : Hp}
theorem sql_up {a : Addr} {xs : List V} (e : Same H H') (h : SqL K H a xs) : SqL K H' a xs := e.seq h
theorem sqt_up {a : Addr} {xs : List V} (e : Same H H') (h : SqT K H a xs) : SqT K H' a xs := Evl.ex_t e h
mutual
theorem Da.up (e : Same H H') : ∀ (d : PyData) (v : V), Da K H v d → Da K H' v d
  | .none, _, h => by cases h; exact .non
  | .bool b, _, h => by cases h; exact .bl b
  | .int i, _, h => by cases h; exact .int i
  | .str x, _, h => by cases h; exact .str x
  | .list ds, _, h => by cases h with | lst a b => exact .lst (sql_up e a) (DaL.up e ds _ b)
  | .tuple ds, _, h => by cases h with | tup a b => exact .tup (sqt_up e a) (DaL.up e ds _ b)
  | .dict es, _, h => by cases h with | dct a b => exact .dct (e _ _ a) (DaE.up e es _ b)
theorem DaL.up (e : Same H H') : ∀ (ds : List PyData) (vs : List V), DaL K H vs ds → DaL K H' vs ds
  | [], _, h => by cases h; exact .nil
  | d :: ds, _, h => by cases h with | cons a b => exact .cons (Da.up e d _ a) (DaL.up e ds _ b)
theorem DaE.up (e : Same H H') : ∀ (es : List (PyData × PyData)) (kvs : List (Key × V)), DaE K H kvs es → DaE K H' kvs es
  | [], _, h => by cases h; exact .nil
  | (k, d) :: es, _, h => by cases h with | cons a b => exact .cons (Da.up e d _ a) (DaE.up e es _ b)
end
theorem Da.mono {d : PyData} {v : V} (h : Da K H v d) (e : Same H H') : Da K H' v d := Da.up e d v h
theorem DaL.mono {ds : List PyData} {vs : List V} (h : DaL K H vs ds) (e : Same H H') : DaL K H' vs ds := DaL.up e ds vs h
theorem DaL.len {ds : List PyData} : ∀ {vs : List V}, DaL K H vs ds → vs.length = ds.length := by
  induction ds with
  | nil => intro vs h; cases h; rfl
  | cons d ds ih => intro vs h; cases h with | cons a b => simp [ih b]
theorem DaL.get {ds : List PyData} : ∀ {vs : List V} {i : Nat} {d : PyData}, DaL K H vs ds → ds[i]? = some d → ∃ v, vs[i]? = some v ∧ Da K H v d := by
  induction ds with
  | nil => intro vs i d h e; simp at e
  | cons x ds ih =>
    intro vs i d h e
    cases h with
    | cons a b =>
      cases i with
      | zero => simp at e; subst e; exact ⟨_, rfl, a⟩
      | succ i =>
        obtain ⟨v, q, r⟩ := ih (i := i) b (by simpa using e)
        exact ⟨v, by simpa using q, r⟩
theorem DaL.getV {ds : List PyData} : ∀ {vs : List V} {i : Nat} {v : V}, DaL K H vs ds → vs[i]? = some v → ∃ d, ds[i]? = some d ∧ Da K H v d := by
  induction ds with
  | nil => intro vs i d h e; cases h; simp at e
  | cons x ds ih =>
    intro vs i d h e
    cases h with
    | cons a b =>
      cases i with
      | zero => simp at e; subst e; exact ⟨_, rfl, a⟩
      | succ i =>
        obtain ⟨v, q, r⟩ := ih (i := i) b (by simpa using e)
        exact ⟨v, by simpa using q, r⟩
theorem DaL.app {xs ys : List PyData} : ∀ {us vs : List V}, DaL K H us xs → DaL K H vs ys → DaL K H (us ++ vs) (xs ++ ys) := by
  induction xs with
  | nil => intro us vs h k; cases h; exact k
  | cons x xs ih => intro us vs h k; cases h with | cons a b => exact .cons a (ih b k)
theorem DaL.take {xs : List PyData} : ∀ {us : List V} (n : Nat), DaL K H us xs → DaL K H (us.take n) (xs.take n) := by
  induction xs with
  | nil => intro us n h; cases h; simp; exact .nil
  | cons x xs ih =>
    intro us n h
    cases h with
    | cons a b =>
      cases n with
      | zero => exact .nil
      | succ n => exact .cons a (ih n b)
theorem DaL.drop {xs : List PyData} : ∀ {us : List V} (n : Nat), DaL K H us xs → DaL K H (us.drop n) (xs.drop n) := by
  induction xs with
  | nil => intro us n h; cases h; simp; exact .nil
  | cons x xs ih =>
    intro us n h
    cases h with
    | cons a b =>
      cases n with
      | zero => exact .cons a b
      | succ n => exact ih n b
theorem DaL.rev {xs : List PyData} : ∀ {us : List V}, DaL K H us xs → DaL K H us.reverse xs.reverse := by
  induction xs with
  | nil => intro us h; cases h; exact .nil
  | cons x xs ih =>
    intro us h
    cases h with
    | cons a b =>
      rw [List.reverse_cons, List.reverse_cons]
      exact (ih b).app (.cons a .nil)
theorem DaL.ints : ∀ (ns : List Int), DaL K H (ns.map V.int) (ns.map PyData.int)
  | [] => .nil
  | n :: ns => .cons (.int n) (DaL.ints ns)
theorem DaL.bls : ∀ (ns : List Bool), DaL K H (ns.map V.bl) (ns.map PyData.bool)
  | [] => .nil
  | n :: ns => .cons (.bl n) (DaL.bls ns)
theorem DaL.rep {v : V} {d : PyData} (h : Da K H v d) : ∀ n, DaL K H (List.replicate n v) (List.replicate n d)
  | 0 => .nil
  | n + 1 => .cons h (DaL.rep h n)
theorem DaL.unints : ∀ {ns : List Int} {vs : List V}, DaL K H vs (ns.map PyData.int) → vs = ns.map V.int
  | [], _, h => by cases h; rfl
  | n :: ns, _, h => by
    cases h with
    | cons a b =>
      cases a
      rw [DaL.unints b]
      rfl
/-- the name of a datum's class -/
def tyN : PyData → String
  | .none => "NoneType"
  | .bool _ => "bool"
  | .int _ => "int"
  | .str _ => "str"
  | .list _ => "list"
  | .tuple _ => "tuple"
  | .dict _ => "dict"
theorem Da.ty {d : PyData} {v : V} (h : Da K H v d) : TyX K H v (.type (tyN d)) := by
  cases h with
  | non => exact .base .non
  | bl b => exact .base (.bl b)
  | int i => exact .base (.int i)
  | str x => exact .base (.str x)
  | lst a _ =>
    rcases a with (a | ⟨o, a⟩) | ⟨o, _, _, a, c, _⟩
    · exact .base (.lst a)
    · exact .base (.frz a)
    · exact .kList a c
  | tup a _ =>
    rcases a with (a | ⟨o, a⟩) | ⟨o, _, _, a, c, _⟩
    · exact .base (.tup a)
    · exact .fTuple a
    · exact .kTuple a c
  | dct a _ => exact .base (.dK a)
def isI : PyData → Bool
  | .int _ => true
  | .bool _ => true
  | _ => false
def isB : PyData → Bool
  | .bool _ => true
  | _ => false
def isL : PyData → Bool
  | .list _ => true
  | _ => false
def isT : PyData → Bool
  | .tuple _ => true
  | _ => false
theorem kit_int (d : PyData) : PySem.W.kitOne K (.type (tyN d)) (.type "int") = some (isI d) := by
  cases d
  · exact kit_ty (show kitB "NoneType" "int" = some false by decide +kernel)
  · exact kit_ty (show kitB "bool" "int" = some true by decide +kernel)
  · exact kit_ty (show kitB "int" "int" = some true by decide +kernel)
  · exact kit_ty (show kitB "str" "int" = some false by decide +kernel)
  · exact kit_ty (show kitB "list" "int" = some false by decide +kernel)
  · exact kit_ty (show kitB "tuple" "int" = some false by decide +kernel)
  · exact kit_ty (show kitB "dict" "int" = some false by decide +kernel)
theorem kit_bool (d : PyData) : PySem.W.kitOne K (.type (tyN d)) (.type "bool") = some (isB d) := by
  cases d
  · exact kit_ty (show kitB "NoneType" "bool" = some false by decide +kernel)
  · exact kit_ty (show kitB "bool" "bool" = some true by decide +kernel)
  · exact kit_ty (show kitB "int" "bool" = some false by decide +kernel)
  · exact kit_ty (show kitB "str" "bool" = some false by decide +kernel)
  · exact kit_ty (show kitB "list" "bool" = some false by decide +kernel)
  · exact kit_ty (show kitB "tuple" "bool" = some false by decide +kernel)
  · exact kit_ty (show kitB "dict" "bool" = some false by decide +kernel)
theorem kit_list (d : PyData) : PySem.W.kitOne K (.type (tyN d)) (.type "list") = some (isL d) := by
  cases d
  · exact kit_ty (show kitB "NoneType" "list" = some false by decide +kernel)
  · exact kit_ty (show kitB "bool" "list" = some false by decide +kernel)
  · exact kit_ty (show kitB "int" "list" = some false by decide +kernel)
  · exact kit_ty (show kitB "str" "list" = some false by decide +kernel)
  · exact kit_ty (show kitB "list" "list" = some true by decide +kernel)
  · exact kit_ty (show kitB "tuple" "list" = some false by decide +kernel)
  · exact kit_ty (show kitB "dict" "list" = some false by decide +kernel)
theorem kit_tuple (d : PyData) : PySem.W.kitOne K (.type (tyN d)) (.type "tuple") = some (isT d) := by
  cases d
  · exact kit_ty (show kitB "NoneType" "tuple" = some false by decide +kernel)
  · exact kit_ty (show kitB "bool" "tuple" = some false by decide +kernel)
  · exact kit_ty (show kitB "int" "tuple" = some false by decide +kernel)
  · exact kit_ty (show kitB "str" "tuple" = some false by decide +kernel)
  · exact kit_ty (show kitB "list" "tuple" = some false by decide +kernel)
  · exact kit_ty (show kitB "tuple" "tuple" = some true by decide +kernel)
  · exact kit_ty (show kitB "dict" "tuple" = some false by decide +kernel)
mutual
theorem Da.dp : ∀ (d : PyData) (v : V), d.canLay0 = true → Da K H v d → Dp K H v d
  | .none, _, _, h => by cases h; exact .non
  | .bool b, _, _, h => by cases h; exact .bl b
  | .int i, _, _, h => by cases h; exact .int i
  | .str x, _, _, h => by cases h; exact .str x
  | .list ds, _, c, h => by cases h with | lst a b => exact .lst a (DaL.dp ds _ (by simpa only [PyData.canLay0] using c) b)
  | .tuple ds, _, c, h => by cases h with | tup a b => exact .tup a (DaL.dp ds _ (by simpa only [PyData.canLay0] using c) b)
  | .dict es, _, c, _ => by simp only [PyData.canLay0] at c; cases c
theorem DaL.dp : ∀ (ds : List PyData) (vs : List V), PyData.canLayAll0 ds = true → DaL K H vs ds → DpAll K H vs ds
  | [], _, _, h => by cases h; exact .nil
  | d :: ds, _, c, h => by
    cases h with
    | cons a b =>
      have c' : PyData.canLay0 d = true ∧ PyData.canLayAll0 ds = true := by simpa only [PyData.canLayAll0, Bool.and_eq_true] using c
      exact .cons (Da.dp d _ c'.1 a) (DaL.dp ds _ c'.2 b)
end
end
section
variable {X : Cx} {pins : List (Addr × Obj)} {σ : L2.St} {H : Hp} {s : Shared}
theorem key_read {P : Program} {w : World} {k : Key} {u : Value} (h : (mixKind P w).is k u = true) (hp : Heap) (hs : (kD k).showable = true) (hz : (kD k).shown.length ≤ sizeLine) :
    Reads hp u (kD k) [] ∧ ReprIs P w u (kD k).shown := by
  rcases keyIs_shape (show keyIs k u = true from h) with ⟨i, t, rfl, rfl⟩ | ⟨x, t, rfl, rfl⟩
  · refine ⟨Reads.int i t, ?_⟩
    show ReprIs P w _ (PyData.int i).shown
    simp only [PyData.shown]
    exact ReprIs.int t (by simpa [kD, PyData.showable] using hs)
  · refine ⟨Reads.str x t, ?_⟩
    show ReprIs P w _ (PyData.str x).shown
    simp only [PyData.shown]
    exact ReprIs.str x t (by simpa only [kD, PyData.shown] using hz)
/-- the texts of all items, and what they read -/
structure Rk (P : Program) (w : World) (h : Heap) (u : Value) (d : PyData) : Prop where
  rd : ∃ as, Reads h u d as
  rp : ∃ bs, ReadAtMost h d.depth bs ∧ ReprK P w bs h d.depth u d.shown
structure RkL (P : Program) (w : World) (h : Heap) (us : List Value) (ds : List PyData) : Prop where
  rd : ∃ as, ReadsAll h us ds as
  rp : ∃ bs, ReadAtMost h (PyData.depthAll ds) bs ∧ ReprAllK P w bs h (PyData.depthAll ds) us (PyData.shownAll ds)
structure RkE (P : Program) (w : World) (h : Heap) (ents : List DictEntry) (es : List (PyData × PyData)) : Prop where
  rk : ∃ as, ReadsAll h (ents.map (·.key)) (es.map (·.1)) as
  rv : ∃ as, ReadsAll h (ents.map (·.val)) (es.map (·.2)) as
  rp : ∃ bs, ReadAtMost h (PyData.depthKv es) bs ∧ ReprEntriesK P w bs h (PyData.depthKv es) ents (PyData.shownKv es)
theorem rAM_mono {h : Heap} {n m : Nat} {bs : List Addr} (a : ReadAtMost h n bs) (l : n ≤ m) : ReadAtMost h m bs := a.mono l
theorem reK_more {P : Program} {w : World} {h : Heap} {as as' : List Addr} {n m : Nat} (hs : ∀ b ∈ as, b ∈ as') (l : n ≤ m) : ∀ {en : List DictEntry} {ts : List Str}, ReprEntriesK P w as h n en ts → ReprEntriesK P w as' h m en ts
  | _, _, .nil => .nil
  | _, _, .cons a b c => .cons ((a.more hs).level_le l) ((b.more hs).level_le l) (reK_more hs l c)
mutual
theorem rk_of (I : Inv X pins σ H s) : ∀ (d : PyData) (v : V) (u : Value), Da X.K H v d → RelV v u → d.showable = true → d.shown.length ≤ sizeLine → Rk X.prog X.w s.heap u d
  | .none, _, _, h, r, _, _ => by
    cases h
    cases r
    exact ⟨⟨_, Reads.none⟩, [], (fun _ z => nomatch z), by simp only [PyData.shown]; exact .of_is ReprIs.none _ _ _⟩
  | .bool b, _, _, h, r, _, _ => by
    cases h
    cases r
    exact ⟨⟨_, Reads.bool b⟩, [], (fun _ z => nomatch z), by simp only [PyData.shown]; exact .of_is (ReprIs.bool b) _ _ _⟩
  | .int i, _, _, h, r, hs, _ => by
    cases h
    obtain ⟨t, rfl⟩ := r
    exact ⟨⟨_, Reads.int i t⟩, [], (fun _ z => nomatch z), by simp only [PyData.shown]; exact .of_is (ReprIs.int t (by simpa [PyData.showable] using hs)) _ _ _⟩
  | .str x, _, _, h, r, _, hz => by
    cases h
    obtain ⟨t, rfl⟩ := r
    exact ⟨⟨_, Reads.str x t⟩, [], (fun _ z => nomatch z), by simp only [PyData.shown]; exact .of_is (ReprIs.str x t (by simpa only [PyData.shown] using hz)) _ _ _⟩
  | .list ds, _, _, h, r, hs, hz => by
    cases h with
    | lst hq ha =>
      cases r
      obtain ⟨its, rv, ⟨o, n, ho, hc, _, hd⟩, _⟩ := I.list hq
      have hz' : (listText (PyData.shownAll ds)).length ≤ sizeLine := by simpa only [PyData.shown] using hz
      obtain ⟨⟨as, hr⟩, bs, hb, hk⟩ := rkL_of I ds _ its ha rv (by simpa only [PyData.showable] using hs) (fun t ht => Nat.le_trans (listText_mem_le ht) hz')
      have rr := Reads.list ho hc hd hr
      refine ⟨⟨_, rr⟩, _ :: bs, ReadAtMost.cons rr (by simp only [PyData.depth]; omega) hb, ?_⟩
      have hna := not_mem_of_deeper rr (n := PyData.depthAll ds) (by simp only [PyData.depth]; omega) hb
      simp only [PyData.depth, PyData.shown]
      cases its with
      | nil =>
        cases hr
        simp only [PyData.shownAll, listText_nil]
        exact ReprK.listEmpty ho hc hd
      | cons x l => exact ReprK.list ho hc hd hna (by simpa using hk.length_eq) (fun i y e => hk.item i y (by simpa using e))
  | .tuple ds, _, _, h, r, hs, hz => by
    cases h with
    | tup hq ha =>
      cases r
      obtain ⟨its, rv, ⟨o, ho, hc, n, hd⟩, _⟩ := I.tuple hq
      have hz' : (tupleText (PyData.shownAll ds)).length ≤ sizeLine := by simpa only [PyData.shown] using hz
      obtain ⟨⟨as, hr⟩, bs, hb, hk⟩ := rkL_of I ds _ its ha rv (by simpa only [PyData.showable] using hs) (fun t ht => Nat.le_trans (tupleText_mem_le ht) hz')
      have rr := Reads.tuple ho hc hd hr
      refine ⟨⟨_, rr⟩, _ :: bs, ReadAtMost.cons rr (by simp only [PyData.depth]; omega) hb, ?_⟩
      have hna := not_mem_of_deeper rr (n := PyData.depthAll ds) (by simp only [PyData.depth]; omega) hb
      simp only [PyData.depth, PyData.shown]
      exact ReprK.tuple ho hc hd hna hk
  | .dict es, _, _, h, r, hs, hz => by
    cases h with
    | @dct a kvs _ hq ha =>
      cases r
      obtain ⟨_, hsy, vs, rv, o, ents, ep, ho, hc, hd, _, pr, _⟩ := (show ObjOk X.prog X.w H s.heap a (.dK kvs) from I.hok a _ hq)
      have hz' : (dictText (PyData.shownKv es)).length ≤ sizeLine := by simpa only [PyData.shown] using hz
      obtain ⟨⟨as, hrk⟩, ⟨as', hrv⟩, bs, hb, hk⟩ := rkE_of I es kvs vs ents.toList ha rv pr (by simpa only [PyData.showable] using hs) (fun t ht => Nat.le_trans (dictText_mem_le ht) hz')
      have rr := Reads.dict ho hc.1 hd hrk hrv
      refine ⟨⟨_, rr⟩, _ :: bs, ReadAtMost.cons rr (by simp only [PyData.depth]; omega) hb, ?_⟩
      have hna := not_mem_of_deeper rr (n := PyData.depthKv es) (by simp only [PyData.depth]; omega) hb
      simp only [PyData.depth, PyData.shown]
      exact ReprK.dict ho hc.1 hd hsy hna hk
theorem rkL_of (I : Inv X pins σ H s) : ∀ (ds : List PyData) (vs : List V) (us : List Value), DaL X.K H vs ds → Vals vs us → PyData.showableAll ds = true → (∀ t ∈ PyData.shownAll ds, t.length ≤ sizeLine) → RkL X.prog X.w s.heap us ds
  | [], _, _, h, r, _, _ => by
    cases h
    cases r
    exact ⟨⟨_, ReadsAll.nil⟩, [], (fun _ z => nomatch z), by simp only [PyData.shownAll]; exact .nil⟩
  | d :: ds, _, _, h, r, hs, hz => by
    cases h with
    | cons h1 h2 =>
      cases r with
      | cons r1 r2 =>
        have hs' : d.showable = true ∧ PyData.showableAll ds = true := by simpa only [PyData.showableAll, Bool.and_eq_true] using hs
        simp only [PyData.shownAll, List.mem_cons] at hz
        obtain ⟨⟨as, ra⟩, b1, hb1, k1⟩ := rk_of I d _ _ h1 r1 hs'.1 (hz _ (Or.inl rfl))
        obtain ⟨⟨bs, rb⟩, b2, hb2, k2⟩ := rkL_of I ds _ _ h2 r2 hs'.2 fun t ht => hz t (Or.inr ht)
        refine ⟨⟨_, ReadsAll.cons ra rb⟩, b1 ++ b2, ?_, ?_⟩
        · simp only [PyData.depthAll]
          exact (hb1.mono (Nat.le_max_left _ _)).append (hb2.mono (Nat.le_max_right _ _))
        · simp only [PyData.depthAll, PyData.shownAll]
          exact .cons ((k1.more fun b hb => List.mem_append_left _ hb).level_le (Nat.le_max_left _ _)) (k2.more_le (fun b hb => List.mem_append_right _ hb) (Nat.le_max_right _ _))
theorem rkE_of (I : Inv X pins σ H s) : ∀ (es : List (PyData × PyData)) (kvs : List (Key × V)) (vs : List (Key × Value)) (ents : List DictEntry), DaE X.K H kvs es → KV kvs vs → Pairs (mixKind X.prog X.w) ents vs → PyData.showableKv es = true →
    (∀ t ∈ PyData.shownKv es, t.length ≤ sizeLine) → RkE X.prog X.w s.heap ents es
  | [], _, _, _, h, r, p, _, _ => by
    cases h
    cases r
    cases p
    exact ⟨⟨_, ReadsAll.nil⟩, ⟨_, ReadsAll.nil⟩, [], (fun _ z => nomatch z), by simp only [PyData.shownKv]; exact .nil⟩
  | (k, d) :: es, _, _, _, h, r, p, hs, hz => by
    cases h with
    | @cons ky v kvs' _ _ h1 h2 =>
      cases r with
      | @cons _ q _ qs r1 r2 =>
        obtain ⟨kq, uq⟩ := q
        cases p with
        | @cons en _ ens _ p1 p2 p3 =>
          have hs' : ((kD ky).showable = true ∧ d.showable = true) ∧ PyData.showableKv es = true := by simpa only [PyData.showableKv, Bool.and_eq_true] using hs
          simp only [PyData.shownKv, List.mem_cons] at hz
          have hz0 := hz _ (Or.inl rfl)
          rw [strLen_append, strLen_append] at hz0
          have e1 : ky = kq := r1.1
          have p1' : (mixKind X.prog X.w).is ky en.key = true := by rw [e1]; exact p1
          have p2' : en.val = uq := p2
          obtain ⟨ka, kb⟩ := key_read p1' s.heap hs'.1.1 (by omega)
          obtain ⟨⟨as, ra⟩, b1, hb1, k1⟩ := rk_of I d v uq h1 r1.2 hs'.1.2 (by omega)
          obtain ⟨⟨as2, ra2⟩, ⟨as3, ra3⟩, b2, hb2, k2⟩ := rkE_of I es _ _ ens h2 r2 p3 hs'.2 fun t ht => hz t (Or.inr ht)
          refine ⟨⟨_, ReadsAll.cons ka ra2⟩, ⟨_, ReadsAll.cons (show Reads s.heap en.val d as by rw [p2']; exact ra) ra3⟩, b1 ++ b2, ?_, ?_⟩
          · simp only [PyData.depthKv]
            exact (hb1.mono (by omega)).append (hb2.mono (by omega))
          · simp only [PyData.depthKv, PyData.shownKv]
            refine .cons (.of_is kb _ _ _) ?_ (reK_more (fun b hb => List.mem_append_right _ hb) (by omega) k2)
            rw [p2']
            exact (k1.more fun b hb => List.mem_append_left _ hb).level_le (by omega)
end
/-- repr(x) -/
def rRepr (K : PySem.W.Frag) : List V → Hp → VK → Prop := fun xs H Q => ∃ v d, xs = [v] ∧ Da K H v d ∧ d.showable = true ∧ d.depth ≤ 60 ∧ d.shown.length ≤ sizeLine ∧ Q (.str d.shown) H
theorem call_repr (hgu : X.A.guards = some []) (hu : X.A.units + 64 < cLine) : CallR X (.builtin "repr") (rRepr X.K) := by
  intro pins s σ H xs us Q I r h
  obtain ⟨v, d, rfl, hD, hs, hdp, hz, q⟩ := h
  obtain ⟨u, rfl, rv⟩ := vals1 r
  have fin : ∀ (h' : Heap) (t : Tok) (tk : Nat), (∀ b o, s.heap.get? b = some o → h'.get? b = some o) → EP X pins σ Q (.str d.shown t) { s with heap := h', toks := tk } := fun h' t tk k => ⟨.str d.shown, H, I.kept (t' := tk) k, ⟨_, rfl⟩, q⟩
  have fin0 : ∀ (t : Tok) (tk : Nat), EP X pins σ Q (.str d.shown t) { s with toks := tk } := fun t tk => ⟨.str d.shown, H, I.tok tk, ⟨_, rfl⟩, q⟩
  cases d with
  | none =>
    cases hD
    cases rv
    have f := fin0 s.toks (s.toks + 1)
    simp only [PyData.shown] at f
    exact PySem.P.repr_of_none f
  | bool b =>
    cases hD
    cases rv
    have f := fin0 s.toks (s.toks + 1)
    simp only [PyData.shown] at f
    exact PySem.P.repr_of_bool f
  | int i =>
    cases hD
    obtain ⟨t, rfl⟩ := rv
    have f := fin0 s.toks (s.toks + 1)
    simp only [PyData.shown] at f
    exact PySem.P.repr_of_int (by simpa [PyData.showable] using hs) f
  | str x =>
    cases hD
    obtain ⟨t, rfl⟩ := rv
    have f := fin0 s.toks (s.toks + 1)
    simp only [PyData.shown] at f
    exact PySem.P.repr_of_str f (by simpa only [PyData.shown] using hz)
  | list ds =>
    cases hD with
    | lst hq ha =>
      cases rv
      obtain ⟨its, rv, ⟨o, n, ho, hc, _, hd⟩, _⟩ := I.list hq
      have hz' : (listText (PyData.shownAll ds)).length ≤ sizeLine := by simpa only [PyData.shown] using hz
      obtain ⟨⟨as, hr⟩, bs, hb, hk⟩ := rkL_of I ds _ its ha rv (by simpa only [PyData.showable] using hs) (fun t ht => Nat.le_trans (listText_mem_le ht) hz')
      have rr := Reads.list ho hc hd hr
      have hna := not_mem_of_deeper rr (n := PyData.depthAll ds) (by simp only [PyData.depth]; omega) hb
      simp only [PyData.depth] at hdp
      simp only [PyData.shown] at fin
      refine call_repr_slot (by omega) ⟨o, ho, hc⟩ F.slot_list_repr.toG ?_
      cases its with
      | nil =>
        cases hr
        simp only [PyData.shownAll, listText_nil] at fin
        exact call_list_repr_empty ⟨o, ho, hc⟩ ho hd ⟨_, _, rfl, fin s.heap _ _ fun _ _ e => e⟩
      | cons x l =>
        exact call_list_reprK ho hc hd hna (by simpa using hk.length_eq) (fun i y e => hk.item i y (by simpa using e)) hgu (fun b _ => Clear.nil b) (by show X.A.units + 1 + _ < cLine; omega) (fun _ _ e => e) (fun h' u tk k => ⟨_, _, rfl, fin h' u tk k⟩) hz'
  | tuple ds =>
    cases hD with
    | tup hq ha =>
      cases rv
      obtain ⟨its, rv, ⟨o, ho, hc, n, hd⟩, _⟩ := I.tuple hq
      have hz' : (tupleText (PyData.shownAll ds)).length ≤ sizeLine := by simpa only [PyData.shown] using hz
      obtain ⟨⟨as, hr⟩, bs, hb, hk⟩ := rkL_of I ds _ its ha rv (by simpa only [PyData.showable] using hs) (fun t ht => Nat.le_trans (tupleText_mem_le ht) hz')
      have rr := Reads.tuple ho hc hd hr
      have hna := not_mem_of_deeper rr (n := PyData.depthAll ds) (by simp only [PyData.depth]; omega) hb
      simp only [PyData.depth] at hdp
      simp only [PyData.shown] at fin
      refine call_repr_slot (by omega) ⟨o, ho, hc⟩ F.slot_tuple_repr ?_
      exact call_tuple_reprK ho hc hd hna hk hgu (fun b _ => Clear.nil b) (by show X.A.units + 1 + _ < cLine; omega) (fun _ _ e => e) (fun h' u tk k => ⟨_, _, rfl, fin h' u tk k⟩) hz'
  | dict es =>
    cases hD with
    | @dct a kvs _ hq ha =>
      cases rv
      obtain ⟨_, hsy, vs, rv, o, ents, ep, ho, hc, hd, _, pr, _⟩ := (show ObjOk X.prog X.w H s.heap a (.dK kvs) from I.hok a _ hq)
      have hz' : (dictText (PyData.shownKv es)).length ≤ sizeLine := by simpa only [PyData.shown] using hz
      obtain ⟨⟨as, hrk⟩, ⟨as', hrv⟩, bs, hb, hk⟩ := rkE_of I es kvs vs ents.toList ha rv pr (by simpa only [PyData.showable] using hs) (fun t ht => Nat.le_trans (dictText_mem_le ht) hz')
      have rr := Reads.dict ho hc.1 hd hrk hrv
      have hna := not_mem_of_deeper rr (n := PyData.depthKv es) (by simp only [PyData.depth]; omega) hb
      simp only [PyData.depth] at hdp
      simp only [PyData.shown] at fin
      refine call_repr_slot (by omega) ⟨o, ho, hc.1⟩ F.slot_dict_repr ?_
      exact call_dict_reprK ho hc.1 hd hsy hna hk hgu (fun b _ => Clear.nil b) (by show X.A.units + 1 + _ < cLine; omega) (fun _ _ e => e) (fun h' u tk k => ⟨_, _, rfl, fin h' u tk k⟩) hz'
end
end G

/-! ## G3: defs of the text as callable things; the bag of draws -/
namespace G
open PySem PySem.Spec PyProof.Rows L2
/-- at f stands the def fd -/
def Has (K : PySem.W.Frag) (f : Addr) (fd : FuncData) : Prop := ∃ o, K.lookup f = some o ∧ o.data = .func fd
theorem has_of {K : PySem.W.Frag} {x q : Str} {st : Stmt} {f : Addr} {fd : FuncData} (F : Fun K x q st f fd) : Has K f fd := by
  obtain ⟨oc, od, kV, doc, pm, an, cdv, ct, osl, rfl, lk, hcd⟩ := F.ex
  exact ⟨_, lk, rfl⟩
theorem Has.uniq {K : PySem.W.Frag} {f : Addr} {fd fd' : FuncData} (h : Has K f fd) (h' : Has K f fd') : fd = fd' := by
  obtain ⟨o, a, b⟩ := h
  obtain ⟨o', a', b'⟩ := h'
  rw [a] at a'
  cases a'
  rw [b] at b'
  cases b'
  rfl
/-- the def st stands under the name x of the module -/
def Def (K : PySem.W.Frag) (mg : Str → Option Value) (x : Str) (st : Stmt) (ps : List Str) : Prop := ∃ f fd, Fun K x x st f fd ∧ mg x = some (.ref f) ∧ Binds K fd ps []
/-- what stands under the name x keeps the promise -/
def Cal (P : Program) (w : World) (K : PySem.W.Frag) (mg : Str → Option Value) (base : Heap) (cx : CXT) (k : Nat) (x : Str) (ps : List Str) (sp : Sp) : Prop :=
  ∃ f fd, FnOk P w K mg base cx k f fd ps sp ∧ mg x = some (.ref f) ∧ PySem.W.keepIn K (.ref f) = true ∧ Binds K fd ps [] ∧ Has K f fd
def CalG (P : Program) (w : World) (K : PySem.W.Frag) (mg : Str → Option Value) (base : Heap) (cx : CXT) (k : Nat) (x : Str) (ps : List Str) (sp : Sp) : Prop :=
  ∃ f fd, FnG P w K mg base cx k f fd ps sp ∧ mg x = some (.ref f) ∧ PySem.W.keepIn K (.ref f) = true ∧ Binds K fd ps [] ∧ Has K f fd
section
variable {P : Program} {w : World} {K : PySem.W.Frag} {mg : Str → Option Value} {base : Heap} {cx : CXT} {k : Nat} {x : Str} {ps N : List Str} {sp : Sp} {st : Stmt}
theorem Cal.up {j : Nat} (c : Cal P w K mg base cx j x ps sp) (h : j ≤ k) : Cal P w K mg base cx k x ps sp := let ⟨f, fd, F, r⟩ := c; ⟨f, fd, F.mono h, r⟩
theorem CalG.up {j : Nat} (c : CalG P w K mg base cx j x ps sp) (h : j ≤ k) : CalG P w K mg base cx k x ps sp := let ⟨f, fd, F, r⟩ := c; ⟨f, fd, F.up h, r⟩
theorem Cal.g (c : Cal P w K mg base cx k x ps sp) : CalG P w K mg base cx k x ps sp := let ⟨f, fd, F, r⟩ := c; ⟨f, fd, FnG.of F, r⟩
theorem Def.ok (D : Def K mg x st ps) (S : FnScope N ps (defScope st)) (ln : ∀ vs H Q E, sp vs H Q E → vs.length = ps.length)
    (bd : ∀ (f : Addr) (cdv : Value) (A : Around) (out : List Env) (s : Shared) (H : Hp) (vs : List V) (Q : VK) (E : XK), Room k (A.deeper (envOfC x (defScope st) s.heap.objs.size f cdv)) → sp vs H Q E →
      ∃ t, PSs (cxOf CX0 P w K mg base N x (defScope st) f cdv A out s H E).nox (defBody st) t ∧ t { nx := fun _ H' => Q .non H', rt := Q } (start N vs) H) : Cal P w K mg base CX0 (k + 1) x ps sp := by
  obtain ⟨f, fd, F, m, b⟩ := D
  exact ⟨f, fd, F.ok S ln fun cdv A out s H vs Q E hr h => bd f cdv A out s H vs Q E hr h, m, F.kp, b, has_of F⟩
theorem Def.okX (D : Def K mg x st ps) (S : FnScope N ps (defScope st)) (ln : ∀ vs H Q E, sp vs H Q E → vs.length = ps.length)
    (bd : ∀ (f : Addr) (cdv : Value) (A : Around) (out : List Env) (s : Shared) (H : Hp) (vs : List V) (Q : VK) (E : XK), Room k (A.deeper (envOfC x (defScope st) s.heap.objs.size f cdv)) → sp vs H Q E →
      ∃ t, PSs (cxOf (L2.CX P w) P w K mg base N x (defScope st) f cdv A out s H E) (defBody st) t ∧ t { nx := fun _ H' => Q .non H', rt := Q } (start N vs) H) : Cal P w K mg base (L2.CX P w) (k + 1) x ps sp := by
  obtain ⟨f, fd, F, m, b⟩ := D
  exact ⟨f, fd, F.okX S ln fun cdv A out s H vs Q E hr h => bd f cdv A out s H vs Q E hr h, m, F.kp, b, has_of F⟩
theorem Def.okG (D : Def K mg x st ps) (S : FnScope N ps (defScope st)) (ln : ∀ vs H Q E, sp vs H Q E → vs.length = ps.length)
    (bd : ∀ (f : Addr) (cdv : Value) (A : Around) (out : List Env) (s : Shared) (H : Hp) (vs : List V) (Q : VK) (E : XK), A.guards = some [] → Room k (A.deeper (envOfC x (defScope st) s.heap.objs.size f cdv)) → sp vs H Q E →
      ∃ t, PSs (cxOf CX0 P w K mg base N x (defScope st) f cdv A out s H E).nox (defBody st) t ∧ t { nx := fun _ H' => Q .non H', rt := Q } (start N vs) H) : CalG P w K mg base CX0 (k + 1) x ps sp := by
  obtain ⟨f, fd, F, m, b⟩ := D
  exact ⟨f, fd, G.okG F S ln fun cdv A out s H vs Q E hg hr h => bd f cdv A out s H vs Q E hg hr h, m, F.kp, b, has_of F⟩
end
/-- from what the head has written out -/
theorem def_mk {K : PySem.W.Frag} {mg : Str → Option Value} {h : Heap} {x : Str} {st : Stmt} {ps : List Str} {f : Addr} {oc : Value} {od an : Option Addr} {osl : Array (Option Value)} {kV doc pm cdv ct : Value} (X : K.In h) (G : h.Ns mainGlobals mg)
    (a : PySem.W.nsIn K mainGlobals x = some (some (.ref f))) (l : K.lookup f = some ⟨oc, od, .func (PySem.W.fnOf x x (defArgs st) (defBody st) (defScope st) .none kV doc pm an cdv ct), osl⟩) (c : PySem.W.codeIn K cdv x = true) (k : PySem.W.keepIn K (.ref f) = true)
    (hb : ∀ (kV doc pm : Value) (an : Option Addr) (cdv ct : Value) (us : List Value), us.length = ps.length → bindArgs (PySem.W.fnOf x x (defArgs st) (defBody st) (defScope st) .none kV doc pm an cdv ct) ⟨us, []⟩ = pure (ps.zip us)) : Def K mg x st ps :=
  have F := fun_mk (st := st) l c k
  ⟨f, _, F, PySem.W.mg_of X G a, F.binds hb⟩
/-- the law's def, as its end wants it -/
theorem law_end {P : Program} {w : World} {K : PySem.W.Frag} {mg : Str → Option Value} {x p : Str} {st : Stmt} {k : Nat} {sp : Sp} {fa : Addr} {cx : CXT} (D : Def K mg x st [p]) (hfa : mg x = some (.ref fa))
    (hb : ∀ (kV doc pm : Value) (an : Option Addr) (cdv ct v : Value), bindArgs (PySem.W.fnOf x x (defArgs st) (defBody st) (defScope st) .none kV doc pm an cdv ct) ⟨[v], []⟩ = pure [(p, v)]) (F : ∀ base : Heap, K.In base → base.Ns mainGlobals mg → CalG P w K mg base cx k x [p] sp) :
    ∃ fd : FuncData, (∀ (s : Shared) (v : Value), BindsTo s fd ⟨[v], []⟩ [(p, v)]) ∧ ∀ base : Heap, K.In base → base.Ns mainGlobals mg → FnG P w K mg base cx k fa fd [p] sp := by
  obtain ⟨f, fd, fn, m, b⟩ := D
  rw [hfa] at m
  cases m
  refine ⟨fd, fun s v => ?_, fun base kb nb => ?_⟩
  · obtain ⟨oc, od, kV, doc, pm, an, cdv, ct, osl, rfl, lk, hcd⟩ := fn.ex
    exact .of_eq (hb kV doc pm an cdv ct v)
  obtain ⟨f', fd', G', m', _, _, hs⟩ := F base kb nb
  rw [hfa] at m'
  cases m'
  have e := hs.uniq (has_of fn)
  subst e
  exact G'
section
variable {X : Cx} {cx : CXT} {k : Nat} {ps : List Str} {sp : Sp} {E : XK} {x : Str} {p pos : Pos} {e : Expr} {es : List Expr} {t : TA}
theorem pe_c (c : Cal X.prog X.w X.K X.mg X.base cx k x ps sp) (hr : Room k X.A) (hx : Passes cx X E) (ha : PA X (e :: es) t) (hg : Gl X x := by rfl) (hdb : (x == ("__debug__" : Str)) = false := by decide)
    (he : starEach (e :: es) X.env = (false, eval e X.env) :: starEach es X.env := by rfl) (hpl : (backTo pos (starEach es X.env)).any (·.1) = false := by rfl) : PE X (.Call (.Name x p) (e :: es) [] pos) (tCall sp [] E t) := by
  obtain ⟨f, fd, F, m, kp, b, _⟩ := c
  exact pe_call F hr hg m kp b .nil hx ha hdb he hpl
theorem pe_cG (c : CalG X.prog X.w X.K X.mg X.base cx k x ps sp) (hgu : X.A.guards = some []) (hr : Room k X.A) (hx : Passes cx X E) (ha : PA X (e :: es) t) (hg : Gl X x := by rfl) (hdb : (x == ("__debug__" : Str)) = false := by decide)
    (he : starEach (e :: es) X.env = (false, eval e X.env) :: starEach es X.env := by rfl) (hpl : (backTo pos (starEach es X.env)).any (·.1) = false := by rfl) : PE X (.Call (.Name x p) (e :: es) [] pos) (tCall sp [] E t) := by
  obtain ⟨f, fd, F, m, kp, b, _⟩ := c
  exact pe_callG F hgu hr hg m kp b .nil hx ha hdb he hpl
/-- a built-in class by its name, as a value -/
theorem pe_ty {n : String} (hm : X.mg x = none) (hv : bootBuiltins x = some (.type n)) (hg : Gl X x := by rfl) (hn : x ≠ "__name__" := by decide) (hd : (x == ("__debug__" : Str)) = false := by decide) : PE X (.Name x pos) (tC (.ty n)) :=
  pe_bltn hg hm hv rfl hn hd
/-- a module's int -/
theorem pe_gi {i : Int} {tk : Tok} (hm : X.mg x = some (.int i tk)) (hg : Gl X x := by rfl) (hd : (x == ("__debug__" : Str)) = false := by decide) : PE X (.Name x pos) (tC (.int i)) := pe_glob hg hm ⟨_, rfl⟩ hd
/-- o[i] op= e of a list, i not negative: the read -/
def rGetN (K : PySem.W.Frag) : V → V → Hp → VK → Prop := fun o i H Q => ∃ (q : Addr) (xs : List V) (n : Nat) (v : V), o = .ref q ∧ i = .int (n : Int) ∧ SqL K H q xs ∧ xs[n]? = some v ∧ Q v H
theorem get_list : PGet X (rGetN X.K) := by
  intro pins s σ H o i ov iv Q I ro ri h
  obtain ⟨q, xs, n, z, rfl, rfl, hq, he, q⟩ := h
  cases ro
  obtain ⟨t, rfl⟩ := ri
  obtain ⟨its, r, pl, hz⟩ := I.list hq
  obtain ⟨u, eu, ru⟩ := r.get he
  have hn := line63
  have hlt := (List.getElem?_eq_some_iff.mp he).1
  exact wpAny_getItem_list pl.isList (by omega) (by omega) (by simpa using eu) ⟨z, H, I, ru, q⟩
end
/-- the built-in names that the module has not bound -/
structure Blt (mg : Str → Option Value) : Prop where
  len : mg "len" = Option.none
  isinstance : mg "isinstance" = Option.none
  int : mg "int" = Option.none
  bool : mg "bool" = Option.none
  list : mg "list" = Option.none
  tuple : mg "tuple" = Option.none
  str : mg "str" = Option.none
  all : mg "all" = Option.none
  any : mg "any" = Option.none
  zip : mg "zip" = Option.none
  range : mg "range" = Option.none
  abs : mg "abs" = Option.none
  repr : mg "repr" = Option.none
  min : mg "min" = Option.none
  max : mg "max" = Option.none
  sum : mg "sum" = Option.none
  sorted : mg "sorted" = Option.none
  enumerate : mg "enumerate" = Option.none
  reversed : mg "reversed" = Option.none
  set : mg "set" = Option.none
  dict : mg "dict" = Option.none
  ValueError : mg "ValueError" = Option.none
/-! ### rules with the written part as a letter (within comprehensions the context hangs on bound names) -/
section
variable (K : PySem.W.Frag) {X : Cx}
theorem kixL (h : X.K = K := by rfl) : IxR X (rIxL K) := by subst h; exact ix_list
theorem kixT (h : X.K = K := by rfl) : IxR X (rIxT K) := by subst h; exact ix_tup
theorem kixS (h : X.K = K := by rfl) : IxR X (rIx K) := by subst h; exact ix_seq
theorem kslL (h : X.K = K := by rfl) : SlR X (rSlL K) := by subst h; exact sl_list
theorem kslT (h : X.K = K := by rfl) : SlR X (rSlA K) := by subst h; exact sl_tupA
theorem kisi (h : X.K = K := by rfl) : CallR X (.builtin "isinstance") (rIsi K) := by subst h; exact call_isi
theorem klen (h : X.K = K := by rfl) : CallR X (.builtin "len") (fun xs H Q => ∃ x n, xs = [x] ∧ LenV K x H n ∧ Q (.int n) H) := by subst h; exact call_len
theorem kall (hc : X.calm = true := by rfl) (h : X.K = K := by rfl) : CallR X (.builtin "all") (rAll K) := by subst h; exact cr_all hc
theorem kany (hc : X.calm = true := by rfl) (h : X.K = K := by rfl) : CallR X (.builtin "any") (rAny K) := by subst h; exact cr_any hc
theorem ksum (hc : X.calm = true := by rfl) (h : X.K = K := by rfl) : CallR X (.builtin "sum") (rSum K) := by subst h; exact cr_sum hc
theorem krepr (hgu : X.A.guards = some []) (hu : X.A.units + 64 < cLine) (h : X.K = K := by rfl) : CallR X (.builtin "repr") (rRepr K) := by subst h; exact call_repr hgu hu
theorem keq (hu : X.A.units + 64 < cLine) (h : X.K = K := by rfl) : OpR X (compareOp .Eq) (rEqD K) := by subst h; exact op_eqD hu
theorem kne (hu : X.A.units + 64 < cLine) (h : X.K = K := by rfl) : OpR X (compareOp .NotEq) (rNeD K) := by subst h; exact op_neD hu
theorem kin (h : X.K = K := by rfl) : OpR X (compareOp .In) (rIn K false) := by subst h; exact op_in_seq
theorem knin (h : X.K = K := by rfl) : OpR X (compareOp .NotIn) (rIn K true) := by subst h; exact op_notIn_seq
theorem ktup (h : X.K = K := by rfl) : CallR X (.type "tuple") (fun xs H Q => ∃ p ys, xs = [.ref p] ∧ ((SqL K H p ys ∧ ∀ l, H l = none → Q (.ref l) (upd H l (.tup ys))) ∨ (SqT K H p ys ∧ Q (.ref p) H))) := by subst h; exact call_tuple_of
theorem klist (h : X.K = K := by rfl) : CallR X (.type "list") (fun xs H Q => ∃ p ys, xs = [.ref p] ∧ (SqL K H p ys ∨ SqT K H p ys) ∧ ∀ l, H l = none → Q (.ref l) (upd H l (.lst ys))) := by subst h; exact call_list_of
end
/-! ### the bag -/
/-- H without what stands at b -/
def hid (b : Addr) (H : Hp) : Hp := fun a => if a = b then none else H a
theorem hid_at {b : Addr} {H : Hp} : hid b H b = none := if_pos rfl
theorem hid_ne {b a : Addr} {H : Hp} (h : a ≠ b) : hid b H a = H a := if_neg h
theorem hid_le {b : Addr} {H : Hp} : Same (hid b H) H := fun a o e => by
  by_cases h : a = b
  · subst h; rw [hid_at] at e; cases e
  · rw [hid_ne h] at e; exact e
theorem hid_same {b : Addr} {H H' : Hp} (s : Same H H') : Same (hid b H) (hid b H') := fun a o e => by
  by_cases h : a = b
  · subst h; rw [hid_at] at e; cases e
  · rw [hid_ne h] at e ⊢; exact s _ _ e
theorem hid_upd {b : Addr} {H : Hp} {o : HO} : hid b (upd H b o) = hid b H := by
  funext a
  by_cases h : a = b
  · subst h; rw [hid_at, hid_at]
  · rw [hid_ne h, hid_ne h, upd_ne h]
theorem same_new {H : Hp} {p : Addr} {o : HO} (h : H p = none) : Same H (upd H p o) := fun a u e => by
  rw [upd_ne (ne_of_none e h)]
  exact e
/-- at b stands a bag, its cells at c -/
def BagC (b c : Addr) (H : Hp) : Prop := ∃ (a s k : Int) (cs : List Int), H b = some (.lst [.int a, .int s, .int k, .ref c]) ∧ H c = some (.lst (cs.map V.int)) ∧ c ≠ b ∧ 0 ≤ a ∧ (∀ z ∈ cs, 0 ≤ z) ∧ 0 ≤ s ∧ s < 2147483647 ∧ 0 ≤ k
def BagOk (b : Addr) (H : Hp) : Prop := ∃ c, BagC b c H
/-- on from H to H': the bag at b, with the same cells, all else kept -/
structure Go (b : Addr) (H H' : Hp) : Prop where
  bg : ∃ c, BagC b c H ∧ BagC b c H'
  sm : Same (hid b H) (hid b H')
theorem Go.bag {b : Addr} {H H' : Hp} (g : Go b H H') : BagOk b H' := let ⟨c, _, h⟩ := g.bg; ⟨c, h⟩
theorem BagC.up {b c : Addr} {H H' : Hp} (h : BagC b c H) (s : Same H H') : BagC b c H' := by
  obtain ⟨a, z, k, cs, h1, h2, r⟩ := h
  exact ⟨a, z, k, cs, s _ _ h1, s _ _ h2, r⟩
theorem BagC.uniq {b c c' : Addr} {H : Hp} (h : BagC b c H) (h' : BagC b c' H) : c = c' := by
  obtain ⟨a, z, k, cs, h1, _⟩ := h
  obtain ⟨a', z', k', cs', h1', _⟩ := h'
  rw [h1] at h1'
  cases h1'
  rfl
theorem BagOk.up {b : Addr} {H H' : Hp} (h : BagOk b H) (s : Same H H') : BagOk b H' := let ⟨c, q⟩ := h; ⟨c, q.up s⟩
theorem BagOk.ne {b p : Addr} {H : Hp} (h : BagOk b H) (e : H p = none) : p ≠ b := by
  obtain ⟨c, a, z, k, cs, h1, _⟩ := h
  exact fun q => by rw [q, h1] at e; cases e
theorem Go.refl {b : Addr} {H : Hp} (h : BagOk b H) : Go b H H := let ⟨c, q⟩ := h; ⟨⟨c, q, q⟩, Same.refl _⟩
theorem Go.of {b : Addr} {H H' : Hp} (h : BagOk b H) (s : Same H H') : Go b H H' := let ⟨c, q⟩ := h; ⟨⟨c, q, q.up s⟩, hid_same s⟩
theorem Go.trans {b : Addr} {H H1 H2 : Hp} (x : Go b H H1) (y : Go b H1 H2) : Go b H H2 := by
  obtain ⟨c, c1, c2⟩ := x.bg
  obtain ⟨d, d1, d2⟩ := y.bg
  have e := c2.uniq d1
  subst e
  exact ⟨⟨c, c1, d2⟩, x.sm.trans y.sm⟩
/-- a thing that H does not know may be changed -/
theorem Go.mut {b L : Addr} {o : HO} {H H' : Hp} (x : Go b H H') (h : H L = none) : Go b H (upd H' L o) := by
  obtain ⟨c, c1, c2⟩ := x.bg
  refine ⟨⟨c, c1, ?_⟩, fun a u e => ?_⟩
  · obtain ⟨a, z, k, cs, h1, h2, _⟩ := c1
    obtain ⟨a', z', k', cs', h1', h2', r⟩ := c2
    exact ⟨a', z', k', cs', by rw [upd_ne (ne_of_none h1 h)]; exact h1', by rw [upd_ne (ne_of_none h2 h)]; exact h2', r⟩
  · by_cases hb : a = b
    · subst hb; rw [hid_at] at e; cases e
    · have q := x.sm a u e
      rw [hid_ne hb] at e q ⊢
      rw [upd_ne (ne_of_none e h)]
      exact q
theorem Go.then {b : Addr} {H H1 H2 : Hp} (x : Go b H H1) (y : Same H1 H2) : Go b H H2 := x.trans (.of x.bag y)
theorem Go.new {b p : Addr} {o : HO} {H H1 : Hp} (x : Go b H H1) (h : H1 p = none) : Go b H (upd H1 p o) := x.then (same_new h)
theorem Go.da {K : PySem.W.Frag} {b : Addr} {H H' : Hp} {v : V} {d : PyData} (g : Go b H H') (h : Da K (hid b H) v d) : Da K (hid b H') v d := h.mono g.sm
theorem Go.dal {K : PySem.W.Frag} {b : Addr} {H H' : Hp} {v : List V} {d : List PyData} (g : Go b H H') (h : DaL K (hid b H) v d) : DaL K (hid b H') v d := h.mono g.sm
theorem da_of {K : PySem.W.Frag} {b : Addr} {H : Hp} {v : V} {d : PyData} (h : Da K (hid b H) v d) : Da K H v d := h.mono hid_le
theorem dal_of {K : PySem.W.Frag} {b : Addr} {H : Hp} {v : List V} {d : List PyData} (h : DaL K (hid b H) v d) : DaL K H v d := h.mono hid_le
/-- a new list, a new tuple of such data -/
theorem da_newL {K : PySem.W.Frag} {b p : Addr} {H : Hp} {vs : List V} {ds : List PyData} (hb : BagOk b H) (h : DaL K (hid b H) vs ds) (hp : H p = none) : Da K (hid b (upd H p (.lst vs))) (.ref p) (.list ds) :=
  .lst (.inl (.inl (by rw [hid_ne (hb.ne hp)]; exact upd_same))) (h.mono (hid_same (same_new hp)))
theorem da_newT {K : PySem.W.Frag} {b p : Addr} {H : Hp} {vs : List V} {ds : List PyData} (hb : BagOk b H) (h : DaL K (hid b H) vs ds) (hp : H p = none) : Da K (hid b (upd H p (.tup vs))) (.ref p) (.tuple ds) :=
  .tup (.inl (.inl (by rw [hid_ne (hb.ne hp)]; exact upd_same))) (h.mono (hid_same (same_new hp)))
theorem daL {K : PySem.W.Frag} {p : Addr} {H : Hp} {vs : List V} {ds : List PyData} (h : DaL K H vs ds) (hp : H p = none) : Da K (upd H p (.lst vs)) (.ref p) (.list ds) := .lst (.inl (.inl upd_same)) (h.mono (same_new hp))
theorem daT {K : PySem.W.Frag} {p : Addr} {H : Hp} {vs : List V} {ds : List PyData} (h : DaL K H vs ds) (hp : H p = none) : Da K (upd H p (.tup vs)) (.ref p) (.tuple ds) := .tup (.inl (.inl upd_same)) (h.mono (same_new hp))
/-- _law_take(bag, many): some int from 0 to many - 1 -/
def sp_take : Sp := fun vs H Q _ => ∃ (b : Addr) (m : Int), vs = [.ref b, .int m] ∧ BagOk b H ∧ 0 < m ∧ m < 2 ^ 200 ∧ ∀ (v : Int) (H' : Hp), 0 ≤ v → v < m → Go b H H' → Q (.int v) H'
/-- _law_bag(script) -/
def sp_bag (K : PySem.W.Frag) : Sp := fun vs H Q _ => ∃ (a : Addr) (ns : List Int), vs = [.ref a] ∧ SqL K H a (ns.map V.int) ∧ ns.length ≤ 1000 ∧ ∀ (b : Addr) (H' : Hp), H b = none → Same H H' → BagOk b H' → Q (.ref b) H'
end G

/-! ## G4: comprehensions whose items are values that hang on no heap; small things about data -/
namespace G
open PySem PySem.Spec PyProof.Rows L2
theorem cut_map {α : Type} (f : α → V) (ns : List α) (lo hi : Option Int) : ∃ a b, cutV (ns.map f) lo hi = ((ns.drop a).take b).map f := by
  have e : cutV (ns.map f) lo hi = ((ns.map f).drop _).take _ := rfl
  rw [← List.map_drop, ← List.map_take] at e
  exact ⟨_, _, e⟩
theorem same_free {H H' : Hp} {p : Addr} (s : Same H H') (h : H' p = none) : H p = none := s.free h
/-- [e for x in xs]: e a value that hangs on x alone -/
theorem lc_map {K : PySem.W.Frag} {a : Addr} {xs ys : List V} {j : Nat} {te : TE} {vs : List Nat} {σ : L2.St} {H1 : Hp} {D : Addr} {Qd : Hp → Prop} (hx : SqL K H1 a xs) (hD : H1 D = none) (hl : ys.length = xs.length) (hz : xs.length ≤ 100000)
    (hw : ∀ x, wipe ((wipe σ vs).set j (some x)) vs = wipe σ vs)
    (hs : ∀ (i : Nat) (x y : V), xs[i]? = some x → ys[i]? = some y → ∀ H, Same H1 H → ∀ Q : VK, (∀ H4, Same H H4 → Q y H4) → te ((wipe σ vs).set j (some x)) H Q)
    (hd : ∀ H, Same H1 H → H D = some (.lst ys) → Qd H) :
    ∃ W : Nat → Nat → Hp → Prop, (∃ m, W 0 m (upd H1 D (.lst []))) ∧ ∀ i m H, W i m H →
      ((Itl K a).stop i H ∧ Qd H) ∨ ((Itl K a).go i H ∧ ∃ Nx : Hp → Prop, (∀ H', Nx H' → ∃ m', m' < m ∧ W (i + 1) m' H') ∧ ∀ x H', (Itl K a).yld i H x H' → gName j x (wipe σ vs) H' fun σ2 H2 => wipe σ2 vs = wipe σ vs ∧ tYes σ2 H2 fun b H3 =>
        if b = true then te σ2 H3 fun y H4 => ∃ acc, H4 D = some (.lst acc) ∧ acc.length < sizeLine ∧ Nx (upd H4 D (.lst (acc ++ [y]))) else Nx H3) := by
  refine lc_list (K := K) (a := a) (xs := xs) (fun i H => Same H1 H ∧ H D = some (.lst (ys.take i))) ⟨same_new hD, upd_same⟩ (fun i H _ p => sql_up p.1 hx) (fun i x H hi p => ?_) (fun H p => hd H p.1 (by rw [p.2, ← hl, List.take_length]))
  have hlt := (List.getElem?_eq_some_iff.mp hi).1
  have hy : ys[i]? = some ys[i] := List.getElem?_eq_getElem (by omega)
  refine ⟨hw x, ?_⟩
  unfold tYes
  refine iteT (hs i x ys[i] hi hy H p.1 _ fun H4 e4 => ⟨ys.take i, e4 _ _ p.2, ?_, ?_, ?_⟩)
  · rw [List.length_take, sizeLine_eq]; omega
  · exact fun b o e => by
      rw [upd_ne (ne_of_none e hD)]
      exact e4 _ _ (p.1 _ _ e)
  · rw [upd_same, List.take_succ, hy]
    rfl
theorem boolAll {α : Type} (l : List α) (f : α → Bool) : ((l.map f).all id) = l.all f := by
  induction l with
  | nil => rfl
  | cons a l ih => simp
/-- what is true of each datum -/
theorem DaL.all2 {K : PySem.W.Frag} {H : Hp} {ds : List PyData} {vs : List V} {i : Nat} {v : V} (h : DaL K H vs ds) (e : vs[i]? = some v) : ∃ d, ds[i]? = some d ∧ Da K H v d := h.getV e
end G

/-! ## G5: kinds: what the predicates say of data; their promises -/
namespace G
open PySem PySem.Spec PyProof.Rows L2
def isInt : PyData → Bool
  | .int _ => true
  | _ => false
theorem isInt_eq (d : PyData) : isInt d = (isI d && !isB d) := by cases d <;> rfl
/-- an integer from lo to hi -/
def betw (d : PyData) (lo hi : Int) : Bool := match d with
  | .int i => decide (lo ≤ i) && decide (i ≤ hi)
  | _ => false
def sp_is_integer (K : PySem.W.Frag) : Sp := fun vs H Q _ => ∃ v d, vs = [v] ∧ Da K H v d ∧ Q (.bl (isInt d)) H
def sp_is_between (K : PySem.W.Frag) : Sp := fun vs H Q _ => ∃ v d lo hi, vs = [v, .int lo, .int hi] ∧ Da K H v d ∧ Q (.bl (betw d lo hi)) H
def sp_is_amount (K : PySem.W.Frag) : Sp := fun vs H Q _ => ∃ v d, vs = [v] ∧ Da K H v d ∧ Q (.bl (betw d 0 1000000000000000000000000000000)) H
def sp_is_count (K : PySem.W.Frag) : Sp := fun vs H Q _ => ∃ v d, vs = [v] ∧ Da K H v d ∧ Q (.bl (betw d 1 1000000000000000000)) H
def sp_is_broker (K : PySem.W.Frag) : Sp := fun vs H Q _ => ∃ v d n, vs = [v, .int n] ∧ Da K H v d ∧ Q (.bl (betw d 0 (n - 1))) H
end G
namespace G
open PySem PySem.Spec PyProof.Rows L2
def ltD : PyData → PyData → Bool
  | .int a, .int b => decide (a < b)
  | _, _ => false
/-- each less than the next -/
def ascD (ds : List PyData) : Bool := (List.zipWith ltD ds (ds.drop 1)).all id
def isSetD (d : PyData) (n : Int) : Bool := match d with
  | .list ds => ds.all (fun x => betw x 0 (n - 1)) && ascD ds
  | _ => false
end G

/-! ## G6: data that can be shown; alike; odd values; comprehensions by a walk -/
namespace G
open PySem PySem.Spec PyProof.Rows L2
/-- the datum can be shown, is nested at most n deep, and its text has at most B signs -/
structure Sm (n B : Nat) (d : PyData) : Prop where
  sh : d.showable = true
  dp : d.depth ≤ n
  ln : d.shown.length ≤ B
theorem Sm.up {n m A B : Nat} {d : PyData} (h : Sm n A d) (a : n ≤ m) (b : A ≤ B) : Sm m B d := ⟨h.sh, Nat.le_trans h.dp a, Nat.le_trans h.ln b⟩
theorem Sm.none : Sm 0 5 PyData.none := ⟨rfl, Nat.le_refl _, by decide +kernel⟩
theorem Sm.bool (b : Bool) : Sm 0 5 (PyData.bool b) := by cases b <;> exact ⟨rfl, Nat.le_refl _, by decide +kernel⟩
theorem Sm.int {i : Int} (h : i.natAbs < 10 ^ 45) : Sm 0 46 (PyData.int i) := by
  refine ⟨?_, Nat.le_refl _, ?_⟩
  · simp only [PyData.showable, decide_eq_true_eq]
    exact Nat.lt_trans (PySem.Flt.log2_lt_of (k := 200) (by decide) (Nat.lt_trans h (by decide))) (by decide)
  · simp only [PyData.shown]
    have e := int_text_length_le10 (a := i) (k := 45) (by decide) h
    rw [PySem.ofString_length]
    exact e
theorem sm_all {n B : Nat} : ∀ {ds : List PyData}, (∀ d ∈ ds, Sm n B d) → PyData.showableAll ds = true ∧ PyData.depthAll ds ≤ n ∧ ((PyData.shownAll ds).map (·.length)).sum ≤ B * ds.length ∧ (PyData.shownAll ds).length = ds.length
  | [], _ => by simp [PyData.showableAll, PyData.depthAll, PyData.shownAll]
  | d :: ds, h => by
    obtain ⟨a, b, c, e⟩ := sm_all (ds := ds) fun x hx => h x (List.mem_cons_of_mem _ hx)
    have hd := h d List.mem_cons_self
    have h1 := hd.dp
    have h2 := hd.ln
    refine ⟨?_, ?_, ?_, ?_⟩
    · simp only [PyData.showableAll, hd.sh, a, Bool.and_self]
    · simp only [PyData.depthAll]
      omega
    · simp only [PyData.shownAll, List.map_cons, List.sum_cons, List.length_cons, Nat.mul_add, Nat.mul_one]
      omega
    · simp only [PyData.shownAll, List.length_cons, e]
theorem Sm.list {n B m : Nat} {ds : List PyData} (h : ∀ d ∈ ds, Sm n B d) (hm : ds.length ≤ m) : Sm (n + 1) ((B + 2) * m + 3) (PyData.list ds) := by
  obtain ⟨a, b, c, e⟩ := sm_all h
  refine ⟨by simpa only [PyData.showable] using a, by simp only [PyData.depth]; omega, ?_⟩
  simp only [PyData.shown]
  have q := listText_len_le (PyData.shownAll ds)
  rw [e] at q
  have l1 : B * ds.length ≤ B * m := Nat.mul_le_mul_left _ hm
  have l2 : (B + 2) * m = B * m + 2 * m := Nat.add_mul _ _ _
  omega
theorem Sm.tuple {n B m : Nat} {ds : List PyData} (h : ∀ d ∈ ds, Sm n B d) (hm : ds.length ≤ m) : Sm (n + 1) ((B + 2) * m + 3) (PyData.tuple ds) := by
  obtain ⟨a, b, c, e⟩ := sm_all h
  refine ⟨by simpa only [PyData.showable] using a, by simp only [PyData.depth]; omega, ?_⟩
  simp only [PyData.shown]
  have q := tupleText_len_le (PyData.shownAll ds)
  rw [e] at q
  have l1 : B * ds.length ≤ B * m := Nat.mul_le_mul_left _ hm
  have l2 : (B + 2) * m = B * m + 2 * m := Nat.add_mul _ _ _
  omega
/-- how many items -/
def lenD : PyData → Nat
  | .list xs => xs.length
  | .tuple xs => xs.length
  | _ => 0
/-- found and due stand for the same: they are alike -/
def sp_alike (K : PySem.W.Frag) : Sp := fun vs H Q _ => ∃ v u d, vs = [v, u] ∧ Da K H v d ∧ Da K H u d ∧ d.canLay0 = true ∧ Sm 60 1000000 d ∧ ∀ H', Same H H' → Q (.bl true) H'
theorem shaped_of {d : PyData} {B : Nat} (h : Sm 60 B d) (c : d.canLay0 = true) : SeqAt.shaped d = true := by
  unfold SeqAt.shaped
  rw [c, Bool.true_and]
  exact decide_eq_true (Nat.le_trans h.dp (by decide))
section
variable {X : Cx}
/-- 'a' * 99 -/
theorem op_mulS : OpR X (binaryOp .Mult) (fun x y H Q => ∃ z n, x = .str z ∧ y = .int n ∧ MulOk z n ∧ Q (.str (Txt.mul z n)) H) := by
  intro pins s σ H x y v u Q I rx ry h
  obtain ⟨z, n, rfl, rfl, ok, q⟩ := h
  obtain ⟨t, rfl⟩ := rx
  obtain ⟨t', rfl⟩ := ry
  exact SB.mul ok fun t'' k => ⟨.str _, H, I.tok k, ⟨_, rfl⟩, q⟩
end
/-- a comprehension over anything that is walked: in turn i the item f i, or none -/
theorem lc_gen {J : It} {n : Nat} {Gd : Hp → Prop} {Y : Nat → Hp → V → Hp → Prop} (w : Walk J n Gd Y) {g : TG} {tt : TT} {te : TE} {vs : List Nat} {σ : L2.St} {H1 : Hp} {D : Addr} {Qd : Hp → Prop} (f : Nat → Option V) (hD : H1 D = none) (hz : n ≤ 100000)
    (hG : ∀ H, Same H1 H → Gd H)
    (hs : ∀ i x H H', i < n → Same H1 H → Y i H x H' → ∀ (R1 : VK) (R0 : Hp → Prop), (∀ y H4, f i = some y → Same H H4 → R1 y H4) → (f i = none → ∀ H4, Same H H4 → R0 H4) →
      g x (wipe σ vs) H' fun σ2 H2 => wipe σ2 vs = wipe σ vs ∧ tt σ2 H2 fun b H3 => if b = true then te σ2 H3 R1 else R0 H3)
    (hd : ∀ H, Same H1 H → H D = some (.lst ((List.range n).filterMap f)) → Qd H) :
    ∃ W : Nat → Nat → Hp → Prop, (∃ m, W 0 m (upd H1 D (.lst []))) ∧ ∀ i m H, W i m H →
      (J.stop i H ∧ Qd H) ∨ (J.go i H ∧ ∃ Nx : Hp → Prop, (∀ H', Nx H' → ∃ m', m' < m ∧ W (i + 1) m' H') ∧ ∀ x H', J.yld i H x H' → g x (wipe σ vs) H' fun σ2 H2 => wipe σ2 vs = wipe σ vs ∧ tt σ2 H2 fun b H3 =>
        if b = true then te σ2 H3 fun y H4 => ∃ acc, H4 D = some (.lst acc) ∧ acc.length < sizeLine ∧ Nx (upd H4 D (.lst (acc ++ [y]))) else Nx H3) := by
  refine lc_it w (fun i H => Same H1 H ∧ H D = some (.lst ((List.range i).filterMap f))) ⟨same_new hD, upd_same⟩ (fun i H _ p => hG H p.1) (fun i x H H' hi p y => ?_) (fun H p => hd H p.1 p.2)
  refine hs i x H H' hi p.1 y _ _ (fun y H4 hf e4 => ⟨_, e4 _ _ p.2, ?_, ?_, ?_⟩) (fun hf H4 e4 => ⟨p.1.trans e4, ?_⟩)
  · have q : ((List.range i).filterMap f).length ≤ (List.range i).length := List.length_filterMap_le f _
    rw [List.length_range] at q
    rw [sizeLine_eq]
    omega
  · exact fun b o e => by
      rw [upd_ne (ne_of_none e hD)]
      exact e4 _ _ (p.1 _ _ e)
  · rw [upd_same, List.range_succ, List.filterMap_append]
    simp [hf]
  · rw [e4 _ _ p.2, List.range_succ, List.filterMap_append]
    simp [hf]
theorem fm_take (ys : List V) : ∀ n, n ≤ ys.length → (List.range n).filterMap (fun i => ys[i]?) = ys.take n
  | 0, _ => by simp
  | n + 1, h => by
    rw [List.range_succ, List.filterMap_append, fm_take ys n (by omega), List.take_succ]
    have e : ys[n]? = some ys[n] := List.getElem?_eq_getElem (by omega)
    simp [e]
theorem fm_get (ys : List V) : (List.range ys.length).filterMap (fun i => ys[i]?) = ys := by
  rw [fm_take ys _ (Nat.le_refl _), List.take_length]
/-- the v-th of such values -/
theorem DaL.pick {K : PySem.W.Frag} {H : Hp} {vs : List V} {ds : List PyData} {v : Int} (h : DaL K H vs ds) (h0 : 0 ≤ v) (h1 : v < (ds.length : Int)) : ∃ x d, atI vs v = some x ∧ d ∈ ds ∧ ds[v.toNat]? = some d ∧ Da K H x d := by
  obtain ⟨n, rfl⟩ := Int.eq_ofNat_of_zero_le h0
  have hn : n < ds.length := by omega
  obtain ⟨x, e, hx⟩ := h.get (List.getElem?_eq_getElem hn)
  exact ⟨x, ds[n], atI_nat e, List.getElem_mem hn, by simpa using List.getElem?_eq_getElem hn, hx⟩
end G
namespace G
open PySem PySem.Spec PyProof.Rows L2
theorem cut_1 (xs : List V) : cutV xs (some 1) none = xs.drop 1 := by
  cases xs with
  | nil => rfl
  | cons x xs =>
    have e : cutV (x :: xs) (some 1) none = ((x :: xs).drop (min 1 (xs.length + 1))).take ((xs.length + 1) - min 1 (xs.length + 1)) := rfl
    rw [e, Nat.min_eq_left (by omega)]
    simp
theorem betw_int {d : PyData} {lo hi : Int} (h : betw d lo hi = true) : ∃ i, d = .int i := by
  cases d with
  | int i => exact ⟨i, rfl⟩
  | _ => cases h
def sp_is_set (K : PySem.W.Frag) : Sp := fun vs H Q _ => ∃ v d n, vs = [v, .int n] ∧ Da K H v d ∧ lenD d ≤ 100000 ∧ ∀ H', Same H H' → Q (.bl (isSetD d n)) H'
end G
namespace G
open PySem PySem.Spec PyProof.Rows L2
/-- the places (from 1) where the next is not greater -/
def notAsc (bs : List Bool) (i : Nat) : Option Int := if bs[i]? = some true then none else some (1 + (i : Int))
theorem fm_map {β : Type} (f : Nat → Option β) (g : β → V) (n : Nat) : (List.range n).filterMap (fun i => (f i).map g) = ((List.range n).filterMap f).map g := by
  induction n with
  | zero => rfl
  | succ n ih =>
    rw [List.range_succ, List.filterMap_append, List.filterMap_append, ih, List.map_append]
    cases h : f n <;> simp [h]
theorem canLay_ints : ∀ ns : List Int, PyData.canLayAll0 (ns.map PyData.int) = true
  | [] => rfl
  | n :: ns => by rw [List.map_cons, PyData.canLayAll0, canLay_ints ns]; rfl
theorem depth_ints : ∀ ns : List Int, PyData.depthAll (ns.map PyData.int) = 0
  | [] => rfl
  | n :: ns => by rw [List.map_cons, PyData.depthAll, depth_ints ns]; rfl
theorem shaped_ints (ns : List Int) : SeqAt.shaped (.list (ns.map PyData.int)) = true := by
  unfold SeqAt.shaped
  rw [PyData.canLay0, canLay_ints, PyData.depth, depth_ints]
  rfl
theorem eqv_nil (ns : List Int) : PyData.eqv (.list (ns.map PyData.int)) (.list []) = ns.isEmpty := by
  cases ns <;> simp [PyData.eqv, PyData.eqvAll]
theorem isE_app {α : Type} (a b : List α) : (a ++ b).isEmpty = (a.isEmpty && b.isEmpty) := by
  cases a <;> simp
theorem notAsc_go (bs : List Bool) : ∀ n, n ≤ bs.length → ((List.range n).filterMap (notAsc bs)).isEmpty = (bs.take n).all id
  | 0, _ => by simp
  | n + 1, h => by
    have e : bs[n]? = some bs[n] := List.getElem?_eq_getElem (by omega)
    rw [List.range_succ, List.filterMap_append, isE_app, notAsc_go bs n (by omega), List.take_succ, List.all_append, e]
    congr 1
    unfold notAsc
    cases hb : bs[n] <;> simp [e, hb]
theorem notAsc_all (ds : List PyData) : ((List.range (List.zipWith ltD ds (ds.drop 1)).length).filterMap (notAsc (List.zipWith ltD ds (ds.drop 1)))).isEmpty = (true && ascD ds) := by
  rw [notAsc_go _ _ (Nat.le_refl _), List.take_length]
  rfl
end G
namespace G
open PySem PySem.Spec PyProof.Rows L2
theorem Go.get {b p : Addr} {o : HO} {H H' : Hp} (g : Go b H H') (h : H p = some o) (n : p ≠ b) : H' p = some o := by
  have q := g.sm p o (by rw [hid_ne n]; exact h)
  rw [hid_ne n] at q
  exact q
theorem cp10 {j : Int} (h0 : 0 ≤ j) (h1 : j ≤ 1000000) : CPow 10 j := ⟨h0, h1, by decide⟩
theorem pickI {ns : List Int} {v : Int} (h0 : 0 ≤ v) (h1 : v < (ns.length : Int)) : ∃ z, z ∈ ns ∧ atI (ns.map V.int) v = some (.int z) := by
  obtain ⟨n, rfl⟩ := Int.eq_ofNat_of_zero_le h0
  have hn : n < ns.length := by omega
  exact ⟨ns[n], List.getElem_mem hn, atI_nat (by rw [List.getElem?_map, List.getElem?_eq_getElem hn]; rfl)⟩
def sp_number : Sp := fun vs H Q _ => ∃ b, vs = [.ref b] ∧ BagOk b H ∧ ∀ (v : Int) (H' : Hp), v.natAbs < 10 ^ 45 → Go b H H' → Q (.int v) H'
/-- some small datum -/
def sp_odd (K : PySem.W.Frag) : Sp := fun vs H Q _ => ∃ b, vs = [.ref b] ∧ BagOk b H ∧ ∀ (v : V) (d : PyData) (H' : Hp), Go b H H' → Da K (hid b H') v d → Sm 4 100000 d → lenD d ≤ 2000 → Q v H'
def sp_brokers (K : PySem.W.Frag) : Sp := fun vs H Q _ => ∃ b n, vs = [.ref b, .int n] ∧ BagOk b H ∧ 2 ≤ n ∧ n ≤ 10 ∧ ∀ (v : V) (d : PyData) (H' : Hp), Go b H H' → Da K (hid b H') v d → Sm 5 4000000 d → lenD d ≤ 100 → Q v H'
end G
namespace G
open PySem PySem.Spec PyProof.Rows L2
def nestL : Nat → PyData
  | 0 => .list []
  | n + 1 => .list [nestL n]
abbrev oddVA : List V := [V.int 0, V.int 1, V.int (-1), V.int 10, V.int 9, V.int (10 ^ (18 : Int).toNat), V.int (10 ^ (18 : Int).toNat + 1), V.int (10 ^ (30 : Int).toNat), V.int (10 ^ (30 : Int).toNat + 1), V.int (-10 ^ (39 : Int).toNat), V.bl true, V.bl false, V.non, V.str "", V.str "1"]
def oddA : List PyData := [.int 0, .int 1, .int (-1), .int 10, .int 9, .int (10 ^ (18 : Int).toNat), .int (10 ^ (18 : Int).toNat + 1), .int (10 ^ (30 : Int).toNat), .int (10 ^ (30 : Int).toNat + 1), .int (-10 ^ (39 : Int).toNat), .bool true, .bool false, .none, .str "", .str "1"]
def oddB0 : List PyData := [.tuple [], .tuple [.int 0], .tuple [.int 0, .int 1], .tuple [.int 0, .int 1, .int 2], .tuple [.int 1, .int 0], .list [], .list [.int 0], .list [.int 0, .int 1], .list [.list [.int 0, .int 1]], .dict [], .dict [(.int 0, .int 1)], nestL 3]
def oddB : List PyData := [.tuple [], .tuple [.int 0], .tuple [.int 0, .int 1], .tuple [.int 0, .int 1, .int 2], .tuple [.int 1, .int 0], .list [], .list [.int 0], .list [.int 0, .int 1], .list [.list [.int 0, .int 1]], .dict [], .dict [(.int 0, .int 1)], nestL 3, .list (List.replicate 2000 (.int 0))]
theorem flat_rep {α : Type} (a : α) : ∀ n : Nat, (List.replicate n [a]).flatten = List.replicate n a
  | 0 => rfl
  | n + 1 => by rw [List.replicate_succ, List.flatten_cons, flat_rep a n]; rfl
theorem mul99 : MulOk "a" 99 := ⟨by decide +kernel, fun _ _ => by decide +kernel, fun _ _ => by decide +kernel⟩
def smB (d : PyData) : Bool := d.showable && decide (d.depth ≤ 4) && decide (d.shown.length ≤ 100000) && decide (lenD d ≤ 2000)
theorem of_smB {d : PyData} (h : smB d = true) : Sm 4 100000 d ∧ lenD d ≤ 2000 := by
  unfold smB at h
  simp only [Bool.and_eq_true, decide_eq_true_eq] at h
  exact ⟨⟨h.1.1.1, h.1.1.2, h.1.2⟩, h.2⟩
theorem oddA_ok : oddA.all smB = true := by decide +kernel
theorem oddB_ok : oddB0.all smB = true := by decide +kernel
theorem oddC_ok : smB (.str (Txt.mul "a" 99)) = true := by decide +kernel
theorem odd_ok (d : PyData) (h : d ∈ (oddA ++ oddB) ++ [PyData.str (Txt.mul "a" 99)]) : Sm 4 100000 d ∧ lenD d ≤ 2000 := by
  rcases List.mem_append.mp h with h | h
  · rcases List.mem_append.mp h with h | h
    · exact of_smB (List.all_eq_true.mp oddA_ok d h)
    · have e : oddB = oddB0 ++ [.list (List.replicate 2000 (.int 0))] := rfl
      rw [e] at h
      rcases List.mem_append.mp h with h | h
      · exact of_smB (List.all_eq_true.mp oddB_ok d h)
      · rw [List.mem_singleton.mp h]
        refine ⟨(Sm.list (n := 0) (B := 46) (m := 2000) (fun d hd => ?_) (by simp)).up (by decide) (by decide), by simp [lenD]⟩
        rw [(List.mem_replicate.mp hd).2]
        exact Sm.int (by decide)
  · rw [List.mem_singleton.mp h]
    exact of_smB oddC_ok
end G
namespace G
open PySem PySem.Spec PyProof.Rows L2
/-- at most N ints, none of more than 45 digits -/
def SmI (N : Nat) (ms : List Int) : Prop := ms.length ≤ N ∧ ∀ z ∈ ms, z.natAbs < 10 ^ 45
theorem cutI {N : Nat} {ns : List Int} (h : SmI N ns) (lo hi : Option Int) : ∃ ms, cutV (ns.map V.int) lo hi = ms.map V.int ∧ SmI N ms := by
  obtain ⟨a, b, e⟩ := cut_map V.int ns lo hi
  refine ⟨_, e, ?_, fun z hz => h.2 z (List.mem_of_mem_drop (List.mem_of_mem_take hz))⟩
  have h1 := h.1
  rw [List.length_take, List.length_drop]
  omega
theorem SmI.sm {N : Nat} {ms : List Int} (h : SmI N ms) : ∀ d ∈ ms.map PyData.int, Sm 0 46 d := fun d hd => by
  obtain ⟨z, hz, rfl⟩ := List.mem_map.mp hd
  exact Sm.int (h.2 z hz)
theorem SmI.app {N M : Nat} {ms ns : List Int} (h : SmI N ms) (k : SmI M ns) : SmI (N + M) (ms ++ ns) := by
  refine ⟨?_, fun z hz => ?_⟩
  · rw [List.length_append]
    exact Nat.add_le_add h.1 k.1
  · rcases List.mem_append.mp hz with hz | hz
    · exact h.2 z hz
    · exact k.2 z hz
theorem SmI.rev {N : Nat} {ms : List Int} (h : SmI N ms) : SmI N ms.reverse := ⟨by rw [List.length_reverse]; exact h.1, fun z hz => h.2 z (List.mem_reverse.mp hz)⟩
theorem SmI.one {z : Int} (h : z.natAbs < 10 ^ 45) : SmI 1 [z] := ⟨Nat.le_refl _, fun y hy => by rw [List.mem_singleton.mp hy]; exact h⟩
/-- a list, a tuple of such ints -/
theorem SmI.lst {N : Nat} {ms : List Int} (h : SmI N ms) (hN : N ≤ 60) : Sm 5 4000000 (.list (ms.map PyData.int)) ∧ lenD (.list (ms.map PyData.int)) ≤ 100 := by
  have h1 := h.1
  refine ⟨(Sm.list (m := 60) h.sm (by rw [List.length_map]; omega)).up (by decide) (by decide), ?_⟩
  show (ms.map PyData.int).length ≤ 100
  rw [List.length_map]
  omega
theorem SmI.tup {N : Nat} {ms : List Int} (h : SmI N ms) (hN : N ≤ 60) : Sm 5 4000000 (.tuple (ms.map PyData.int)) ∧ lenD (.tuple (ms.map PyData.int)) ≤ 100 := by
  have h1 := h.1
  refine ⟨(Sm.tuple (m := 60) h.sm (by rw [List.length_map]; omega)).up (by decide) (by decide), ?_⟩
  show (ms.map PyData.int).length ≤ 100
  rw [List.length_map]
  omega
theorem sz60 {n : Nat} (h : n ≤ 100000) : n ≤ sizeLine := Nat.le_trans h (by rw [sizeLine_eq]; decide)
end G
namespace G
open PySem PySem.Spec PyProof.Rows L2
/-- the law's own promise -/
def sp_law (K : PySem.W.Frag) : Sp := fun vs H Q _ => ∃ (a : Addr) (ns : List Int), vs = [.ref a] ∧ SqL K H a (ns.map V.int) ∧ ns.length ≤ 63 ∧ ∀ H', Q (.bl true) H'
theorem canLay_bools : ∀ ns : List Bool, PyData.canLayAll0 (ns.map PyData.bool) = true
  | [] => rfl
  | n :: ns => by rw [List.map_cons, PyData.canLayAll0, canLay_bools ns]; rfl
theorem sm_bools {ns : List Bool} (h : ns.length ≤ 1000) : Sm 60 1000000 (.list (ns.map PyData.bool)) :=
  (Sm.list (n := 0) (B := 5) (m := 1000) (fun d hd => by obtain ⟨b, _, rfl⟩ := List.mem_map.mp hd; exact Sm.bool b) (by rw [List.length_map]; exact h)).up (by decide) (by decide)
theorem Sm.fits {n : Nat} {B : Nat} {d : PyData} (h : Sm n B d) (hB : B ≤ 16777216) : d.shown.length ≤ sizeLine := by
  rw [sizeLine_eq]
  exact Nat.le_trans h.ln hB
end G

/-! ## G7: {e for x in xs}, e a tuple of ints; the length of such a set -/
namespace G
open PySem PySem.Spec PyProof.Rows L2 PpSet
section
variable {P : Program} {w : World} {A : Around} {E : Value → Shared → Prop} {s : Shared}
/-- set.add of a tuple of ints -/
theorem setT_add {a x : Addr} {L : List (Addr × List Int)} {es : Array (Int × Value)} {ep : Nat} {t : SetTable} {k : List Int} {Q : Value → Shared → Prop} (R : SetTR P w s.heap a L es ep t) (hx : IsT P w s.heap k x) (hu : A.units + 8 < cLine) (few : L.length + 1 < 64)
    (hQ : ∀ h' tk L', Heap.SameBut a s.heap h' → SetT0 P w h' a L' → (k ∈ L.map (·.2) → L' = L) → (k ∉ L.map (·.2) → L'.Perm ((x, k) :: L)) → Q .none { s with heap := h', toks := tk }) :
    wpAny (model P w) A (call (.builtin "set.add") [.ref a, .ref x]) Q E s := by
  obtain ⟨o, ho, hex, hd⟩ := R.ob
  refine wpAny_call_entry F.slot_set_add (⟨o, ho, hex.1⟩ : s.TypeIs (.ref a) "set") F.entry_set_add ?_ (F.args_set_add_2 _ _)
  unfold Builtin.«set.add» Builtin.Frozenset.oneOther
  simp only [List.isEmpty_nil, bind_assoc]
  unfold Builtin.Frozenset.addrOf setAdd
  refine wpAny_bind (wpAny_pure ?_)
  try dsimp only
  refine wpAny_bind (wpAny_pure ?_)
  try dsimp only
  refine wpAny_bind (wpAny_holding ?_)
  refine wpAny_bind (wpAny_pyHash_tuple (by show A.units + 1 < cLine; omega) hx ?_)
  refine add_at (s := { s with toks := s.toks + (k.length + 1) }) R hx (by show A.units + 1 < cLine; omega) few fun b h' L' es' ep' t' sb r c1 c2 => ?_
  show wpAny _ _ (ret Value.none) _ _ _
  exact wpAny_pure ⟨_, rfl, hQ h' _ L' sb r.t0 c1 c2⟩
end
section
variable {X : Cx} {pins : List (Addr × Obj)} {σ : L2.St} {H : Hp} {s : Shared}
theorem setTO_at {D : Addr} {L : List (Addr × List Int)} (I : Inv X pins σ H s) (h : H D = some (SetTO X.prog X.w D L)) : SetT0 X.prog X.w s.heap D L := (I.hok D _ h).1
theorem addT_ok {E : Value → Shared → Prop} {D x : Addr} {L : List (Addr × List Int)} {k : List Int} {Q : Value → Shared → Prop} (I : Inv X pins σ H s) (hD : H D = some (SetTO X.prog X.w D L)) (hL : ∀ p ∈ L, SqT X.K H p.1 (p.2.map V.int)) (hx : SqT X.K H x (k.map V.int))
    (hu : X.A.units + 8 < cLine) (few : L.length + 1 < 64) (h : ∀ s' L', Inv X pins σ (upd H D (SetTO X.prog X.w D L')) s' → (k ∈ L.map (·.2) → L' = L) → (k ∉ L.map (·.2) → L'.Perm ((x, k) :: L)) → Q .none s') :
    wpAny (model X.prog X.w) X.A (call (.builtin "set.add") [.ref D, .ref x]) Q E s := by
  obtain ⟨es, ep, t, R⟩ := (setTO_at I hD).full fun p hp => I.isT (hL p hp)
  refine setT_add R (I.isT hx) hu few fun h' tk L' sb r c1 c2 => ?_
  obtain ⟨es', ep', t', ⟨o, ho, _⟩, _⟩ := r.ex
  exact h _ L' (I.write (e := D) (t' := tk) (by rw [hD]; trivial) (.inl rfl) (fun b u hb hu => (sb.2 b hb).trans hu) ⟨o, ho⟩ (setTO_new r)) c1 c2
/-- len of such a set -/
theorem call_lenT (K : PySem.W.Frag) (h : X.K = K := by rfl) : CallR X (.builtin "len") (fun xs H Q => ∃ (a : Addr) (L : List (Addr × List Int)), xs = [.ref a] ∧ H a = some (SetTO X.prog X.w a L) ∧ (∀ p ∈ L, SqT K H p.1 (p.2.map V.int)) ∧ Q (.int (L.length : Int)) H) := by
  subst h
  intro pins s σ H xs us Q I r h
  obtain ⟨a, L, rfl, hD, hL, q⟩ := h
  obtain ⟨u, rfl, ru⟩ := vals1 r
  cases (show u = Value.ref a from ru)
  obtain ⟨es, ep, t, R⟩ := (setTO_at I hD).full fun p hp => I.isT (hL p hp)
  obtain ⟨o, ho, hex, hd⟩ := R.ob
  have hs := R.size
  have hf := R.few
  refine call_len_set ho hex hd R.fits (by omega) ?_
  rw [hs]
  exact ⟨.int _, H, I.tok _, ⟨_, rfl⟩, q⟩
end
section
variable {X : Cx}
/-- {elt for target in iter if ..}, elt a tuple of ints; D the new set -/
def tScT (P : Program) (K : PySem.W.Frag) (w : World) (wi : TI) (g : TG) (tt : TT) (te : TE) (vs : List Nat) : TE := fun σ H Q => wi σ H fun J H1 => ∀ D, H1 D = none → ∃ W : Nat → Nat → Hp → Prop, (∃ m, W 0 m (upd H1 D (SetTO P w D []))) ∧ ∀ i m H, W i m H →
  (J.stop i H ∧ Q (.ref D) H) ∨ (J.go i H ∧ ∃ Nx : Hp → Prop, (∀ H', Nx H' → ∃ m', m' < m ∧ W (i + 1) m' H') ∧ ∀ x H', J.yld i H x H' → g x (wipe σ vs) H' fun σ2 H2 => wipe σ2 vs = wipe σ vs ∧ tt σ2 H2 fun b H3 =>
    if b = true then te σ2 H3 fun y H4 => ∃ (x : Addr) (k : List Int) (L : List (Addr × List Int)), y = .ref x ∧ SqT K H4 x (k.map V.int) ∧ H4 D = some (SetTO P w D L) ∧ (∀ p ∈ L, SqT K H4 p.1 (p.2.map V.int)) ∧ L.length + 1 < 64 ∧
      ∀ L', (k ∈ L.map (·.2) → L' = L) → (k ∉ L.map (·.2) → L'.Perm ((x, k) :: L)) → Nx (upd H4 D (SetTO P w D L')) else Nx H3)
theorem setT_new0 {P : Program} {w : World} {h : Heap} : SetT0 P w (h.push { cls := .type "set", dict := none, data := .set #[] 0 (.fresh 0 0 (!w.params.followText "set-order")) }) h.objs.size [] := (setTR_fresh (Heap.get?_push_size _ rfl)).t0
theorem scT_core {pins : List (Addr × Obj)} {s : Shared} {σ : L2.St} {H : Hp} {Q : VK} {elt tg iter : Expr} {ifs : List Expr} {scope : Scope} {own : List (PySem.Str × Nat)} {pos pos' : Pos} {wi : TI} {g : TG} {tt : TT} {te : TE} {use : Option (Value → Sem Unit)} {Qf : Value → Shared → Prop}
    (hu : X.A.units + 8 < cLine) (calm : X.calm = true) (nodup : X.N.Nodup) (I : Inv X pins σ H s) (hi : PI X tg iter wi) (ok : BlkOk X.N X.env.scope scope own)
    (hg : ∀ (z : Shared) (H : Hp) (C : Addr) (cl : List (PySem.Str × Addr)) (fp : List Addr), PG (X.blk z H scope (compEnvC scope cl C X.env) fp) tg g) (ht : ∀ (z : Shared) (H : Hp) (C : Addr) (cl : List (PySem.Str × Addr)) (fp : List Addr), PTs (X.blk z H scope (compEnvC scope cl C X.env) fp) ifs tt)
    (he : ∀ (z : Shared) (H : Hp) (C : Addr) (cl : List (PySem.Str × Addr)) (fp : List Addr), PE (X.blk z H scope (compEnvC scope cl C X.env) fp) elt te) (fold : ∀ x, foldedSetIterable iter X.env x = pure x)
    (h : tScT X.prog X.K X.w wi g tt te (own.map (·.2)) σ H Q)
    (after : ∀ D C s' m H', Inv X pins σ H' s' → Q (.ref D) H' → s'.heap.Ns C m → FpOk X pins H' C → compPost (model X.prog X.w) X.A X.xe use Qf (.ref D) C (.ok .next) s') :
    wpAny (model X.prog X.w) X.A (comprehension (.SetComp elt [⟨tg, iter, ifs, 0⟩] scope pos) scope X.env pos' (newSet (.type "set")) false (eval iter X.env) use) Qf X.xe s := by
  have captured : ∀ y ∈ scope.names, y.2 = .free → ∃ c, X.env.cells.lookup y.1 = some c := fun y hy e => by
    rcases ok.free y hy e with q | q
    · exact I.ok.has _ (.inl q)
    · exact I.ok.has _ (.inr q)
  refine wpAny_comprehension_free (use := use) rfl fold (closure_ok captured) ok.kind (fun y hy e => by rw [ok.uniq y hy, e])
    (thn (hi.run pins s σ H _ I h) fun xv r1 hx => thn hx fun itv r2 h2 => ?_)
  obtain ⟨it, fp, tn, J, H2, e, I2, T, st2, f2, q⟩ := h2
  subst e
  refine newSet_ok (newEnv_comp ?_)
  generalize eD : r2.heap.objs.size = D
  have fresh : H2 D = none := I2.hok.fresh (Nat.le_of_eq eD)
  obtain ⟨W, ⟨m0, w0⟩, turn⟩ := q D fresh
  generalize e3 : ({ r2 with heap := r2.heap.push { cls := .type "set", dict := none, data := .set #[] 0 (.fresh 0 0 (!X.w.params.followText "set-order")) } } : Shared) = r3
  have I3 : Inv X pins σ (upd H2 D (SetTO X.prog X.w D [])) r3 := by
    rw [← e3]
    refine I2.laid (t' := r2.toks) (fun b o e => Heap.get?_push_of_some _ e) (Nat.le_of_eq eD) ?_
    rw [← eD]
    exact setTO_new setT_new0
  have hp3 : r3.heap = r2.heap.push { cls := .type "set", dict := none, data := .set #[] 0 (.fresh 0 0 (!X.w.params.followText "set-order")) } := by rw [← e3]
  have below : ∀ b ∈ fp, b < r2.heap.objs.size := fun b hb => by
    obtain ⟨o, e, _⟩ := T.obj _ _ st2 b hb
    exact Heap.lt_size e
  have f3 : ∀ b ∈ fp, FpOk X pins (upd H2 D (SetTO X.prog X.w D [])) b ∧ b < r3.heap.objs.size := fun b hb => by
    have lt := below b hb
    refine ⟨⟨?_, (f2 b hb).2⟩, by rw [hp3, Heap.size_push]; exact Nat.lt_succ_of_lt lt⟩
    rw [upd_ne (by rw [← eD]; exact Nat.ne_of_lt lt)]
    exact (f2 b hb).1
  have st3 : tn 0 r3.heap := T.keep _ _ _ st2 fun b _ o e => by rw [hp3]; exact Heap.get?_push_of_some _ e
  have I4 := block_start I3 ok nodup f3
  have pgo := hg r3 (upd H2 D (SetTO X.prog X.w D [])) r3.heap.objs.size (cellsFrom (r3.heap.objs.size + 1) scope.names (cloFrom X.env.cells scope.names [])) fp
  have pte := ht r3 (upd H2 D (SetTO X.prog X.w D [])) r3.heap.objs.size (cellsFrom (r3.heap.objs.size + 1) scope.names (cloFrom X.env.cells scope.names [])) fp
  have pel := he r3 (upd H2 D (SetTO X.prog X.w D [])) r3.heap.objs.size (cellsFrom (r3.heap.objs.size + 1) scope.names (cloFrom X.env.cells scope.names [])) fp
  show codeAny _ _ (.compStart (.SetComp elt [⟨tg, iter, ifs, 0⟩] scope pos) 0 (.ref it) (.ref D) (compEnvC scope (cellsFrom (r3.heap.objs.size + 1) scope.names (cloFrom X.env.cells scope.names [])) r3.heap.objs.size X.env)) (compPost (model X.prog X.w) X.A X.xe use Qf (.ref D) r3.heap.objs.size) { r3 with heap := pushCells (r3.heap.push { cls := .type "dict", data := .dict #[] }) scope.names }
  have nfp : ∀ b ∈ fp, (upd H2 D (SetTO X.prog X.w D [])) b = none := fun b hb => (f3 b hb).1.1
  generalize ece : compEnvC scope (cellsFrom (r3.heap.objs.size + 1) scope.names (cloFrom X.env.cells scope.names [])) r3.heap.objs.size X.env = ce at I4 pgo pte pel ⊢
  have eL : ce.locals = r3.heap.objs.size := by subst ece; rfl
  generalize eH3 : upd H2 D (SetTO X.prog X.w D []) = H3 at I3 I4 pgo pte pel w0 nfp f3
  generalize e4 : ({ r3 with heap := pushCells (r3.heap.push { cls := .type "dict", data := .dict #[] }) scope.names } : Shared) = r4 at I4 ⊢
  have st4 : tn 0 r4.heap := T.keep _ _ _ st3 fun b _ o e => by rw [← e4]; exact pushCells_keeps _ _ _ _ (Heap.get?_push_of_some _ e)
  have stat : ∀ {σ' : L2.St} {H' : Hp} {s' : Shared}, Inv (X.blk r3 H3 scope ce fp) [] σ' H' s' → (∀ b ∈ fp, H' b = none) → ∀ b ∈ fp, FpOk (X.blk r3 H3 scope ce fp) [] H' b := by
    intro σ' H' s' I' hn b hb
    exact ⟨hn b hb, (I'.ok.exf b hb).1, I'.ok.exfs b hb, .inl hb, fun x c e => (I'.ok.exf b hb).2 x c e, fun p hp => absurd (show p ∈ ([] : List (Addr × Obj)) ++ [] from hp) (by simp)⟩
  have loop : codeAny (model X.prog X.w) X.A (.compLoop (.SetComp elt [⟨tg, iter, ifs, 0⟩] scope pos) 0 (.ref it) (.ref D) ce) (compPost (model X.prog X.w) X.A X.xe use Qf (.ref D) r3.heap.objs.size) r4 := by
    refine compLoopS_any (fun n s' => ∃ i H', Inv (X.blk r3 H3 scope ce fp) [] (wipe σ (own.map (·.2))) H' s' ∧ tn i s'.heap ∧ (∀ b ∈ fp, H' b = none) ∧ W i n H') ?_ m0 ⟨0, H3, I4, st4, nfp, w0⟩
    rintro n r5 ⟨i, H5, I5, st5, n5, w5⟩
    rcases turn i n H5 w5 with ⟨stop, qq⟩ | ⟨go, Nx, hNx, step⟩
    · have td := T.done (X.blk r3 H3 scope ce fp) rfl rfl rfl calm i [] r5 _ H5 (fun _ _ => False) I5 (stat I5 n5) st5 stop
      refine thnF td fun r r6 ⟨hr, I6⟩ => ?_
      subst hr
      have I7 : Inv X pins σ H5 r6 := I3.call' (ch := fp) I6.os I6.base I6.hok I6.bare fun b hb => ⟨(f3 b hb).1.2.2.2.1, (f3 b hb).1.2.1, (f3 b hb).1.2.2.2.2.1, (f3 b hb).1.2.2.2.2.2⟩
      have nC : H5 r3.heap.objs.size = none := by
        have z : H5 ce.locals = none := I6.free
        rwa [eL] at z
      obtain ⟨m, hn, _⟩ := I6.loc
      have hn' : r6.heap.Ns ce.locals m := hn
      rw [eL] at hn'
      exact after D r3.heap.objs.size r6 m H5 I7 qq hn' (I3.fpOk (Nat.le_refl _) nC)
    · have ti := T.item (X.blk r3 H3 scope ce fp) rfl rfl rfl calm i [] r5 _ H5 (fun _ _ => False) I5 (stat I5 n5) st5 go
      refine thnF ti fun r r6 ⟨u, hr, h6⟩ => ?_
      subst hr
      refine thnF h6 fun _ r7 ⟨x, H7, I7, rl7, y7, st7, n7⟩ => ?_
      have I7' := I7.pinned (stat I7 n7) (T.obj _ _ st7)
      refine thnF (pgo.run _ r7 _ H7 x u _ I7' rl7 (step x H7 y7)) fun _ r8 ⟨σ8, H8, I8, hw8, q8⟩ => ?_
      refine thnF (pte.run _ r8 σ8 H8 _ I8 q8) fun b r9 ⟨H9, I9, q9⟩ => ?_
      have fin : ∀ {s' : Shared} {H' : Hp}, Inv (X.blk r3 H3 scope ce fp) ([] ++ pinsAt fp r7.heap) σ8 H' s' → Nx H' → ∃ m, m < n ∧ ∃ i H', Inv (X.blk r3 H3 scope ce fp) [] (wipe σ (own.map (·.2))) H' s' ∧ tn i s'.heap ∧ (∀ b ∈ fp, H' b = none) ∧ W i m H' := by
        intro s' H' I' nx
        obtain ⟨m', hm, w'⟩ := hNx H' nx
        have pin' : ∀ b ∈ fp, ∀ o, r7.heap.get? b = some o → s'.heap.get? b = some o ∧ H' b = none := fun b hb o e =>
          have z := I'.pin (b, o) (List.mem_append_right _ (List.mem_append_right _ (mem_pinsAt hb e)))
          ⟨z.1, z.2.1⟩
        have len : (wipe σ (own.map (·.2))).length = σ8.length := by rw [← hw8, wipe_length]
        refine ⟨m', hm, i + 1, H', (I'.unpinned (pins := [])).weak len (fun j v e => ?_), T.keep _ _ _ st7 fun b hb o e => (pin' b hb o e).1, fun b hb => ?_, w'⟩
        · rw [← hw8] at e
          exact (wipe_some e).1
        · obtain ⟨o, e, _⟩ := T.obj _ _ st7 b hb
          exact (pin' b hb o e).2
      cases b with
      | false =>
        simp only [Bool.false_eq_true, if_false] at q9 ⊢
        exact fin I9 q9
      | true =>
        simp only [if_true] at q9 ⊢
        refine thnF (pel.run _ r9 σ8 H9 _ I9 q9) fun z r10 ⟨yv, H10, I10, rl10, xa, k, L, ey, hx10, hD10, hL10, few, nx⟩ => ?_
        subst ey
        cases (show z = Value.ref xa from rl10)
        exact addT_ok (X := X.blk r3 H3 scope ce fp) I10 hD10 hL10 hx10 hu few fun r11 L' I11 c1 c2 => fin I11 (nx L' c1 c2)
  exact codeAny_compStart_set loop (T.self X.A 0 _ _ _ st4 loop)
theorem pe_scT {elt tg iter : Expr} {ifs : List Expr} {scope : Scope} {own : List (PySem.Str × Nat)} {pos : Pos} {wi : TI} {g : TG} {tt : TT} {te : TE} (hu : X.A.units + 8 < cLine) (calm : X.calm = true) (nodup : X.N.Nodup) (hi : PI X tg iter wi) (ok : BlkOk X.N X.env.scope scope own)
    (hg : ∀ (z : Shared) (H : Hp) (C : Addr) (cl : List (PySem.Str × Addr)) (fp : List Addr), PG (X.blk z H scope (compEnvC scope cl C X.env) fp) tg g) (ht : ∀ (z : Shared) (H : Hp) (C : Addr) (cl : List (PySem.Str × Addr)) (fp : List Addr), PTs (X.blk z H scope (compEnvC scope cl C X.env) fp) ifs tt)
    (he : ∀ (z : Shared) (H : Hp) (C : Addr) (cl : List (PySem.Str × Addr)) (fp : List Addr), PE (X.blk z H scope (compEnvC scope cl C X.env) fp) elt te) (fold : ∀ x, foldedSetIterable iter X.env x = pure x := by intro _; rfl) :
    PE X (.SetComp elt [⟨tg, iter, ifs, 0⟩] scope pos) (tScT X.prog X.K X.w wi g tt te (own.map (·.2))) := by
  refine ⟨fun pins s σ H Q I h => ?_⟩
  rw [eval_SetComp]
  refine scT_core hu calm nodup I hi ok hg ht he fold h fun D C s' m H' I' q hn f => ⟨m, hn, fun h'' sb => ?_⟩
  obtain ⟨f0, f1, f2, f3, f4, f5⟩ := f
  exact ⟨.ref D, H', I'.turned (t' := s'.toks) (fun b o hb e => (sb.2 b hb).trans e) f0 f1 f3 f4 f5, rfl, q⟩
end
end G

/-! ## G8: bounds and bundles: what the predicates say of data -/
namespace G
open PySem PySem.Spec PyProof.Rows L2
def leD : PyData → PyData → Bool
  | .int a, .int b => decide (a ≤ b)
  | _, _ => false
def isBoundD : PyData → Bool
  | .tuple [x, y] => betw x 0 1000000000000000000000000000000 && (betw y 0 1000000000000000000000000000000 && leD x y)
  | _ => false
def areBoundsD : PyData → Bool
  | .list ds => decide (2 ≤ ds.length) && decide (ds.length ≤ 10) && ds.all isBoundD
  | _ => false
def isBundleD (n : Int) : PyData → Bool
  | .tuple [x, y, z] => betw z 1 1000000000000000000 && (betw x 0 (n - 1) && (betw y 0 (n - 1) && ltD x y))
  | _ => false
/-- the first two ints of a tuple -/
def pairOf : PyData → List Int
  | .tuple (.int a :: .int b :: _) => [a, b]
  | _ => []
def areBundlesD (n : Int) : PyData → Bool
  | .list ds => decide (ds.length ≤ 45) && ds.all (isBundleD n) && decide ((ds.map pairOf).Nodup)
  | _ => false
def sp_is_bound (K : PySem.W.Frag) : Sp := fun vs H Q _ => ∃ v d, vs = [v] ∧ Da K H v d ∧ Q (.bl (isBoundD d)) H
def sp_is_bundle (K : PySem.W.Frag) : Sp := fun vs H Q _ => ∃ v d n, vs = [v, .int n] ∧ Da K H v d ∧ Q (.bl (isBundleD n d)) H
def sp_are_bounds (K : PySem.W.Frag) : Sp := fun vs H Q _ => ∃ v d, vs = [v] ∧ Da K H v d ∧ ∀ H', Same H H' → Q (.bl (areBoundsD d)) H'
def sp_are_bundles (K : PySem.W.Frag) : Sp := fun vs H Q _ => ∃ v d n, vs = [v, .int n] ∧ Da K H v d ∧ ∀ H', Same H H' → Q (.bl (areBundlesD n d)) H'
theorem isBoundD_len {ds : List PyData} (h : ds.length ≠ 2) : isBoundD (.tuple ds) = false := by
  match ds, h with
  | [], _ => rfl
  | [_], _ => rfl
  | [_, _], h => exact absurd rfl h
  | _ :: _ :: _ :: _, _ => rfl
theorem isBundleD_len {n : Int} {ds : List PyData} (h : ds.length ≠ 3) : isBundleD n (.tuple ds) = false := by
  match ds, h with
  | [], _ => rfl
  | [_], _ => rfl
  | [_, _], _ => rfl
  | [_, _, _], h => exact absurd rfl h
  | _ :: _ :: _ :: _ :: _, _ => rfl
theorem len_ne {a : Nat} {b : Int} (h : ¬ (a : Int) = b) : (!decide (V.int (a : Int) = V.int b)) = true := by
  rw [decide_eq_false (fun q => h (V.int.inj q))]
  rfl
theorem bundle_shape {n : Int} {d : PyData} (h : isBundleD n d = true) : ∃ a b c : Int, d = .tuple [.int a, .int b, .int c] ∧ 0 ≤ a ∧ a < b ∧ b ≤ n - 1 ∧ 1 ≤ c ∧ c ≤ 1000000000000000000 := by
  match d, h with
  | .tuple [x, y, z], h =>
    simp only [isBundleD, Bool.and_eq_true] at h
    obtain ⟨h1, h2, h3, h4⟩ := h
    obtain ⟨c, rfl⟩ := betw_int h1
    obtain ⟨a, rfl⟩ := betw_int h2
    obtain ⟨b, rfl⟩ := betw_int h3
    simp only [betw, ltD, Bool.and_eq_true, decide_eq_true_eq] at h1 h2 h3 h4
    exact ⟨a, b, c, rfl, h2.1, h4, h3.2, h1.1, h1.2⟩
theorem bound_shape {d : PyData} (h : isBoundD d = true) : ∃ a b : Int, d = .tuple [.int a, .int b] ∧ 0 ≤ a ∧ a ≤ b ∧ b ≤ 1000000000000000000000000000000 := by
  match d, h with
  | .tuple [x, y], h =>
    simp only [isBoundD, Bool.and_eq_true] at h
    obtain ⟨h2, h3, h4⟩ := h
    obtain ⟨a, rfl⟩ := betw_int h2
    obtain ⟨b, rfl⟩ := betw_int h3
    simp only [betw, leD, Bool.and_eq_true, decide_eq_true_eq] at h2 h3 h4
    exact ⟨a, b, rfl, h2.1, h4, h3.2⟩
end G
namespace G
open PySem PySem.Spec PyProof.Rows L2
theorem su {A : Around} {k : Nat} (hr : Room k A) : A.units + 8 < cLine := Nat.lt_of_le_of_lt (Nat.add_le_add_left (by decide : 8 ≤ 64) _) hr.units
/-- a comprehension's set of pairs over a list -/
theorem sc_list {P : Program} {w : World} {K : PySem.W.Frag} {a : Addr} {xs : List V} {g : TG} {tt : TT} {te : TE} {vs : List Nat} {σ : L2.St} {H1 : Hp} {D : Addr} {Qd : Hp → Prop} (Pv : Nat → Hp → Prop) (h0 : Pv 0 (upd H1 D (SetTO P w D []))) (hl : ∀ i H, i ≤ xs.length → Pv i H → SqL K H a xs)
    (hs : ∀ i x H, xs[i]? = some x → Pv i H → g x (wipe σ vs) H fun σ2 H2 => wipe σ2 vs = wipe σ vs ∧ tt σ2 H2 fun b H3 =>
      if b = true then te σ2 H3 fun y H4 => ∃ (x : Addr) (k : List Int) (L : List (Addr × List Int)), y = .ref x ∧ SqT K H4 x (k.map V.int) ∧ H4 D = some (SetTO P w D L) ∧ (∀ p ∈ L, SqT K H4 p.1 (p.2.map V.int)) ∧ L.length + 1 < 64 ∧
        ∀ L', (k ∈ L.map (·.2) → L' = L) → (k ∉ L.map (·.2) → L'.Perm ((x, k) :: L)) → Pv (i + 1) (upd H4 D (SetTO P w D L')) else Pv (i + 1) H3) (hd : ∀ H, Pv xs.length H → Qd H) :
    ∃ W : Nat → Nat → Hp → Prop, (∃ m, W 0 m (upd H1 D (SetTO P w D []))) ∧ ∀ i m H, W i m H →
      ((Itl K a).stop i H ∧ Qd H) ∨ ((Itl K a).go i H ∧ ∃ Nx : Hp → Prop, (∀ H', Nx H' → ∃ m', m' < m ∧ W (i + 1) m' H') ∧ ∀ x H', (Itl K a).yld i H x H' → g x (wipe σ vs) H' fun σ2 H2 => wipe σ2 vs = wipe σ vs ∧ tt σ2 H2 fun b H3 =>
        if b = true then te σ2 H3 fun y H4 => ∃ (x : Addr) (k : List Int) (L : List (Addr × List Int)), y = .ref x ∧ SqT K H4 x (k.map V.int) ∧ H4 D = some (SetTO P w D L) ∧ (∀ p ∈ L, SqT K H4 p.1 (p.2.map V.int)) ∧ L.length + 1 < 64 ∧
          ∀ L', (k ∈ L.map (·.2) → L' = L) → (k ∉ L.map (·.2) → L'.Perm ((x, k) :: L)) → Nx (upd H4 D (SetTO P w D L')) else Nx H3) := by
  refine ⟨fun i m H => m = xs.length - i ∧ i ≤ xs.length ∧ Pv i H, ⟨xs.length, by simp, Nat.zero_le _, h0⟩, ?_⟩
  rintro i m H ⟨rfl, hi, p⟩
  have q := hl i H hi p
  have wk : Walk (Itl K a) xs.length (fun H => SqL K H a xs) (YAt xs) := walk_list
  by_cases hlt : i < xs.length
  · refine Or.inr ⟨wk.goes i H hlt q, Pv (i + 1), fun H' p' => ⟨xs.length - (i + 1), by omega, rfl, hlt, p'⟩, fun x H' y => ?_⟩
    obtain ⟨e, ex⟩ := wk.yields i H x H' hlt q y
    subst e
    exact hs i x H' ex p
  · have e : i = xs.length := by omega
    subst e
    exact Or.inl ⟨wk.stops H q, hd H p⟩
/-- how many of the first i have been met: what the set's size says -/
structure Met (ps : List (List Int)) (i : Nat) (L : List (Addr × List Int)) : Prop where
  le : L.length ≤ i
  iff : L.length = i ↔ (ps.take i).Nodup
  mem : ∀ k, k ∈ L.map (·.2) ↔ k ∈ ps.take i
theorem Met.zero (ps : List (List Int)) : Met ps 0 [] := ⟨Nat.le_refl _, by simp, by simp⟩
theorem Met.step {ps : List (List Int)} {i : Nat} {L L' : List (Addr × List Int)} {x : Addr} {k : List Int} (m : Met ps i L) (hk : ps[i]? = some k) (c1 : k ∈ L.map (·.2) → L' = L) (c2 : k ∉ L.map (·.2) → L'.Perm ((x, k) :: L)) : Met ps (i + 1) L' := by
  have et : ps.take (i + 1) = ps.take i ++ [k] := by rw [List.take_succ, hk]; rfl
  have nd : (ps.take (i + 1)).Nodup ↔ (ps.take i).Nodup ∧ k ∉ ps.take i := by
    rw [et, List.nodup_append]
    constructor
    · rintro ⟨h1, _, h3⟩
      exact ⟨h1, fun hm => h3 k hm k (by simp) rfl⟩
    · rintro ⟨h1, h2⟩
      refine ⟨h1, by simp, fun a ha b hb => ?_⟩
      rw [List.mem_singleton] at hb
      subst hb
      exact fun e => h2 (e ▸ ha)
  have hle := m.le
  rcases Classical.em (k ∈ L.map (·.2)) with h | h
  · rw [c1 h]
    refine ⟨by omega, ?_, fun j => ?_⟩
    · rw [nd]
      constructor
      · intro e
        omega
      · rintro ⟨_, h2⟩
        exact absurd ((m.mem k).mp h) h2
    · rw [m.mem j, et, List.mem_append, List.mem_singleton]
      constructor
      · exact Or.inl
      · rintro (h' | rfl)
        · exact h'
        · exact (m.mem _).mp h
  · have pm := c2 h
    have hl := pm.length_eq
    rw [List.length_cons] at hl
    refine ⟨by omega, ?_, fun j => ?_⟩
    · rw [nd, ← m.iff]
      constructor
      · intro e
        exact ⟨by omega, fun hm => h ((m.mem k).mpr hm)⟩
      · rintro ⟨e, _⟩
        omega
    · rw [(pm.map (·.2)).mem_iff, List.map_cons, List.mem_cons, m.mem j, et, List.mem_append, List.mem_singleton]
      constructor
      · rintro (rfl | h')
        · exact Or.inr rfl
        · exact Or.inl h'
      · rintro (h' | rfl)
        · exact Or.inr h'
        · exact Or.inl rfl
end G
namespace G
open PySem PySem.Spec PyProof.Rows L2
theorem sqt_mut {K : PySem.W.Frag} {H : Hp} {a M : Addr} {xs : List V} {o : HO} {φ : Heap → Prop} (h : SqT K H a xs) (hM : H M = some (.ext φ)) : SqT K (upd H M o) a xs := by
  rcases h with (h | ⟨u, h⟩) | h
  · exact .inl (.inl (by rw [upd_ne (ne_of h hM (by intro z; cases z))]; exact h))
  · exact .inl (.inr ⟨u, by rw [upd_ne (ne_of h hM (by intro z; cases z))]; exact h⟩)
  · exact .inr h
theorem same_mut {H H' : Hp} {M : Addr} {o : HO} (s : Same H H') (h : H M = none) : Same H (upd H' M o) := fun b u e => by
  rw [upd_ne (ne_of_none e h)]
  exact s _ _ e
end G

/-! ## G9: list.count of data; comprehensions whose items are data -/
namespace G
open PySem PySem.Spec PyProof.Rows L2
section
variable {X : Cx}
/-- l.count(x) -/
def rCountD (K : PySem.W.Frag) : V → List V → Hp → VK → Prop := fun x xs H Q => ∃ (a : Addr) (y : V) (d : PyData) (ds : List PyData), x = V.ref a ∧ xs = [y] ∧ Dp K H (V.ref a) (.list ds) ∧ Dp K H y d ∧ SeqAt.shaped (.list ds) = true ∧ SeqAt.shaped d = true ∧
  Q (.int ((ds.countP fun z => PyData.eqv z d : Nat) : Int)) H
theorem kcount (K : PySem.W.Frag) (hu : X.A.units + 65 < cLine) (hK : X.K = K := by rfl) : MtR X "list.count" (rCountD K) := by
  subst hK
  intro pins s σ H x xs v us Q I rx rxs h
  obtain ⟨a, y, d, ds, rfl, rfl, hl, hy, sl, sd, q⟩ := h
  cases rx
  obtain ⟨uy, rfl, ry⟩ := rxs.one
  obtain ⟨bs, r1⟩ := Dp.reads I d y uy hy ry
  have lay : PyData.canLayAll0 ds = true := SeqAt.canLay_of_shaped sl
  cases hl with
  | lst hs ha =>
    obtain ⟨its, rv, ⟨⟨cls, dd, data, sls⟩, n, ho, hc, hdn, hdt⟩, hlen⟩ := I.list hs
    simp only at hc hdt
    subst hc hdt
    obtain ⟨as, h4⟩ := Dp.readsAll I ds _ its ha rv
    have hmap : its.map (SeqAt.readOf s.heap) = ds := SeqAt.readsAll_map ds its as lay h4
    refine call_meets PySem.F.slot_list_count ⟨_, ho, rfl⟩ PySem.F.entry_list_count (PySem.F.args_list_count_2 _ _)
      (SeqAt.list_countAt a its.toArray n dd sls uy (fun u => PyData.eqv (SeqAt.readOf s.heap u) d)) ⟨ho, SeqAt.items_eqAt (vs := its.toArray) (show ReadsAll s.heap its.toArray.toList ds as from h4) r1 lay (SeqAt.canLay_of_shaped sd) (room_in_shaped sd hu), ?_⟩
    have ec : its.toArray.toList.countP (fun u => PyData.eqv (SeqAt.readOf s.heap u) d) = ds.countP fun z => PyData.eqv z d := by
      rw [← hmap, List.countP_map]
      rfl
    rw [ec]
    exact ⟨.int _, H, I.tok _, ⟨_, rfl⟩, q⟩
variable {o e : Expr} {es : List Expr} {to : TE} {t : TA} {name : Str} {apos cpos : Pos} {T id : String} {r : V → List V → Hp → VK → Prop}
/-- a method of a built-in type, the written part a letter -/
theorem kbm (K : PySem.W.Frag) (pa : PlainAttrs T) (slot : Slot T name id) (hty : typeOf (.builtin id) = pure (.type "method_descriptor")) (hm : MtR X id r) (ho : PE X o to) (ha : PA X (e :: es) t)
    (hK : X.K = K := by rfl) (hbase : attributeBase o name X.env (eval o X.env) = eval o X.env := by rfl)
    (hfew : ((backTo cpos (starEach (e :: es) X.env)).all (fun x => !x.1) && (backToKw cpos (keywordEach [] X.env)).all (fun x => x.1.isSome) && decide ((e :: es).length + ([] : List Keyword).length + (if ([] : List Keyword).isEmpty then 0 else 1) < 30)) = true := by rfl)
    (hline : (apos.endLine == cpos.line) = true := by rfl) (hs : starEach (e :: es) X.env = (false, eval e X.env) :: starEach es X.env := by rfl) (hplain : (backTo cpos (starEach es X.env)).any (·.1) = false := by rfl) :
    PE X (.Call (.Attribute o name apos) (e :: es) [] cpos) (tBM K T r to t) := by
  subst hK
  exact pe_bm pa slot hty hm ho ha hbase hfew hline hs hplain
theorem u65 {A : Around} {k : Nat} (hr : Room k A) : A.units + 65 < cLine := by have := hr.un; omega
end
theorem same_hid {H H' : Hp} {D : Addr} (s : Same H H') (h : H D = none) : Same H (hid D H') := fun a o e => by
  rw [hid_ne (ne_of_none e h)]
  exact s _ _ e
/-- a comprehension whose items are data -/
theorem lc_da {K : PySem.W.Frag} {J : It} {n : Nat} {Gd : Hp → Prop} {Y : Nat → Hp → V → Hp → Prop} (w : Walk J n Gd Y) {g : TG} {tt : TT} {te : TE} {vs : List Nat} {σ : L2.St} {H1 : Hp} {D : Addr} {Qd : Hp → Prop} (f : Nat → Option PyData) (hD : H1 D = none) (hz : n ≤ 100000)
    (hG : ∀ H, Same H1 H → Gd H)
    (hs : ∀ i x H H' l, i < n → Same H1 H → H D = some (.lst l) → Y i H x H' → ∀ (R1 : VK) (R0 : Hp → Prop), (∀ y d H4, f i = some d → Same H H4 → Da K (hid D H4) y d → R1 y H4) → (f i = none → ∀ H4, Same H H4 → R0 H4) →
      g x (wipe σ vs) H' fun σ2 H2 => wipe σ2 vs = wipe σ vs ∧ tt σ2 H2 fun b H3 => if b = true then te σ2 H3 R1 else R0 H3)
    (hd : ∀ H us, Same H1 H → H D = some (.lst us) → DaL K (hid D H) us ((List.range n).filterMap f) → Qd H) :
    ∃ W : Nat → Nat → Hp → Prop, (∃ m, W 0 m (upd H1 D (.lst []))) ∧ ∀ i m H, W i m H →
      (J.stop i H ∧ Qd H) ∨ (J.go i H ∧ ∃ Nx : Hp → Prop, (∀ H', Nx H' → ∃ m', m' < m ∧ W (i + 1) m' H') ∧ ∀ x H', J.yld i H x H' → g x (wipe σ vs) H' fun σ2 H2 => wipe σ2 vs = wipe σ vs ∧ tt σ2 H2 fun b H3 =>
        if b = true then te σ2 H3 fun y H4 => ∃ acc, H4 D = some (.lst acc) ∧ acc.length < sizeLine ∧ Nx (upd H4 D (.lst (acc ++ [y]))) else Nx H3) := by
  refine lc_it w (fun i H => Same H1 H ∧ ∃ us, H D = some (.lst us) ∧ DaL K (hid D H) us ((List.range i).filterMap f)) ⟨same_new hD, [], upd_same, .nil⟩ (fun i H _ p => hG H p.1) ?_ (fun H p => ?_)
  · rintro i x H H' hi ⟨s1, us, hus, hda⟩ y
    have hl : us.length ≤ i := by
      rw [hda.len]
      have q : ((List.range i).filterMap f).length ≤ (List.range i).length := List.length_filterMap_le f _
      rw [List.length_range] at q
      exact q
    refine hs i x H H' us hi s1 hus y _ _ (fun y d H4 hf e4 hy => ⟨us, e4 _ _ hus, ?_, ?_, us ++ [y], upd_same, ?_⟩) (fun hf H4 e4 => ⟨s1.trans e4, us, e4 _ _ hus, ?_⟩)
    · rw [sizeLine_eq]
      omega
    · exact same_mut (s1.trans e4) hD
    · rw [hid_upd, List.range_succ, List.filterMap_append]
      have ef : List.filterMap f [i] = [d] := by simp [hf]
      rw [ef]
      exact (hda.mono (hid_same e4)).app (.cons hy .nil)
    · rw [List.range_succ, List.filterMap_append]
      have ef : List.filterMap f [i] = [] := by simp [hf]
      rw [ef, List.append_nil]
      exact hda.mono (hid_same e4)
  · obtain ⟨s1, us, hus, hda⟩ := p
    exact hd H us s1 hus hda
theorem fmD_take (ys : List PyData) : ∀ n, n ≤ ys.length → (List.range n).filterMap (fun i => ys[i]?) = ys.take n
  | 0, _ => by simp
  | n + 1, h => by
    rw [List.range_succ, List.filterMap_append, fmD_take ys n (by omega), List.take_succ]
    have e : ys[n]? = some ys[n] := List.getElem?_eq_getElem (by omega)
    simp [e]
theorem fmD_get (ys : List PyData) : (List.range ys.length).filterMap (fun i => ys[i]?) = ys := by
  rw [fmD_take ys _ (Nat.le_refl _), List.take_length]
/-- xs filtered by place -/
theorem fmD_filter (ys : List PyData) (c : PyData → Bool) : ∀ n, n ≤ ys.length → (List.range n).filterMap (fun i => (ys[i]?).bind fun y => if c y = true then some y else none) = (ys.take n).filter c
  | 0, _ => by simp
  | n + 1, h => by
    rw [List.range_succ, List.filterMap_append, fmD_filter ys c n (by omega), List.take_succ, List.filter_append]
    have e : ys[n]? = some ys[n] := List.getElem?_eq_getElem (by omega)
    congr 1
    cases hc : c ys[n] <;> simp [e, hc]
/-! ### pairs that are met twice -/
def prI (p : List Int) : PyData := .tuple (p.map PyData.int)
theorem eqvAll_ints : ∀ p q : List Int, PyData.eqvAll (p.map PyData.int) (q.map PyData.int) = decide (p = q)
  | [], [] => by simp [PyData.eqvAll]
  | [], _ :: _ => by simp [PyData.eqvAll]
  | _ :: _, [] => by simp [PyData.eqvAll]
  | a :: p, b :: q => by
    rw [List.map_cons, List.map_cons, PyData.eqvAll, eqvAll_ints p q, PyData.eqv]
    by_cases h : a = b
    · subst h; simp
    · simp [h]
theorem eqv_prI (p q : List Int) : PyData.eqv (prI p) (prI q) = decide (p = q) := by
  show PyData.eqv (.tuple _) (.tuple _) = _
  rw [PyData.eqv, eqvAll_ints]
theorem count_prI (ps : List (List Int)) (q : List Int) : (ps.map prI).countP (fun z => PyData.eqv z (prI q)) = ps.count q := by
  rw [List.countP_map, List.count]
  congr 1
  funext p
  show PyData.eqv (prI p) (prI q) = (p == q)
  rw [eqv_prI]
  rw [Bool.eq_iff_iff]
  simp
theorem nodup_count : ∀ ps : List (List Int), ps.Nodup ↔ ∀ p ∈ ps, ps.count p ≤ 1
  | [] => by simp
  | a :: ps => by
    rw [List.nodup_cons, nodup_count ps]
    constructor
    · rintro ⟨h1, h2⟩ p hp
      rw [List.count_cons]
      rcases List.mem_cons.mp hp with rfl | hp
      · rw [List.count_eq_zero_of_not_mem h1]
        simp
      · have := h2 p hp
        have ne : ¬ (a == p) = true := fun e => h1 (by rw [eq_of_beq e]; exact hp)
        rw [if_neg ne]
        omega
    · intro h
      refine ⟨fun hm => ?_, fun p hp => ?_⟩
      · have q := h a List.mem_cons_self
        rw [List.count_cons_self] at q
        have := List.count_pos_iff.mpr hm
        omega
      · have q := h p (List.mem_cons_of_mem _ hp)
        have : ps.count p ≤ (a :: ps).count p := List.count_le_count_cons
        omega
theorem twice_nil (ps : List (List Int)) : (ps.filter fun p => decide (((ps.count p : Nat) : Int) > 1)).isEmpty = decide ps.Nodup := by
  rw [Bool.eq_iff_iff, List.isEmpty_iff, List.filter_eq_nil_iff, decide_eq_true_eq, nodup_count]
  constructor
  · intro h p hp
    have := h p hp
    simp only [decide_eq_true_eq] at this
    omega
  · intro h p hp
    have := h p hp
    simp only [decide_eq_true_eq]
    omega
end G
namespace G
open PySem PySem.Spec PyProof.Rows L2
theorem lay_pr (p : List Int) : (prI p).canLay0 = true := by
  show PyData.canLay0 (.tuple _) = true
  rw [PyData.canLay0]
  exact canLay_ints p
theorem lay_prs : ∀ ps : List (List Int), PyData.canLayAll0 (ps.map prI) = true
  | [] => rfl
  | p :: ps => by rw [List.map_cons, PyData.canLayAll0, lay_pr, lay_prs ps]; rfl
theorem depth_pr (p : List Int) : (prI p).depth = 1 := by
  show PyData.depth (.tuple _) = 1
  rw [PyData.depth, depth_ints]
theorem depth_prs : ∀ ps : List (List Int), PyData.depthAll (ps.map prI) ≤ 1
  | [] => by simp [PyData.depthAll]
  | p :: ps => by
    have h1 := depth_prs ps
    have h2 := depth_pr p
    simp only [List.map_cons, PyData.depthAll]
    omega
theorem shaped_pr (p : List Int) : SeqAt.shaped (prI p) = true := by
  unfold SeqAt.shaped
  rw [lay_pr, depth_pr]
  rfl
theorem shaped_prs (ps : List (List Int)) : SeqAt.shaped (.list (ps.map prI)) = true := by
  have h := depth_prs ps
  unfold SeqAt.shaped
  rw [PyData.canLay0, lay_prs, PyData.depth, Bool.true_and]
  exact decide_eq_true (by omega)
theorem eqv_nilP (ps : List (List Int)) : PyData.eqv (.list (ps.map prI)) (.list []) = ps.isEmpty := by
  cases ps <;> simp [PyData.eqv, PyData.eqvAll]
end G

/-! ## G10: t[::-1] of a tuple; rows of ints -/
namespace G
open PySem PySem.Spec PyProof.Rows L2
section
variable {prog : Program} {w : World} {A : Around} {E : Value → Shared → Prop} {s : Shared}
theorem adjust_rev (n : Nat) : Builtin.Slice.sliceAdjust none none (-1) (n : Int) = ((n : Int) - 1, -1) := by
  first
    | rfl
    | simp [Builtin.Slice.sliceAdjust]
theorem places_rev (n : Nat) : Builtin.Slice.slicePlaces ((n : Int) - 1) (-1) (-1) = n := by
  unfold Builtin.Slice.slicePlaces
  by_cases h : n = 0
  · subst h; decide
  · have e : ((n : Int) - 1 - -1 - 1) / (- -1) + 1 = (n : Int) := by
      rw [show (- -1 : Int) = 1 by decide, Int.ediv_one]
      omega
    simp
    omega
theorem fm_congr {α β : Type} {f g : α → Option β} : ∀ {l : List α}, (∀ m ∈ l, f m = g m) → l.filterMap f = l.filterMap g
  | [], _ => rfl
  | a :: l, h => by
    rw [List.filterMap_cons, List.filterMap_cons, h a List.mem_cons_self, fm_congr fun m hm => h m (List.mem_cons_of_mem _ hm)]
theorem pick_rev (xs : Array Value) : ((List.range xs.size).filterMap fun (m : Nat) => xs[((xs.size : Int) - 1 + (m : Int) * -1).toNat]?).toArray = xs.toList.reverse.toArray := by
  have e : (List.range xs.size).filterMap (fun (m : Nat) => xs[((xs.size : Int) - 1 + (m : Int) * -1).toNat]?) = ((List.range xs.size).map fun k => xs.size - 1 - k).filterMap (xs[·]?) := by
    rw [List.filterMap_map]
    refine fm_congr fun m hm => ?_
    have := List.mem_range.mp hm
    show _ = xs[xs.size - 1 - m]?
    rw [show ((xs.size : Int) - 1 + (m : Int) * -1).toNat = xs.size - 1 - m by omega]
  rw [e, PySem.W.krv_range, List.filterMap_reverse, PySem.W.krv_all]
theorem applied_rev {sl : Addr} {vl vu vs : Value} {n : Nat} {Q : Int × Int × Nat → Shared → Prop} (hs : s.heap.IsSliceOf sl vl vu vs) (pl : IsPart vl none) (pu : IsPart vu none) (ps : IsPart vs (some (-1)))
    (h : Q ((n : Int) - 1, -1, n) s) : wpAny (model prog w) A (Builtin.Slice.sliceApplied (.ref sl) (pure (n : Int))) Q E s := by
  obtain ⟨os, hos, hcs, hds⟩ := id hs
  unfold Builtin.Slice.sliceApplied Builtin.Slice.sliceFields
  refine wpAny_bind (wpAny_bind (wpAny_field hos hds (x := vl) rfl (wpAny_bind (wpAny_field hos hds (x := vu) rfl (wpAny_bind (wpAny_field hos hds (x := vs) rfl (wpAny_pure ?_)))))))
  refine wpAny_bind (HT.slicePart_ ps ?_)
  show wpAny _ _ (if ((-1 : Int) == 0) = true then _ else _) _ _ s
  rw [if_neg (by decide)]
  refine wpAny_bind (HT.slicePart_ pl (wpAny_bind (HT.slicePart_ pu (wpAny_bind (wpAny_pure ?_)))))
  show wpAny _ _ (match Builtin.Slice.sliceAdjust none none (-1) (n : Int) with | (lo, hi) => pure (lo, (-1 : Int), Builtin.Slice.slicePlaces lo hi (-1))) _ _ s
  rw [adjust_rev]
  show wpAny _ _ (pure ((n : Int) - 1, (-1 : Int), Builtin.Slice.slicePlaces ((n : Int) - 1) (-1) (-1))) _ _ s
  rw [places_rev]
  exact wpAny_pure h
theorem getItem_tuple_rev {t sl : Addr} {items : Array Value} {vl vu vs : Value} {Q : Value → Shared → Prop} (ht : IsTup s.heap t items) (hs : s.heap.IsSliceOf sl vl vu vs) (pl : IsPart vl none) (pu : IsPart vu none) (ps : IsPart vs (some (-1)))
    (h : Q (.ref s.heap.objs.size) { s with heap := s.heap.push { cls := .type "tuple", data := .seq items.toList.reverse.toArray } }) (hsz : items.size ≤ sizeLine) : wpAny (model prog w) A (getItem (.ref t) (.ref sl)) Q E s := by
  have fits : sizeOk (.seq items.toList.reverse.toArray) := by
    show items.toList.reverse.toArray.size ≤ sizeLine
    rw [List.size_toArray, List.length_reverse, Array.length_toList]
    exact hsz
  obtain ⟨os, hos, hcs, hds⟩ := id hs
  have hTs : s.TypeIs (.ref sl) "slice" := ⟨os, hos, hcs⟩
  unfold getItem
  try with_reducible refine wpAny_holding ?_
  first | refine wpAny_bind (wpAny_pure ?_) | skip
  refine wpAny_bind (wpAny_sequenceKey ht.typeIs (by decide) ?_)
  refine wpAny_bind (wpAny_callSpecial?_slot (name := Str.ofString "__getitem__") ht.typeIs PyProof.Rows.slot_tuple_getitem
    (wpAny_call_entry PyProof.Rows.slot_tuple_getitem ht.typeIs entry_tuple_getitem ?_ (args_tuple_getitem _ _)))
  show wpAny _ _ (Builtin.Tuple.tupleItemsOf (.ref t) >>= _) _ _ s
  refine wpAny_bind (tupleItemsOf_ ht ?_)
  refine wpAny_bind (wpAny_typeOf hTs ?_)
  rw [if_pos (by decide)]
  refine wpAny_bind (applied_rev hs pl pu ps ?_)
  show wpAny _ _ (if (((items.size : Int) - 1) == 0 && (-1 : Int) == 1 && items.size == items.size) = true then _ else _) _ _ s
  rw [if_neg (by simp), pick_rev]
  first
    | exact wpAny_bind (m := Builtin.Tuple.tupleExact _) (wpAny_newObj_type (wpAny_pure ⟨_, rfl, wpAny_pure h⟩) fits)
    | exact wpAny_bind (m := Builtin.Tuple.tupleExact _) (wpAny_newObj_type (wpAny_bind (wpAny_pure (wpAny_pure ⟨_, rfl, wpAny_pure h⟩))) fits)
    | exact wpAny_bind (wpAny_bind (m := Builtin.Tuple.tupleExact _) (wpAny_newObj_type (wpAny_pure (wpAny_pure ⟨_, rfl, wpAny_pure h⟩)) fits))
    | exact wpAny_bind (wpAny_bind (m := Builtin.Tuple.tupleExact _) (wpAny_newObj_type (wpAny_pure ⟨_, rfl, wpAny_pure h⟩) fits))
end
section
variable {X : Cx}
/-- t[::-1] -/
def tRevT (K : PySem.W.Frag) (te : TE) : TE := fun σ H Q => te σ H fun x H1 => ∃ a xs, x = .ref a ∧ SqT K H1 a xs ∧ ∀ p, H1 p = none → Q (.ref p) (upd H1 p (.tup xs.reverse))
theorem pe_revT {e : Expr} {te : TE} {k : Nat} {p1 p2 p3 pos : Pos} (he : PE X e te) : PE X (.Subscript e (.Slice none none (some (.UnaryOp .USub (.Constant (.int 1) k p1) p2)) p3) pos) (tRevT X.K te) := by
  refine ⟨fun pins s σ H Q I h => ?_⟩
  refine Subscript_ (thn (he.run pins s σ H _ I h) fun v s1 hv => ?_)
  obtain ⟨x, H1, I1, r1, a, xs, ex, hx, q⟩ := hv
  subst ex
  cases r1
  have step : PO X (some (.UnaryOp .USub (.Constant (.int 1) k p1) p2)) (tPart (tUn (rU fun i => .int (-i)) (tC (.int 1)))) := po_some (pe_un un_neg pe_int)
  refine wpAny_Slice (thn (po_none.run pins s1 σ H1 (fun o H2 => o = none ∧ H2 = H1) I1 ⟨rfl, rfl⟩) fun vl s2 hl => ?_)
  obtain ⟨l, H2, I2, pl, el, e2⟩ := hl
  subst el e2
  refine thn (po_none.run pins s2 σ H2 (fun o H3 => o = none ∧ H3 = H2) I2 ⟨rfl, rfl⟩) fun vu s3 hu => ?_
  obtain ⟨u, H3, I3, pu, eu, e3⟩ := hu
  subst eu e3
  refine thn (step.run pins s3 σ H3 (fun o H4 => o = some (-1) ∧ H4 = H3) I3 ⟨1, rfl, -1, rfl, rfl, rfl⟩) fun vs s4 hs => ?_
  obtain ⟨o, H4, I4, ps, eo, e4⟩ := hs
  subst eo e4
  have I5 : Inv X pins σ H4 { s4 with heap := s4.heap.push { cls := .type "slice", data := .fields #[vl, vu, vs] } } := I4.kept (t' := s4.toks) fun b ob q => Heap.get?_push_of_some _ q
  obtain ⟨its, r, ht, hz⟩ := I5.tuple hx
  have hlen := r.length
  show wpAny (model X.prog X.w) X.A (subscriptTail e (.Slice none none (some (.UnaryOp .USub (.Constant (.int 1) k p1) p2)) p3) (.ref a) (.ref s4.heap.objs.size)) (EP X pins σ Q) X.xe { s4 with heap := s4.heap.push { cls := .type "slice", data := .fields #[vl, vu, vs] } }
  refine tail_any (ops := [.ref a, .ref s4.heap.objs.size]) ht.typeIs (PyProof.Rows.slot_tuple_getitem.lookup) ?_ (by with_unfolding_all rfl)
  refine getItem_tuple_rev ht (Heap.IsSliceOf.new _ vl vu vs) pl pu ps ?_ (by rw [List.size_toArray]; omega)
  refine ⟨.ref _, _, I5.laid (t' := s4.toks) (o := .tup xs.reverse) (fun b ob q => Heap.get?_push_of_some _ q) (Nat.le_refl _) ?_, rfl, q _ (I5.hok.fresh (Nat.le_refl _))⟩
  exact ⟨by rw [List.length_reverse]; exact hz, its.reverse, r.reverse, (IsTup.new _ _ : IsTup _ _ its.toArray.toList.reverse.toArray)⟩
theorem krevT (K : PySem.W.Frag) {e : Expr} {te : TE} {k : Nat} {p1 p2 p3 pos : Pos} (he : PE X e te) (hK : X.K = K := by rfl) : PE X (.Subscript e (.Slice none none (some (.UnaryOp .USub (.Constant (.int 1) k p1) p2)) p3) pos) (tRevT K te) := by
  subst hK
  exact pe_revT he
theorem kcatT (K : PySem.W.Frag) (hK : X.K = K := by rfl) : OpR X (binaryOp .Add) (rCatA K) := by subst hK; exact op_catA
end
end G
namespace G
open PySem PySem.Spec PyProof.Rows L2
/-- at most 100 rows of one to three ints -/
def RowsOk (ps : List (List Int)) : Prop := ps.length ≤ 100 ∧ ∀ p ∈ ps, 1 ≤ p.length ∧ p.length ≤ 3 ∧ ∀ z ∈ p, z.natAbs < 10 ^ 45
theorem Go.sm2 {b L : Addr} {H H' : Hp} (g : Go b H H') : Same (hid L (hid b H)) (hid L (hid b H')) := hid_same g.sm
theorem hid2_upd {b L : Addr} {H : Hp} {o : HO} (n : L ≠ b) : hid L (hid b (upd H L o)) = hid L (hid b H) := by
  funext a
  by_cases h : a = L
  · subst h; rw [hid_at, hid_at]
  · rw [hid_ne h, hid_ne h]
    by_cases hb : a = b
    · subst hb; rw [hid_at, hid_at]
    · rw [hid_ne hb, hid_ne hb, upd_ne h]
theorem hid2_le {b L : Addr} {H : Hp} : Same (hid L (hid b H)) (hid b H) := hid_le
theorem da_newT2 {K : PySem.W.Frag} {b L p : Addr} {H : Hp} {o : HO} {vs : List V} {ds : List PyData} (hb : BagOk b H) (hL : H L = some o) (h : DaL K (hid L (hid b H)) vs ds) (hp : H p = none) : Da K (hid L (hid b (upd H p (.tup vs)))) (.ref p) (.tuple ds) := by
  refine .tup (.inl (.inl ?_)) (h.mono (hid_same (hid_same (same_new hp))))
  rw [hid_ne (ne_of_none hL hp).symm, hid_ne (hb.ne hp)]
  exact upd_same
/-- a new list of rows -/
def sp_rows (K : PySem.W.Frag) (b : Addr) (H : Hp) (Q : VK) : Prop := ∀ (a : Addr) (us : List V) (ps : List (List Int)) (H' : Hp), Go b H H' → a ≠ b → H' a = some (.lst us) → DaL K (hid b H') us (ps.map prI) → RowsOk ps → Q (.ref a) H'
def sp_some_bounds (K : PySem.W.Frag) : Sp := fun vs H Q _ => ∃ b, vs = [.ref b] ∧ BagOk b H ∧ sp_rows K b H Q
def sp_some_bundles (K : PySem.W.Frag) : Sp := fun vs H Q _ => ∃ b n, vs = [.ref b, .int n] ∧ BagOk b H ∧ 2 ≤ n ∧ n ≤ 10 ∧ sp_rows K b H Q
theorem c45 : 10 ^ 45 = 1000000000000000000000000000000000000000000000 := by decide
theorem RowsOk.snoc {ps : List (List Int)} {p : List Int} {n : Nat} (h : RowsOk ps) (hl : ps.length ≤ n) (hn : n < 100) (h1 : 1 ≤ p.length) (h2 : p.length ≤ 3) (h3 : ∀ z ∈ p, z.natAbs < 10 ^ 45) : RowsOk (ps ++ [p]) := by
  refine ⟨by rw [List.length_append, List.length_singleton]; omega, fun q hq => ?_⟩
  rcases List.mem_append.mp hq with hq | hq
  · exact h.2 q hq
  · rw [List.mem_singleton.mp hq]
    exact ⟨h1, h2, h3⟩
theorem RowsOk.nil : RowsOk [] := ⟨by decide, fun p hp => nomatch hp⟩
theorem RowsOk.rev {ps : List (List Int)} (h : RowsOk ps) : RowsOk ps.reverse := ⟨by rw [List.length_reverse]; exact h.1, fun p hp => h.2 p (List.mem_reverse.mp hp)⟩
end G

/-! ## G11: operations on data, where a bag stands at b -/
namespace G
open PySem PySem.Spec PyProof.Rows L2
section
variable {X : Cx}
/-- xs + ys -/
def rCatL (K : PySem.W.Frag) : R2 := fun x y H Q => ∃ l c xs zs, x = .ref l ∧ y = .ref c ∧ SqL K H l xs ∧ SqL K H c zs ∧ xs.length + zs.length ≤ sizeLine ∧ ∀ p, H p = none → Q (.ref p) (upd H p (.lst (xs ++ zs)))
theorem kcatL (K : PySem.W.Frag) (hK : X.K = K := by rfl) : OpR X (binaryOp .Add) (rCatL K) := by
  subst hK
  intro pins s σ H x y v u Q I rx ry h
  obtain ⟨l, c, xs, zs, rfl, rfl, hl, hc, hz, q⟩ := h
  cases rx
  cases ry
  obtain ⟨its, r1, ⟨⟨cls, dd, data, sl⟩, n, ho, k1, k2, k3⟩, _⟩ := I.list hl
  obtain ⟨its2, r2, ⟨⟨cls2, dd2, data2, sl2⟩, n2, ho2, k12, k22, k32⟩, _⟩ := I.list hc
  simp only at k1 k3 k12 k32
  subst k1 k3 k12 k32
  have e1 := r1.length
  have e2 := r2.length
  refine concat_meets ⟨_, ho, rfl⟩ ⟨_, ho2, rfl⟩ noFill_list_add seq_list_add PySem.F.slot_list_add PySem.F.entry_list_add (PySem.F.args_list_add_2 _ _) (list_addW l c its.toArray its2.toArray n n2 dd dd2 sl sl2 (by rw [List.size_toArray, List.size_toArray]; omega)) ⟨ho, ho2, ?_⟩
  have ea : its.toArray ++ its2.toArray = (its ++ its2).toArray := by simp
  rw [ea]
  exact ⟨.ref _, _, I.lnew (t' := s.toks) (r1.append r2) (by rw [List.length_append]; omega), rfl, q _ I.fresh⟩
end
section
variable {K : PySem.W.Frag} {b : Addr} {H : Hp} {x y : V} {dx dy : List PyData} {Q : VK}
theorem da_list {G : Hp} (h : Da K G x (.list dx)) : ∃ a us, x = .ref a ∧ SqL K G a us ∧ DaL K G us dx := by
  cases h with
  | lst a b => exact ⟨_, _, rfl, a, b⟩
theorem da_tup {G : Hp} (h : Da K G x (.tuple dx)) : ∃ a us, x = .ref a ∧ SqT K G a us ∧ DaL K G us dx := by
  cases h with
  | tup a b => exact ⟨_, _, rfl, a, b⟩
/-- a new list from such values -/
theorem newL_da (hb : BagOk b H) {us : List V} (h : DaL K (hid b H) us dx) (k : ∀ v H', Go b H H' → Da K (hid b H') v (.list dx) → Q v H') : ∀ p, H p = none → Q (.ref p) (upd H p (.lst us)) := fun p hp => k _ _ (Go.of hb (same_new hp)) (da_newL hb h hp)
theorem newT_da (hb : BagOk b H) {us : List V} (h : DaL K (hid b H) us dx) (k : ∀ v H', Go b H H' → Da K (hid b H') v (.tuple dx) → Q v H') : ∀ p, H p = none → Q (.ref p) (upd H p (.tup us)) := fun p hp => k _ _ (Go.of hb (same_new hp)) (da_newT hb h hp)
theorem catL_da (hb : BagOk b H) (h1 : Da K (hid b H) x (.list dx)) (h2 : Da K (hid b H) y (.list dy)) (hz : dx.length + dy.length ≤ 100000) (k : ∀ v H', Go b H H' → Da K (hid b H') v (.list (dx ++ dy)) → Q v H') : rCatL K x y H Q := by
  obtain ⟨a, us, rfl, s1, d1⟩ := da_list h1
  obtain ⟨c, ws, rfl, s2, d2⟩ := da_list h2
  exact ⟨a, c, us, ws, rfl, rfl, sql_up hid_le s1, sql_up hid_le s2, sz60 (by rw [d1.len, d2.len]; exact hz), newL_da hb (d1.app d2) k⟩
theorem catT_da (hb : BagOk b H) (h1 : Da K (hid b H) x (.tuple dx)) (h2 : Da K (hid b H) y (.tuple dy)) (hz : dx.length + dy.length ≤ 100000) (k : ∀ v H', Go b H H' → Da K (hid b H') v (.tuple (dx ++ dy)) → Q v H') : rCatA K x y H Q := by
  obtain ⟨a, us, rfl, s1, d1⟩ := da_tup h1
  obtain ⟨c, ws, rfl, s2, d2⟩ := da_tup h2
  refine ⟨a, c, us, ws, rfl, rfl, sqt_up hid_le s1, sqt_up hid_le s2, sz60 (by rw [d1.len, d2.len]; exact hz), fun e => ?_, fun _ e => ?_, fun _ _ => newT_da hb (d1.app d2) k⟩
  · subst e
    cases d1
    exact k _ H (Go.refl hb) h2
  · subst e
    cases d2
    rw [List.append_nil] at k
    exact k _ H (Go.refl hb) h1
theorem cut_da {G : Hp} {us : List V} (h : DaL K G us dx) (lo hi : Option Int) : ∃ n m, DaL K G (cutV us lo hi) ((dx.drop n).take m) := ⟨_, _, (h.drop _).take _⟩
theorem slL_da {lo hi : Option Int} (hb : BagOk b H) (h1 : Da K (hid b H) x (.list dx)) (k : ∀ v H' n m, Go b H H' → Da K (hid b H') v (.list ((dx.drop n).take m)) → Q v H') : rSlL K x lo hi H Q := by
  obtain ⟨a, us, rfl, s1, d1⟩ := da_list h1
  obtain ⟨n, m, dc⟩ := cut_da d1 lo hi
  exact ⟨a, us, rfl, sql_up hid_le s1, newL_da hb dc fun v H' g d => k v H' n m g d⟩
theorem slT_da {lo hi : Option Int} (hb : BagOk b H) (h1 : Da K (hid b H) x (.tuple dx)) (k : ∀ v H' n m, Go b H H' → Da K (hid b H') v (.tuple ((dx.drop n).take m)) → Q v H') : rSlA K x lo hi H Q := by
  obtain ⟨a, us, rfl, s1, d1⟩ := da_tup h1
  obtain ⟨n, m, dc⟩ := cut_da d1 lo hi
  refine ⟨a, us, rfl, sqt_up hid_le s1, fun _ => k _ H 0 dx.length (Go.refl hb) ?_, fun _ => newT_da hb dc fun v H' g d => k v H' n m g d⟩
  rw [List.drop_zero, List.take_length]
  exact h1
/-- l[v] -/
theorem ixL_da {v : Int} (h1 : Da K (hid b H) x (.list dx)) (h0 : 0 ≤ v) (hv : v < (dx.length : Int)) (k : ∀ u d, d ∈ dx → dx[v.toNat]? = some d → Da K (hid b H) u d → Q u H) : rIxL K x (.int v) H Q := by
  obtain ⟨a, us, rfl, s1, d1⟩ := da_list h1
  obtain ⟨u, d, e, hm, hd, hu⟩ := d1.pick h0 hv
  exact ⟨a, us, v, u, rfl, rfl, sql_up hid_le s1, e, k u d hm hd hu⟩
theorem ixT_da {v : Int} (h1 : Da K (hid b H) x (.tuple dx)) (h0 : 0 ≤ v) (hv : v < (dx.length : Int)) (k : ∀ u d, d ∈ dx → dx[v.toNat]? = some d → Da K (hid b H) u d → Q u H) : rIxT K x (.int v) H Q := by
  obtain ⟨a, us, rfl, s1, d1⟩ := da_tup h1
  obtain ⟨u, d, e, hm, hd, hu⟩ := d1.pick h0 hv
  exact ⟨a, us, v, u, rfl, rfl, sqt_up hid_le s1, e, k u d hm hd hu⟩
theorem lastT_da (h1 : Da K (hid b H) x (.tuple dx)) (hne : dx ≠ []) (k : ∀ u d, d ∈ dx → Da K (hid b H) u d → Q u H) : rIxT K x (.int (-1)) H Q := by
  obtain ⟨a, us, rfl, s1, d1⟩ := da_tup h1
  have hl := d1.len
  have hpos : 0 < dx.length := List.length_pos_iff.mpr hne
  obtain ⟨u, e, hu⟩ := d1.get (i := dx.length - 1) (List.getElem?_eq_getElem (by omega))
  refine ⟨a, us, -1, u, rfl, rfl, sqt_up hid_le s1, ?_, k u _ (List.getElem_mem _) hu⟩
  unfold atI ixN
  rw [if_neg (by decide), if_pos (by omega)]
  show us[((-1 : Int) + (us.length : Int)).toNat]? = some u
  rw [show ((-1 : Int) + (us.length : Int)).toNat = dx.length - 1 by omega]
  exact e
end
/-- sizes of texts of a list with one greater item -/
theorem sm_app {n A B C : Nat} {as bs : List PyData} {x : PyData} (ha : ∀ d ∈ as, Sm n A d) (hb : ∀ d ∈ bs, Sm n A d) (hx : Sm n C x) (hl : as.length + bs.length ≤ B) : Sm (n + 1) ((A + 2) * B + C + 5) (.list (as ++ [x] ++ bs)) := by
  obtain ⟨a1, a2, a3, a4⟩ := sm_all ha
  obtain ⟨b1, b2, b3, b4⟩ := sm_all hb
  obtain ⟨c1, c2, c3⟩ := hx
  have sapp : ∀ xs ys : List PyData, PyData.shownAll (xs ++ ys) = PyData.shownAll xs ++ PyData.shownAll ys := by
    intro xs ys
    induction xs with
    | nil => rfl
    | cons z xs ih => rw [List.cons_append, PyData.shownAll, PyData.shownAll, ih]; rfl
  have happ : ∀ xs ys : List PyData, PyData.showableAll (xs ++ ys) = (PyData.showableAll xs && PyData.showableAll ys) := by
    intro xs ys
    induction xs with
    | nil => simp [PyData.showableAll]
    | cons z xs ih => rw [List.cons_append, PyData.showableAll, PyData.showableAll, ih, Bool.and_assoc]
  have dapp : ∀ xs ys : List PyData, PyData.depthAll (xs ++ ys) = max (PyData.depthAll xs) (PyData.depthAll ys) := by
    intro xs ys
    induction xs with
    | nil => simp [PyData.depthAll]
    | cons z xs ih => rw [List.cons_append, PyData.depthAll, PyData.depthAll, ih, Nat.max_assoc]
  refine ⟨?_, ?_, ?_⟩
  · simp only [PyData.showable, happ, a1, b1, c1, PyData.showableAll, Bool.and_self]
  · simp only [PyData.depth, dapp, PyData.depthAll]
    omega
  · simp only [PyData.shown]
    have q := listText_len_le (PyData.shownAll (as ++ [x] ++ bs))
    rw [sapp, sapp] at q
    simp only [List.map_append, List.sum_append, List.length_append, PyData.shownAll, List.map_cons, List.map_nil, List.sum_cons, List.sum_nil, List.length_cons, List.length_nil, a4, b4] at q
    have m1 : A * as.length + A * bs.length ≤ A * B := by rw [← Nat.mul_add]; exact Nat.mul_le_mul_left _ hl
    have m2 : (A + 2) * B = A * B + 2 * B := Nat.add_mul _ _ _
    rw [sapp, sapp]
    simp only [PyData.shownAll]
    omega
theorem sm_prI {p : List Int} (h : p.length ≤ 3) (hz : ∀ z ∈ p, z.natAbs < 10 ^ 45) : Sm 1 147 (prI p) := Sm.tuple (n := 0) (B := 46) (m := 3) (fun d hd => by obtain ⟨z, h1, rfl⟩ := List.mem_map.mp hd; exact Sm.int (hz z h1)) (by rw [List.length_map]; exact h)
theorem RowsOk.sm {ps : List (List Int)} (h : RowsOk ps) : ∀ d ∈ ps.map prI, Sm 1 147 d := fun d hd => by
  obtain ⟨p, hp, rfl⟩ := List.mem_map.mp hd
  exact sm_prI (h.2 p hp).2.1 (h.2 p hp).2.2
theorem RowsOk.cut {ps : List (List Int)} (h : RowsOk ps) (n m : Nat) : RowsOk ((ps.drop n).take m) := ⟨by have := h.1; rw [List.length_take, List.length_drop]; omega, fun p hp => h.2 p (List.mem_of_mem_drop (List.mem_of_mem_take hp))⟩
theorem map_cut {α β : Type} (f : α → β) (ps : List α) (n m : Nat) : ((ps.map f).drop n).take m = ((ps.drop n).take m).map f := by rw [← List.map_drop, ← List.map_take]
end G
namespace G
open PySem PySem.Spec PyProof.Rows L2
def sp_bent (K : PySem.W.Frag) : Sp := fun vs H Q _ => ∃ b x ps, vs = [.ref b, x] ∧ BagOk b H ∧ Da K (hid b H) x (.list (ps.map prI)) ∧ RowsOk ps ∧ ∀ v d H', Go b H H' → Da K (hid b H') v d → Sm 7 4000000 d → Q v H'
end G
namespace G
open PySem PySem.Spec PyProof.Rows L2
theorem noPart {σ : L2.St} {H : Hp} {Q : Option Int → Hp → Prop} (h : Q none H) : tNoPart σ H Q := h
theorem cut_sm {n B : Nat} {ds : List PyData} (h : ∀ d ∈ ds, Sm n B d) (i j : Nat) : ∀ d ∈ (ds.drop i).take j, Sm n B d := fun d hd => h d (List.mem_of_mem_drop (List.mem_of_mem_take hd))
theorem app_sm {n B : Nat} {ds es : List PyData} (h : ∀ d ∈ ds, Sm n B d) (k : ∀ d ∈ es, Sm n B d) : ∀ d ∈ ds ++ es, Sm n B d := fun d hd => (List.mem_append.mp hd).elim (h d) (k d)
theorem cut_len {ds : List PyData} {N : Nat} (h : ds.length ≤ N) (i j : Nat) : ((ds.drop i).take j).length ≤ N := by
  rw [List.length_take, List.length_drop]
  omega
end G
namespace G
open PySem PySem.Spec PyProof.Rows L2
theorem tc_of {v : V} {σ : L2.St} {H : Hp} {Q : VK} (h : Q v H) : tC v σ H Q := h
end G

namespace G
open PySem PySem.Spec PyProof.Rows L2
def top (i : Nat) : Stmt := PySem.Challenge.pw_leadswitch_k12_bounds_and_bundles.main.body.getD i (.Pass ⟨0, 0, 0, 0⟩)
section
variable {P : Program} {w : World} {K : PySem.W.Frag} {mg : Str → Option Value} {base : Heap}
abbrev s_is_integer : Stmt := top 5
abbrev sc_is_integer_N : List Str := ["thing"]
theorem sc_is_integer : FnScope sc_is_integer_N ["thing"] (defScope s_is_integer) := ⟨rfl, rfl, rfl, by decide +kernel, rfl, by decide +kernel, by decide +kernel⟩
theorem ok_is_integer (D : Def K mg "is_integer" s_is_integer ["thing"]) (B : Blt mg) : Cal P w K mg base CX0 1 "is_integer" ["thing"] (sp_is_integer K) := by
  refine D.ok sc_is_integer (fun vs H Q E h => by obtain ⟨v, d, rfl, _⟩ := h; rfl) (fun f cdv A out s H vs Q E hr h => ?_)
  obtain ⟨v, d, rfl, hd, k⟩ := h
  refine ⟨_, (pss_one (ps_ret (pe_and (pe_callB (kisi K) (by rfl) B.isinstance (by decide +kernel) (pa_cons (pv 0) (pa_cons (pe_ty (n := "int") B.int (by decide +kernel)) pa_nil))) (pe_one (pe_not (pe_callB (kisi K) (by rfl) B.isinstance (by decide +kernel) (pa_cons (pv 0) (pa_cons (pe_ty (n := "bool") B.bool (by decide +kernel)) pa_nil)))))))), ?_⟩
  refine ⟨_, rfl, _, _, _, _, _, rfl, .ty "int", hd.ty, kit_int d, _, rfl, ?_⟩
  rw [isInt_eq] at k
  cases hi : isI d with
  | false => rw [hi] at k; exact iteF k
  | true =>
    rw [hi] at k
    exact iteT ⟨_, rfl, _, _, _, _, _, rfl, .ty "bool", hd.ty, kit_bool d, _, rfl, k⟩

abbrev s_is_between : Stmt := top 6
abbrev sc_is_between_N : List Str := ["thing", "least", "most"]
theorem sc_is_between : FnScope sc_is_between_N ["thing", "least", "most"] (defScope s_is_between) := ⟨rfl, rfl, rfl, by decide +kernel, rfl, by decide +kernel, by decide +kernel⟩
theorem ok_is_between (D : Def K mg "is_between" s_is_between ["thing", "least", "most"]) (c_is_integer : Cal P w K mg base CX0 1 "is_integer" ["thing"] (sp_is_integer K)) : Cal P w K mg base CX0 2 "is_between" ["thing", "least", "most"] (sp_is_between K) := by
  refine D.ok sc_is_between (fun vs H Q E h => by obtain ⟨v, d, lo, hi, rfl, _⟩ := h; rfl) (fun f cdv A out s H vs Q E hr h => ?_)
  obtain ⟨v, d, lo, hi, rfl, hd, k⟩ := h
  refine ⟨_, (pss_one (ps_ret (pe_and (pe_c c_is_integer (hr.mono (by decide)) pass0 (pa_cons (pv 0) pa_nil)) (pe_one (pe_chain op_le op_le (pv 1) (pv 0) (pv 2)))))), ?_⟩
  refine ⟨_, rfl, v, d, rfl, hd, _, rfl, ?_⟩
  cases d with
  | int i =>
    cases hd
    refine iteT ⟨_, rfl, _, rfl, _, _, rfl, rfl, _, rfl, ?_⟩
    refine ite2 (fun h1 => ?_) (fun h1 => ?_)
    · refine ⟨_, rfl, _, _, rfl, rfl, ?_⟩
      rw [betw, h1] at k
      exact k
    · rw [betw, eq_false_of_ne_true h1] at k
      exact k
  | _ => exact iteF k

abbrev s_is_amount : Stmt := top 7
abbrev sc_is_amount_N : List Str := ["thing"]
theorem sc_is_amount : FnScope sc_is_amount_N ["thing"] (defScope s_is_amount) := ⟨rfl, rfl, rfl, by decide +kernel, rfl, by decide +kernel, by decide +kernel⟩
theorem ok_is_amount (D : Def K mg "is_amount" s_is_amount ["thing"]) (c_is_between : Cal P w K mg base CX0 2 "is_between" ["thing", "least", "most"] (sp_is_between K)) {t_MOST_AMOUNT : Tok} (m_MOST_AMOUNT : mg "MOST_AMOUNT" = some (.int 1000000000000000000000000000000 t_MOST_AMOUNT)) : Cal P w K mg base CX0 3 "is_amount" ["thing"] (sp_is_amount K) := by
  refine D.ok sc_is_amount (fun vs H Q E h => by obtain ⟨v, d, rfl, _⟩ := h; rfl) (fun f cdv A out s H vs Q E hr h => ?_)
  obtain ⟨v, d, rfl, hd, k⟩ := h
  refine ⟨_, (pss_one (ps_ret (pe_c c_is_between (hr.mono (by decide)) pass0 (pa_cons (pv 0) (pa_cons pe_int (pa_cons (pe_gi m_MOST_AMOUNT) pa_nil)))))), ?_⟩
  exact ⟨_, rfl, v, d, _, _, rfl, hd, k⟩

abbrev s_is_count : Stmt := top 8
abbrev sc_is_count_N : List Str := ["thing"]
theorem sc_is_count : FnScope sc_is_count_N ["thing"] (defScope s_is_count) := ⟨rfl, rfl, rfl, by decide +kernel, rfl, by decide +kernel, by decide +kernel⟩
theorem ok_is_count (D : Def K mg "is_count" s_is_count ["thing"]) (c_is_between : Cal P w K mg base CX0 2 "is_between" ["thing", "least", "most"] (sp_is_between K)) {t_MOST_COUNT : Tok} (m_MOST_COUNT : mg "MOST_COUNT" = some (.int 1000000000000000000 t_MOST_COUNT)) : Cal P w K mg base CX0 3 "is_count" ["thing"] (sp_is_count K) := by
  refine D.ok sc_is_count (fun vs H Q E h => by obtain ⟨v, d, rfl, _⟩ := h; rfl) (fun f cdv A out s H vs Q E hr h => ?_)
  obtain ⟨v, d, rfl, hd, k⟩ := h
  refine ⟨_, (pss_one (ps_ret (pe_c c_is_between (hr.mono (by decide)) pass0 (pa_cons (pv 0) (pa_cons pe_int (pa_cons (pe_gi m_MOST_COUNT) pa_nil)))))), ?_⟩
  exact ⟨_, rfl, v, d, _, _, rfl, hd, k⟩

abbrev s_is_broker : Stmt := top 9
abbrev sc_is_broker_N : List Str := ["thing", "size"]
theorem sc_is_broker : FnScope sc_is_broker_N ["thing", "size"] (defScope s_is_broker) := ⟨rfl, rfl, rfl, by decide +kernel, rfl, by decide +kernel, by decide +kernel⟩
theorem ok_is_broker (D : Def K mg "is_broker" s_is_broker ["thing", "size"]) (c_is_between : Cal P w K mg base CX0 2 "is_between" ["thing", "least", "most"] (sp_is_between K)) : Cal P w K mg base CX0 3 "is_broker" ["thing", "size"] (sp_is_broker K) := by
  refine D.ok sc_is_broker (fun vs H Q E h => by obtain ⟨v, d, n, rfl, _⟩ := h; rfl) (fun f cdv A out s H vs Q E hr h => ?_)
  obtain ⟨v, d, n, rfl, hd, k⟩ := h
  refine ⟨_, (pss_one (ps_ret (pe_c c_is_between (hr.mono (by decide)) pass0 (pa_cons (pv 0) (pa_cons pe_int (pa_cons (pe_op op_sub (pv 1) pe_int) pa_nil)))))), ?_⟩
  exact ⟨_, rfl, _, rfl, _, _, rfl, rfl, v, d, _, _, rfl, hd, k⟩

abbrev s_is_bound : Stmt := top 10
abbrev sc_is_bound_N : List Str := ["thing"]
theorem sc_is_bound : FnScope sc_is_bound_N ["thing"] (defScope s_is_bound) := ⟨rfl, rfl, rfl, by decide +kernel, rfl, by decide +kernel, by decide +kernel⟩
theorem ok_is_bound (D : Def K mg "is_bound" s_is_bound ["thing"]) (B : Blt mg) (c_is_amount : Cal P w K mg base CX0 3 "is_amount" ["thing"] (sp_is_amount K)) : Cal P w K mg base CX0 4 "is_bound" ["thing"] (sp_is_bound K) := by
  refine D.ok sc_is_bound (fun vs H Q E h => by obtain ⟨v, d, rfl, _⟩ := h; rfl) (fun f cdv A out s H vs Q E hr h => ?_)
  obtain ⟨v, d, rfl, hd, k⟩ := h
  refine ⟨_, (pss_cons (ps_if (PW.pt (pw_or (pt_not (pt_val (pe_callB (kisi K) (by rfl) B.isinstance (by decide +kernel) (pa_cons (pv 0) (pa_cons (pe_ty (n := "tuple") B.tuple (by decide +kernel)) pa_nil))))) (pw_or1 (pt_cmpR op_ne (pe_callB (klen K) (by rfl) B.len (by decide +kernel) (pa_cons (pv 0) pa_nil)) pe_int (nomark _)))))
      (pss_one (ps_ret pe_bl))
      pss_nil)
      (pss_one (ps_ret (pe_and (pe_c c_is_amount (hr.mono (by decide)) pass0 (pa_cons (pe_ix (kixT K) (pv 0) pe_int (fun _ _ => rfl)) pa_nil)) (pe_and (pe_c c_is_amount (hr.mono (by decide)) pass0 (pa_cons (pe_ix (kixT K) (pv 0) pe_int (fun _ _ => rfl)) pa_nil)) (pe_one (pe_cmpR op_le (pe_ix (kixT K) (pv 0) pe_int (fun _ _ => rfl)) (pe_ix (kixT K) (pv 0) pe_int (fun _ _ => rfl)) (nomark _)))))))), ?_⟩
  refine ⟨_, rfl, _, _, _, _, _, rfl, .ty "tuple", hd.ty, kit_tuple d, _, rfl, ?_⟩
  cases d with
  | tuple ds =>
    cases hd with
    | @tup a xs _ hS hL =>
      have hl := hL.len
      refine iteF ⟨_, rfl, _, _, rfl, Or.inr ⟨_, hS, rfl⟩, rfl, _, rfl, ?_⟩
      by_cases h2 : ds.length = 2
      · rw [hl, h2]
        refine iteNS rfl ?_
        obtain ⟨x, y, rfl⟩ : ∃ x y, ds = [x, y] := by
          match ds, h2 with
          | [x, y], _ => exact ⟨x, y, rfl⟩
        obtain ⟨u0, e0, d0⟩ := hL.get (i := 0) rfl
        obtain ⟨u1, e1, d1⟩ := hL.get (i := 1) rfl
        refine ⟨_, rfl, a, _, 0, u0, rfl, rfl, hS, atI_nat (j := 0) e0, u0, x, rfl, d0, _, rfl, ?_⟩
        have hk : isBoundD (.tuple [x, y]) = (betw x 0 1000000000000000000000000000000 && (betw y 0 1000000000000000000000000000000 && leD x y)) := rfl
        rw [hk] at k
        cases hx : betw x 0 1000000000000000000000000000000 with
        | false => rw [hx] at k; exact iteF k
        | true =>
          rw [hx] at k
          refine iteT ⟨_, rfl, a, _, 1, u1, rfl, rfl, hS, atI_nat (j := 1) e1, u1, y, rfl, d1, _, rfl, ?_⟩
          cases hy : betw y 0 1000000000000000000000000000000 with
          | false => rw [hy] at k; exact iteF k
          | true =>
            rw [hy] at k
            obtain ⟨i, rfl⟩ := betw_int hx
            obtain ⟨j, rfl⟩ := betw_int hy
            cases d0
            cases d1
            exact iteT ⟨_, rfl, a, _, 0, _, rfl, rfl, hS, atI_nat (j := 0) e0, _, rfl, a, _, 1, _, rfl, rfl, hS, atI_nat (j := 1) e1, _, _, rfl, rfl, k⟩
      · rw [isBoundD_len h2] at k
        rw [hl, len_ne (by omega)]
        exact iteT k
  | _ => exact iteT k

abbrev s_are_bounds : Stmt := top 11
abbrev sc_are_bounds_N : List Str := ["thing", "bound"]
theorem sc_are_bounds : FnScope sc_are_bounds_N ["thing"] (defScope s_are_bounds) := ⟨rfl, rfl, rfl, by decide +kernel, rfl, by decide +kernel, by decide +kernel⟩
theorem ok_are_bounds (D : Def K mg "are_bounds" s_are_bounds ["thing"]) (B : Blt mg) (c_is_bound : Cal P w K mg base CX0 4 "is_bound" ["thing"] (sp_is_bound K)) {t_MOST_BROKERS : Tok} (m_MOST_BROKERS : mg "MOST_BROKERS" = some (.int 10 t_MOST_BROKERS)) : Cal P w K mg base CX0 5 "are_bounds" ["thing"] (sp_are_bounds K) := by
  refine D.ok sc_are_bounds (fun vs H Q E h => by obtain ⟨v, d, rfl, _⟩ := h; rfl) (fun f cdv A out s H vs Q E hr h => ?_)
  obtain ⟨v, d, rfl, hd, k⟩ := h
  refine ⟨_, (pss_cons (ps_if (PW.pt (pw_or (pt_not (pt_val (pe_callB (kisi K) (by rfl) B.isinstance (by decide +kernel) (pa_cons (pv 0) (pa_cons (pe_ty (n := "list") B.list (by decide +kernel)) pa_nil))))) (pw_or1 (pt_not (pt_chain op_le op_le pe_int (pe_callB (klen K) (by rfl) B.len (by decide +kernel) (pa_cons (pv 0) pa_nil)) (pe_gi m_MOST_BROKERS))))))
      (pss_one (ps_ret pe_bl))
      pss_nil)
      (pss_one (ps_ret (pe_callB (kall K) (by rfl) B.all (by decide +kernel) (pa_cons (pe_lc (own := [("bound", 1)]) (g := (gName 1)) (tt := tYes) rfl sc_are_bounds.nd (pi_list (pv 0)) (blkOk_by (own := [("bound", 1)]) (N := sc_are_bounds_N) (sc := defScope s_are_bounds) (by decide +kernel)) (fun _ _ _ _ _ => (pg_name (i := 1) sc_are_bounds.nd rfl (Or.inl rfl))) (fun _ _ _ _ _ => pts_nil) (fun _ _ _ _ _ => (pe_c c_is_bound (hr.mono (by decide)) pass0 (pa_cons (pv 1) pa_nil)))) pa_nil))))), ?_⟩
  refine ⟨_, rfl, _, _, _, _, _, rfl, .ty "list", hd.ty, kit_list d, _, rfl, ?_⟩
  cases d with
  | list ds =>
    cases hd with
    | @lst a xs _ hS hL =>
      have hl := hL.len
      refine iteF ⟨_, rfl, _, _, rfl, Or.inl ⟨_, hS, rfl⟩, _, _, rfl, rfl, _, rfl, ?_⟩
      have hk : areBoundsD (.list ds) = (decide (2 ≤ ds.length) && decide (ds.length ≤ 10) && ds.all isBoundD) := rfl
      rw [hk] at k
      rw [hl]
      by_cases h2 : 2 ≤ ds.length
      · rw [decide_eq_true (show (2 : Int) ≤ ((ds.length : Nat) : Int) by omega)]
        refine iteT ⟨_, _, rfl, rfl, _, rfl, ?_⟩
        by_cases h10 : ds.length ≤ 10
        · rw [decide_eq_true (show ((ds.length : Nat) : Int) ≤ 10 by omega)]
          rw [decide_eq_true h2, decide_eq_true h10] at k
          refine iteF ⟨_, rfl, a, rfl, ⟨_, hS⟩, fun L hD => ?_⟩
          refine lc_map (xs := xs) (ys := (ds.map isBoundD).map V.bl) hS hD (by simp [hl]) (by omega) (fun x => rfl) (fun i x y hx hy H1 e1 Q1 q1 => ?_) (fun H1 e1 hD1 => ?_)
          · obtain ⟨d, ed, hd⟩ := hL.getV hx
            rw [List.getElem?_map, List.getElem?_map, ed] at hy
            cases hy
            exact ⟨_, rfl, x, d, rfl, hd.mono e1, q1 H1 (Same.refl _)⟩
          · refine ⟨L, _, rfl, SqL.of hD1, ?_⟩
            rw [boolAll]
            exact k H1 e1
        · rw [decide_eq_false (show ¬ ((ds.length : Nat) : Int) ≤ 10 by omega)]
          rw [decide_eq_true h2, decide_eq_false h10] at k
          exact iteT (k H (Same.refl _))
      · rw [decide_eq_false (show ¬ (2 : Int) ≤ ((ds.length : Nat) : Int) by omega)]
        rw [decide_eq_false h2] at k
        exact iteF ⟨_, rfl, iteT (k H (Same.refl _))⟩
  | _ => exact iteT (k H (Same.refl _))

abbrev s_is_bundle : Stmt := top 12
abbrev sc_is_bundle_N : List Str := ["thing", "size"]
theorem sc_is_bundle : FnScope sc_is_bundle_N ["thing", "size"] (defScope s_is_bundle) := ⟨rfl, rfl, rfl, by decide +kernel, rfl, by decide +kernel, by decide +kernel⟩
theorem ok_is_bundle (D : Def K mg "is_bundle" s_is_bundle ["thing", "size"]) (B : Blt mg) (c_is_broker : Cal P w K mg base CX0 3 "is_broker" ["thing", "size"] (sp_is_broker K)) (c_is_count : Cal P w K mg base CX0 3 "is_count" ["thing"] (sp_is_count K)) : Cal P w K mg base CX0 4 "is_bundle" ["thing", "size"] (sp_is_bundle K) := by
  refine D.ok sc_is_bundle (fun vs H Q E h => by obtain ⟨v, d, n, rfl, _⟩ := h; rfl) (fun f cdv A out s H vs Q E hr h => ?_)
  obtain ⟨v, d, n, rfl, hd, k⟩ := h
  refine ⟨_, (pss_cons (ps_if (PW.pt (pw_or (pt_not (pt_val (pe_callB (kisi K) (by rfl) B.isinstance (by decide +kernel) (pa_cons (pv 0) (pa_cons (pe_ty (n := "tuple") B.tuple (by decide +kernel)) pa_nil))))) (pw_or (pt_cmpR op_ne (pe_callB (klen K) (by rfl) B.len (by decide +kernel) (pa_cons (pv 0) pa_nil)) pe_int (nomark _)) (pw_or1 (pt_not (pt_val (pe_c c_is_count (hr.mono (by decide)) pass0 (pa_cons (pe_ix (kixT K) (pv 0) pe_int (fun _ _ => rfl)) pa_nil))))))))
      (pss_one (ps_ret pe_bl))
      pss_nil)
      (pss_one (ps_ret (pe_and (pe_c c_is_broker (hr.mono (by decide)) pass0 (pa_cons (pe_ix (kixT K) (pv 0) pe_int (fun _ _ => rfl)) (pa_cons (pv 1) pa_nil))) (pe_and (pe_c c_is_broker (hr.mono (by decide)) pass0 (pa_cons (pe_ix (kixT K) (pv 0) pe_int (fun _ _ => rfl)) (pa_cons (pv 1) pa_nil))) (pe_one (pe_cmpR op_lt (pe_ix (kixT K) (pv 0) pe_int (fun _ _ => rfl)) (pe_ix (kixT K) (pv 0) pe_int (fun _ _ => rfl)) (nomark _)))))))), ?_⟩
  refine ⟨_, rfl, _, _, _, _, _, rfl, .ty "tuple", hd.ty, kit_tuple d, _, rfl, ?_⟩
  cases d with
  | tuple ds =>
    cases hd with
    | @tup a xs _ hS hL =>
      have hl := hL.len
      refine iteF ⟨_, rfl, _, _, rfl, Or.inr ⟨_, hS, rfl⟩, rfl, _, rfl, ?_⟩
      by_cases h3 : ds.length = 3
      · rw [hl, h3]
        refine iteNS rfl ?_
        obtain ⟨x, y, z, rfl⟩ : ∃ x y z, ds = [x, y, z] := by
          match ds, h3 with
          | [x, y, z], _ => exact ⟨x, y, z, rfl⟩
        obtain ⟨u0, e0, d0⟩ := hL.get (i := 0) rfl
        obtain ⟨u1, e1, d1⟩ := hL.get (i := 1) rfl
        obtain ⟨u2, e2, d2⟩ := hL.get (i := 2) rfl
        refine ⟨_, rfl, a, _, 2, u2, rfl, rfl, hS, atI_nat (j := 2) e2, u2, z, rfl, d2, _, rfl, ?_⟩
        have hk : isBundleD n (.tuple [x, y, z]) = (betw z 1 1000000000000000000 && (betw x 0 (n - 1) && (betw y 0 (n - 1) && ltD x y))) := rfl
        rw [hk] at k
        cases hz : betw z 1 1000000000000000000 with
        | false => rw [hz] at k; exact iteT k
        | true =>
          rw [hz] at k
          refine iteF ⟨_, rfl, a, _, 0, u0, rfl, rfl, hS, atI_nat (j := 0) e0, _, rfl, u0, x, n, rfl, d0, _, rfl, ?_⟩
          cases hx : betw x 0 (n - 1) with
          | false => rw [hx] at k; exact iteF k
          | true =>
            rw [hx] at k
            refine iteT ⟨_, rfl, a, _, 1, u1, rfl, rfl, hS, atI_nat (j := 1) e1, _, rfl, u1, y, n, rfl, d1, _, rfl, ?_⟩
            cases hy : betw y 0 (n - 1) with
            | false => rw [hy] at k; exact iteF k
            | true =>
              rw [hy] at k
              obtain ⟨i, rfl⟩ := betw_int hx
              obtain ⟨j, rfl⟩ := betw_int hy
              cases d0
              cases d1
              exact iteT ⟨_, rfl, a, _, 0, _, rfl, rfl, hS, atI_nat (j := 0) e0, _, rfl, a, _, 1, _, rfl, rfl, hS, atI_nat (j := 1) e1, _, _, rfl, rfl, k⟩
      · rw [isBundleD_len h3] at k
        rw [hl, len_ne (by omega)]
        exact iteT k
  | _ => exact iteT k

abbrev s_are_bundles : Stmt := top 13
abbrev sc_are_bundles_N : List Str := ["thing", "size", "bundle"]
theorem sc_are_bundles : FnScope sc_are_bundles_N ["thing", "size"] (defScope s_are_bundles) := ⟨rfl, rfl, rfl, by decide +kernel, rfl, by decide +kernel, by decide +kernel⟩
theorem ok_are_bundles (D : Def K mg "are_bundles" s_are_bundles ["thing", "size"]) (B : Blt mg) (c_is_bundle : Cal P w K mg base CX0 4 "is_bundle" ["thing", "size"] (sp_is_bundle K)) {t_MOST_BUNDLES : Tok} (m_MOST_BUNDLES : mg "MOST_BUNDLES" = some (.int 45 t_MOST_BUNDLES)) : Cal P w K mg base CX0 5 "are_bundles" ["thing", "size"] (sp_are_bundles K) := by
  refine D.ok sc_are_bundles (fun vs H Q E h => by obtain ⟨v, d, n, rfl, _⟩ := h; rfl) (fun f cdv A out s H vs Q E hr h => ?_)
  obtain ⟨v, d, n, rfl, hd, k⟩ := h
  refine ⟨_, (pss_cons (ps_if (PW.pt (pw_or (pt_not (pt_val (pe_callB (kisi K) (by rfl) B.isinstance (by decide +kernel) (pa_cons (pv 0) (pa_cons (pe_ty (n := "list") B.list (by decide +kernel)) pa_nil))))) (pw_or1 (pt_cmpR op_gt (pe_callB (klen K) (by rfl) B.len (by decide +kernel) (pa_cons (pv 0) pa_nil)) (pe_gi m_MOST_BUNDLES) (nomark _)))))
      (pss_one (ps_ret pe_bl))
      pss_nil)
      (pss_cons (ps_if (pt_not (pt_val (pe_callB (kall K) (by rfl) B.all (by decide +kernel) (pa_cons (pe_lc (own := [("bundle", 2)]) (g := (gName 2)) (tt := tYes) rfl sc_are_bundles.nd (pi_list (pv 0)) (blkOk_by (own := [("bundle", 2)]) (N := sc_are_bundles_N) (sc := defScope s_are_bundles) (by decide +kernel)) (fun _ _ _ _ _ => (pg_name (i := 2) sc_are_bundles.nd rfl (Or.inl rfl))) (fun _ _ _ _ _ => pts_nil) (fun _ _ _ _ _ => (pe_c c_is_bundle (hr.mono (by decide)) pass0 (pa_cons (pv 2) (pa_cons (pv 1) pa_nil))))) pa_nil))))
      (pss_one (ps_ret pe_bl))
      pss_nil)
      (pss_one (ps_ret (pe_cmpR op_eq (pe_callB (call_lenT K) (by rfl) B.len (by decide +kernel) (pa_cons (pe_scT (own := [("bundle", 2)]) (g := (gName 2)) (tt := tYes) (su hr) rfl sc_are_bundles.nd (pi_list (pv 0)) (blkOk_by (own := [("bundle", 2)]) (N := sc_are_bundles_N) (sc := defScope s_are_bundles) (by decide +kernel)) (fun _ _ _ _ _ => (pg_name (i := 2) sc_are_bundles.nd rfl (Or.inl rfl))) (fun _ _ _ _ _ => pts_nil) (fun _ _ _ _ _ => (pe_slice (kslT K) (pv 2) po_none (po_some pe_int)))) pa_nil)) (pe_callB (klen K) (by rfl) B.len (by decide +kernel) (pa_cons (pv 0) pa_nil)) (nomark _)))))), ?_⟩
  refine ⟨_, rfl, _, _, _, _, _, rfl, .ty "list", hd.ty, kit_list d, _, rfl, ?_⟩
  cases d with
  | list ds =>
    cases hd with
    | @lst a xs _ hS hL =>
      have hl := hL.len
      refine iteF ⟨_, rfl, _, _, rfl, Or.inl ⟨_, hS, rfl⟩, _, _, rfl, rfl, _, rfl, ?_⟩
      have hk : areBundlesD n (.list ds) = (decide (ds.length ≤ 45) && ds.all (isBundleD n) && decide ((ds.map pairOf).Nodup)) := rfl
      rw [hk] at k
      rw [hl]
      by_cases h45 : ds.length ≤ 45
      · rw [decide_eq_false (show ¬ ((ds.length : Nat) : Int) > 45 by omega)]
        rw [decide_eq_true h45] at k
        refine iteF ⟨_, rfl, a, rfl, ⟨_, hS⟩, fun L hD => ?_⟩
        refine lc_map (xs := xs) (ys := (ds.map (isBundleD n)).map V.bl) hS hD (by simp [hl]) (by omega) (fun x => rfl) (fun i x y hx hy H1 e1 Q1 q1 => ?_) (fun H1 e1 hD1 => ?_)
        · obtain ⟨d, ed, hd⟩ := hL.getV hx
          rw [List.getElem?_map, List.getElem?_map, ed] at hy
          cases hy
          exact ⟨_, rfl, _, rfl, x, d, n, rfl, hd.mono e1, q1 H1 (Same.refl _)⟩
        · refine ⟨L, _, rfl, SqL.of hD1, _, rfl, ?_⟩
          rw [boolAll]
          cases ha : ds.all (isBundleD n) with
          | false => rw [ha] at k; exact iteT (k H1 e1)
          | true =>
            rw [ha] at k
            have hall := List.all_eq_true.mp ha
            refine iteF ⟨_, rfl, a, rfl, ⟨_, sql_up e1 hS⟩, fun M hM => ?_⟩
            refine sc_list (xs := xs) (fun i H' => Same H1 H' ∧ ∃ Ls, H' M = some (SetTO P w M Ls) ∧ (∀ p ∈ Ls, SqT K H' p.1 (p.2.map V.int)) ∧ Met (ds.map pairOf) i Ls) ⟨same_new hM, [], upd_same, (fun p hp => nomatch hp), Met.zero _⟩ (fun i H' _ p => sql_up (e1.trans p.1) hS) ?_ ?_
            · rintro i x H' hx ⟨e', Ls, hM', hLs, met⟩
              obtain ⟨d, ed, hd⟩ := hL.getV hx
              obtain ⟨p, q, c, rfl, _⟩ := bundle_shape (hall d (List.mem_of_getElem? ed))
              have hd' := hd.mono (e1.trans e')
              cases hd' with
              | @tup t us _ hT hU =>
                have hi : i < ds.length := (List.getElem?_eq_some_iff.mp ed).1
                have eu : us = [V.int p, V.int q, V.int c] := DaL.unints (ns := [p, q, c]) hU
                subst eu
                have hlen : Ls.length + 1 < 64 := by have := met.le; omega
                refine ⟨rfl, ?_⟩
                unfold tYes
                refine iteT ⟨_, rfl, _, rfl, t, _, rfl, hT, ?_, ?_⟩
                · intro e
                  exact absurd e.2 (show ¬ min 2 3 = 3 by decide)
                · intro _ r hr'
                  have hM4 : upd H' r (.tup (cutV [V.int p, V.int q, V.int c] none (some 2))) M = some (SetTO P w M Ls) := by
                    rw [upd_ne (ne_of_none hM' hr')]
                    exact hM'
                  have hrT : SqT K (upd H' r (.tup (cutV [V.int p, V.int q, V.int c] none (some 2)))) r ([p, q].map V.int) := .inl (.inl upd_same)
                  have hL4 : ∀ z ∈ Ls, SqT K (upd H' r (.tup (cutV [V.int p, V.int q, V.int c] none (some 2)))) z.1 (z.2.map V.int) := fun z hz => sqt_up (same_new hr') (hLs z hz)
                  refine ⟨r, [p, q], Ls, rfl, hrT, hM4, hL4, hlen, fun L' c1 c2 => ⟨same_mut (e'.trans (same_new hr')) hM, L', upd_same, fun z hz => ?_, met.step (by rw [List.getElem?_map, ed]; rfl) c1 c2⟩⟩
                  rcases Classical.em ([p, q] ∈ Ls.map (·.2)) with h | h
                  · rw [c1 h] at hz
                    exact sqt_mut (hL4 z hz) hM4
                  · rcases List.mem_cons.mp ((c2 h).mem_iff.mp hz) with rfl | hz
                    · exact sqt_mut hrT hM4
                    · exact sqt_mut (hL4 z hz) hM4
            · rintro H' ⟨e', Ls, hM', hLs, met⟩
              refine ⟨M, Ls, rfl, hM', hLs, _, rfl, _, _, rfl, Or.inl ⟨_, sql_up (e1.trans e') hS, rfl⟩, rfl, ?_⟩
              have hq := met.iff
              rw [hl, List.take_of_length_le (by rw [List.length_map]; exact Nat.le_refl _)] at hq
              have hdec : decide (V.int (Ls.length : Int) = V.int (xs.length : Int)) = decide ((ds.map pairOf).Nodup) := by
                rw [hl]
                by_cases h : (ds.map pairOf).Nodup
                · rw [decide_eq_true h, decide_eq_true (by rw [hq.mpr h])]
                · rw [decide_eq_false h]
                  exact decide_eq_false (fun z => h (hq.mp (by have q := V.int.inj z; omega)))
              rw [hdec]
              exact k H' (e1.trans e')
      · rw [decide_eq_true (show ((ds.length : Nat) : Int) > 45 by omega)]
        rw [decide_eq_false h45] at k
        exact iteT (k H (Same.refl _))
  | _ => exact iteT (k H (Same.refl _))

abbrev s__law_bag : Stmt := top 15
abbrev sc__law_bag_N : List Str := ["_law_script", "_law_cell"]
theorem sc__law_bag : FnScope sc__law_bag_N ["_law_script"] (defScope s__law_bag) := ⟨rfl, rfl, rfl, by decide +kernel, rfl, by decide +kernel, by decide +kernel⟩
theorem ok__law_bag (D : Def K mg "_law_bag" s__law_bag ["_law_script"]) (B : Blt mg) : Cal P w K mg base CX0 1 "_law_bag" ["_law_script"] (sp_bag K) := by
  refine D.ok sc__law_bag (fun vs H Q E h => by obtain ⟨a, ns, rfl, _⟩ := h; rfl) (fun f cdv A out s H vs Q E hr h => ?_)
  obtain ⟨a, ns, rfl, hS, hl, k⟩ := h
  refine ⟨_, (pss_one (ps_ret (pe_lst (pa_cons pe_int (pa_cons pe_int (pa_cons pe_int (pa_cons (pe_lc (own := [("_law_cell", 1)]) (g := (gName 1)) (tt := tYes) rfl sc__law_bag.nd (pi_list (pe_slice (kslL K) (pv 0) po_none (po_some pe_int))) (blkOk_by (own := [("_law_cell", 1)]) (N := sc__law_bag_N) (sc := defScope s__law_bag) (by decide +kernel)) (fun _ _ _ _ _ => (pg_name (i := 1) sc__law_bag.nd rfl (Or.inl rfl))) (fun _ _ _ _ _ => pts_nil) (fun _ _ _ _ _ => (pe_callB call_abs (by rfl) B.abs (by decide +kernel) (pa_cons (pv 1) pa_nil)))) pa_nil))))))), ?_⟩
  refine ⟨_, rfl, _, rfl, a, _, rfl, hS, fun p hp => ?_⟩
  obtain ⟨n1, n2, e⟩ := cut_map V.int ns none (some 63)
  have hb : ((ns.drop n1).take n2).length ≤ 1000 := by
    rw [List.length_take, List.length_drop]
    omega
  rw [e]
  generalize (ns.drop n1).take n2 = ms at hb
  refine ⟨p, rfl, ⟨_, SqL.of upd_same⟩, fun L hL => ?_⟩
  refine lc_map (xs := ms.map V.int) (ys := (ms.map fun i => if i < 0 then -i else i).map V.int) (SqL.of upd_same) hL (by simp) (by simp; omega) (fun x => rfl) (fun i x y hx hy H1 e1 Q1 q1 => ?_) (fun H1 e1 hD => ?_)
  · rw [List.getElem?_map] at hx
    rw [List.getElem?_map, List.getElem?_map] at hy
    cases em : ms[i]? with
    | none => rw [em] at hx; cases hx
    | some n =>
      rw [em] at hx hy
      cases hx
      cases hy
      exact ⟨_, rfl, n, rfl, q1 H1 (Same.refl _)⟩
  · refine ⟨by show 4 ≤ sizeLine; decide, fun b hb => ?_⟩
    have e0 : Same H (upd H p (.lst (ms.map V.int))) := same_new hp
    have nb : L ≠ b := ne_of_none hD hb
    refine k b _ ((e0.trans e1).free hb) ((e0.trans e1).trans (same_new hb)) ⟨L, 0, 1234567891, 0, _, upd_same, by rw [upd_ne nb]; exact hD, nb, by decide, fun z hz => ?_, by decide, by decide, by decide⟩
    obtain ⟨i, _, rfl⟩ := List.mem_map.mp hz
    split <;> omega

abbrev s__law_take : Stmt := top 16
abbrev sc__law_take_N : List Str := ["_law_bag_here", "_law_many", "_law_cell", "_law_value", "_law_first", "_law_second"]
theorem sc__law_take : FnScope sc__law_take_N ["_law_bag_here", "_law_many"] (defScope s__law_take) := ⟨rfl, rfl, rfl, by decide +kernel, rfl, by decide +kernel, by decide +kernel⟩
theorem ok__law_take (D : Def K mg "_law_take" s__law_take ["_law_bag_here", "_law_many"]) (B : Blt mg) : Cal P w K mg base CX0 1 "_law_take" ["_law_bag_here", "_law_many"] sp_take := by
  refine D.ok sc__law_take (fun vs H Q E h => by obtain ⟨b, m, rfl, _⟩ := h; rfl) (fun f cdv A out s H vs Q E hr h => ?_)
  obtain ⟨b, m, rfl, hb, m0, m1, k⟩ := h
  refine ⟨_, (Evl.pss_cut (ps_if (pt_cmpR op_eq (pe_ix (kixL K) (pv 0) pe_int (fun _ _ => rfl)) pe_int (nomark _))
      (pss_cons (ps_set (i := 2) sc__law_take.nd rfl (Or.inl rfl) pe_int)
      (Evl.pss_cut (ps_if (pt_cmpR op_lt (pe_ix (kixL K) (pv 0) pe_int (fun _ _ => rfl)) (pe_callB (klen K) (by rfl) B.len (by decide +kernel) (pa_cons (pe_ix (kixL K) (pv 0) pe_int (fun _ _ => rfl)) pa_nil)) (nomark _))
      (pss_one (ps_set (i := 2) sc__law_take.nd rfl (Or.inl rfl) (pe_ix (kixL K) (pe_ix (kixL K) (pv 0) pe_int (fun _ _ => rfl)) (pe_ix (kixL K) (pv 0) pe_int (fun _ _ => rfl)) (fun _ _ => rfl))))
      pss_nil)
      (pss_cons (ps_augS (pv 0) pe_int get_list pe_int ip_add set_list)
      (Evl.pss_cut (ps_if (pt_cmpR op_ge (pv 2) pe_int (nomark _))
      (pss_one (ps_asg (pv 2) (pg_sub (pv 0) pe_int set_list)))
      pss_nil)
      (pss_one (ps_asg (pe_op op_mod (pe_op op_add (pe_op op_add (pe_op op_mulW (pe_ix (kixL K) (pv 0) pe_int (fun _ _ => rfl)) pe_int) (pe_op op_mod (pv 2) pe_int)) (pe_op op_mul pe_int (pe_ix (kixL K) (pv 0) pe_int (fun _ _ => rfl)))) pe_int) (pg_sub (pv 0) pe_int set_list)))))))
      pss_nil)
      (pss_cons (ps_if (pt_cmpR op_gt (pe_ix (kixL K) (pv 0) pe_int (fun _ _ => rfl)) pe_int (nomark _))
      (pss_cons (ps_set (i := 3) sc__law_take.nd rfl (Or.inl rfl) (pe_op op_mod (pe_ix (kixL K) (pv 0) pe_int (fun _ _ => rfl)) (pv 1)))
      (pss_cons (ps_asg (pe_op op_fdivW (pe_ix (kixL K) (pv 0) pe_int (fun _ _ => rfl)) (pv 1)) (pg_sub (pv 0) pe_int set_list))
      (pss_one (ps_ret (pv 3)))))
      pss_nil)
      (pss_cons (ps_set (i := 4) sc__law_take.nd rfl (Or.inl rfl) (pe_op op_mod (pe_op op_mulW (pe_op op_add (pe_ix (kixL K) (pv 0) pe_int (fun _ _ => rfl)) pe_int) pe_int) pe_int))
      (pss_cons (ps_set (i := 5) sc__law_take.nd rfl (Or.inl rfl) (pe_op op_mod (pe_op op_mulW (pe_op op_mod (pe_op op_mulW (pv 4) (pv 4)) pe_int) pe_int) pe_int))
      (pss_cons (ps_if (pt_cmpR op_gt (pv 1) pe_int (nomark _))
      (pss_one (ps_ret (pe_op op_mod (pe_op op_add (pe_op op_mulW (pv 5) pe_int) (pv 4)) (pv 1))))
      pss_nil)
      (pss_one (ps_ret (pe_op op_mod (pe_op op_fdivW (pv 5) pe_int) (pv 1))))))))), ?_⟩
  refine ⟨fun σ H' => ∃ c, σ = [some (.ref b), some (.int m), c, none, none, none] ∧ Go b H H', ?_, ?_⟩
  · have hb' := hb
    obtain ⟨c, hbc⟩ := hb
    have hbc' := hbc
    obtain ⟨a, z, n, cs, h1, h2, hcb, a0, z0, s0, s1, k0⟩ := hbc
    refine ⟨_, rfl, b, _, _, _, rfl, rfl, SqL.of h1, rfl, rfl, _, rfl, ?_⟩
    refine ite2 (fun ha => ?_) (fun _ => ⟨_, rfl, Go.refl hb'⟩)
    refine ⟨fun σ H' => ∃ e : Int, 0 ≤ e ∧ σ = [some (.ref b), some (.int m), some (.int e), none, none, none] ∧ H' = H, ?_, ?_⟩
    · refine ⟨_, rfl, b, _, _, _, rfl, rfl, SqL.of h1, rfl, _, rfl, b, _, _, _, rfl, rfl, SqL.of h1, rfl, _, _, rfl, Or.inl ⟨_, SqL.of h2, rfl⟩, _, _, rfl, rfl, _, rfl, ?_⟩
      refine ite2 (fun hn => ?_) (fun _ => ⟨0, Int.le_refl _, rfl, rfl⟩)
      have hn' := of_decide_eq_true hn
      rw [List.length_map] at hn'
      obtain ⟨j, rfl⟩ := Int.eq_ofNat_of_zero_le k0
      have hj : j < cs.length := by omega
      refine ⟨_, rfl, b, _, _, _, rfl, rfl, SqL.of h1, rfl, _, rfl, b, _, _, _, rfl, rfl, SqL.of h1, rfl, c, _, _, .int cs[j], rfl, rfl, SqL.of h2, atI_nat (by rw [List.getElem?_map, List.getElem?_eq_getElem hj]; rfl), ?_⟩
      exact ⟨cs[j], z0 _ (List.getElem_mem hj), rfl, rfl⟩
    · rintro σ H' ⟨e, e0, rfl, rfl⟩
      refine ⟨_, rfl, b, _, 2, _, rfl, rfl, SqL.of h1, rfl, _, _, rfl, rfl, b, _, _, 2, rfl, rfl, h1, rfl, ?_⟩
      refine ⟨fun σ H1 => ∃ a' : Int, 0 ≤ a' ∧ σ = [some (.ref b), some (.int m), some (.int e), none, none, none] ∧ H1 b = some (.lst [.int a', .int z, .int (n + 1), .ref c]) ∧ hid b H1 = hid b H', ?_, ?_⟩
      · refine ⟨_, rfl, _, _, rfl, rfl, _, rfl, ?_⟩
        refine ite2 (fun _ => ?_) (fun _ => ⟨a, a0, rfl, upd_same, hid_upd⟩)
        refine ⟨_, rfl, _, rfl, b, _, _, 0, rfl, rfl, upd_same, rfl, ?_⟩
        exact ⟨e, e0, rfl, upd_same, by rw [hid_upd, hid_upd]⟩
      · rintro σ H1 ⟨a', a0', rfl, hH, hh⟩
        refine ⟨_, rfl, b, _, _, _, rfl, rfl, SqL.of hH, rfl, _, _, rfl, rfl, wide_mul (a := 64) (b := 64) (by omega) (by decide) (by decide) (by decide) (by decide), _, rfl, _, _, rfl, rfl, (by show (0 : Int) < 2147483647; decide), _, _, rfl, rfl, _, rfl, b, _, _, _, rfl, rfl, SqL.of hH, rfl, _, _, rfl, rfl, .inl ⟨by decide, by decide⟩, _, _, rfl, rfl, _, _, rfl, rfl, (by show (0 : Int) < 2147483647; decide), _, rfl, b, _, _, 1, rfl, rfl, hH, rfl, ?_⟩
        refine ⟨_, rfl, ⟨c, hbc', a', _, n + 1, cs, upd_same, ?_, hcb, a0', z0, Int.emod_nonneg _ (by decide), Int.emod_lt_of_pos _ (by decide), by omega⟩, ?_⟩
        · have q := congrFun hh c
          rw [hid_ne hcb, hid_ne hcb] at q
          rw [upd_ne hcb, q]
          exact h2
        · rw [hid_upd, hh]
          exact Same.refl _
  · rintro σ H1 ⟨c0, rfl, g⟩
    have g' := g
    obtain ⟨⟨c, hbc, a, z, n, cs, h1, h2, hcb, a0, z0, s0, s1, k0⟩, sm⟩ := g
    refine ⟨_, rfl, b, _, _, _, rfl, rfl, SqL.of h1, rfl, _, _, rfl, rfl, _, rfl, ?_⟩
    refine ite2 (fun ha => ?_) (fun _ => ?_)
    · refine ⟨_, rfl, b, _, _, _, rfl, rfl, SqL.of h1, rfl, _, rfl, _, _, rfl, rfl, m0, _, rfl, b, _, _, _, rfl, rfl, SqL.of h1, rfl, _, rfl, _, _, rfl, rfl, wide_div (b := 200) m0 (by omega) (by decide) (by decide), _, rfl, b, _, _, 0, rfl, rfl, h1, rfl, _, rfl, ?_⟩
      refine k _ _ (Int.emod_nonneg _ (by omega)) (Int.emod_lt_of_pos _ m0) ⟨⟨c, hbc, _, z, n, cs, upd_same, by rw [upd_ne hcb]; exact h2, hcb, Int.ediv_nonneg a0 (by omega), z0, s0, s1, k0⟩, ?_⟩
      rw [hid_upd]
      exact sm
    · refine ⟨_, rfl, b, _, _, _, rfl, rfl, SqL.of h1, rfl, _, _, rfl, rfl, _, _, rfl, rfl, wide_mul (a := 64) (b := 64) (by omega) (by decide) (by decide) (by decide) (by decide), _, _, rfl, rfl, (by show (0 : Int) < 1000000007; decide), ?_⟩
      have q1 : 0 ≤ (z + 1) * 39373 % 1000000007 := Int.emod_nonneg _ (by decide)
      have q2 : (z + 1) * 39373 % 1000000007 < 1000000007 := Int.emod_lt_of_pos _ (by decide)
      generalize (z + 1) * 39373 % 1000000007 = y at q1 q2
      refine ⟨_, rfl, _, rfl, _, _, rfl, rfl, wide_mul (a := 64) (b := 64) (by omega) (by omega) (by decide) (by decide) (by decide), _, _, rfl, rfl, (by show (0 : Int) < 998244353; decide), ?_⟩
      have q3 : 0 ≤ y * y % 998244353 := Int.emod_nonneg _ (by decide)
      have q4 : y * y % 998244353 < 998244353 := Int.emod_lt_of_pos _ (by decide)
      generalize y * y % 998244353 = y2 at q3 q4
      refine ⟨_, _, rfl, rfl, wide_mul (a := 64) (b := 64) (by omega) (by decide) (by decide) (by decide) (by decide), _, _, rfl, rfl, (by show (0 : Int) < 998244353; decide), ?_⟩
      have q5 : 0 ≤ y2 * 30011 % 998244353 := Int.emod_nonneg _ (by decide)
      have q6 : y2 * 30011 % 998244353 < 998244353 := Int.emod_lt_of_pos _ (by decide)
      generalize y2 * 30011 % 998244353 = y3 at q5 q6
      refine ⟨_, rfl, _, _, rfl, rfl, _, rfl, ?_⟩
      refine ite2 (fun _ => ?_) (fun _ => ?_)
      · refine ⟨_, rfl, _, _, rfl, rfl, wide_mul (a := 64) (b := 64) (by omega) (by decide) (by decide) (by decide) (by decide), _, rfl, _, _, rfl, rfl, _, rfl, _, _, rfl, rfl, m0, ?_⟩
        exact k _ _ (Int.emod_nonneg _ (by omega)) (Int.emod_lt_of_pos _ m0) g'
      · refine ⟨_, rfl, _, _, rfl, rfl, wide_div (b := 200) (by decide) (by decide) (by decide) (by decide), _, rfl, _, _, rfl, rfl, m0, ?_⟩
        exact k _ _ (Int.emod_nonneg _ (by omega)) (Int.emod_lt_of_pos _ m0) g'

abbrev s__law_alike : Stmt := top 17
abbrev sc__law_alike_N : List Str := ["_law_found", "_law_due"]
theorem sc__law_alike : FnScope sc__law_alike_N ["_law_found", "_law_due"] (defScope s__law_alike) := ⟨rfl, rfl, rfl, by decide +kernel, rfl, by decide +kernel, by decide +kernel⟩
theorem ok__law_alike (D : Def K mg "_law_alike" s__law_alike ["_law_found", "_law_due"]) (B : Blt mg) : CalG P w K mg base CX0 1 "_law_alike" ["_law_found", "_law_due"] (sp_alike K) := by
  refine D.okG sc__law_alike (fun vs H Q E h => by obtain ⟨v, u, d, rfl, _⟩ := h; rfl) (fun f cdv A out s H vs Q E hgu hr h => ?_)
  obtain ⟨v, u, d, rfl, h1, h2, hc, hs, k⟩ := h
  refine ⟨_, (pss_one (ps_ret (pe_and (pe_cmpR (keq K hr.units) (pv 0) (pv 1) (nomark _)) (pe_one (pe_cmpR op_eq (pe_callB (krepr K hgu hr.units) (by rfl) B.repr (by decide +kernel) (pa_cons (pv 0) pa_nil)) (pe_callB (krepr K hgu hr.units) (by rfl) B.repr (by decide +kernel) (pa_cons (pv 1) pa_nil)) (nomark _)))))), ?_⟩
  have hz : d.shown.length ≤ sizeLine := Nat.le_trans hs.ln (by rw [sizeLine_eq]; decide)
  refine ⟨_, rfl, _, rfl, d, d, h1.dp d _ hc, h2.dp d _ hc, shaped_of hs hc, shaped_of hs hc, _, rfl, ?_⟩
  rw [SeqAt.eqv_refl d hc]
  refine iteT ⟨_, rfl, v, d, rfl, h1, hs.sh, hs.dp, hz, _, rfl, u, d, rfl, h2, hs.sh, hs.dp, hz, rfl, ?_⟩
  rw [decide_eq_true rfl]
  exact k H (Same.refl _)

abbrev s__law_odd : Stmt := top 18
abbrev sc__law_odd_N : List Str := ["_law_bag_here", "_law_deep", "_law_k", "_law_some"]
theorem sc__law_odd : FnScope sc__law_odd_N ["_law_bag_here"] (defScope s__law_odd) := ⟨rfl, rfl, rfl, by decide +kernel, rfl, by decide +kernel, by decide +kernel⟩
theorem ok__law_odd (D : Def K mg "_law_odd" s__law_odd ["_law_bag_here"]) (B : Blt mg) (c__law_take : Cal P w K mg base CX0 1 "_law_take" ["_law_bag_here", "_law_many"] sp_take) : Cal P w K mg base CX0 2 "_law_odd" ["_law_bag_here"] (sp_odd K) := by
  refine D.ok sc__law_odd (fun vs H Q E h => by obtain ⟨b, rfl, _⟩ := h; rfl) (fun f cdv A out s H vs Q E hr h => ?_)
  obtain ⟨b, rfl, hb, k⟩ := h
  refine ⟨_, (pss_cons (ps_set (i := 1) sc__law_odd.nd rfl (Or.inl rfl) (pe_lst pa_nil))
      (pss_cons (ps_for PassesOwn.never rfl (pi_range1 rfl B.range (pa_cons pe_int pa_nil)) (pg_name (i := 2) sc__law_odd.nd rfl (Or.inl rfl))
      (pss_one (ps_set (i := 1) sc__law_odd.nd rfl (Or.inl rfl) (pe_lst (pa_cons (pv 1) pa_nil)))))
      (pss_cons (ps_set (i := 3) sc__law_odd.nd rfl (Or.inl rfl) (pe_lst (pa_cons pe_int (pa_cons pe_int (pa_cons (pe_un un_neg pe_int) (pa_cons pe_int (pa_cons pe_int (pa_cons (pe_op op_pow pe_int pe_int) (pa_cons (pe_op op_add (pe_op op_pow pe_int pe_int) pe_int) (pa_cons (pe_op op_pow pe_int pe_int) (pa_cons (pe_op op_add (pe_op op_pow pe_int pe_int) pe_int) (pa_cons (pe_un un_neg (pe_op op_pow pe_int pe_int)) (pa_cons pe_bl (pa_cons pe_bl (pa_cons pe_non (pa_cons pe_str (pa_cons pe_str pa_nil)))))))))))))))))
      (pss_cons (ps_set (i := 3) sc__law_odd.nd rfl (Or.inl rfl) (pe_op op_cat (pv 3) (pe_lst (pa_cons (pe_tup pa_nil) (pa_cons (pe_tup (pa_cons pe_int pa_nil)) (pa_cons (pe_tup (pa_cons pe_int (pa_cons pe_int pa_nil))) (pa_cons (pe_tup (pa_cons pe_int (pa_cons pe_int (pa_cons pe_int pa_nil)))) (pa_cons (pe_tup (pa_cons pe_int (pa_cons pe_int pa_nil))) (pa_cons (pe_lst pa_nil) (pa_cons (pe_lst (pa_cons pe_int pa_nil)) (pa_cons (pe_lst (pa_cons pe_int (pa_cons pe_int pa_nil))) (pa_cons (pe_lst (pa_cons (pe_lst (pa_cons pe_int (pa_cons pe_int pa_nil))) pa_nil)) (pa_cons pe_dnewK (pa_cons (pe_disp (pps_cons pe_int pe_int pps_nil) (by rfl) (by rfl) (fun z => by cases z) (by decide)) (pa_cons (pv 1) (pa_cons (pe_op op_rep (pe_lst (pa_cons pe_int pa_nil)) pe_int) pa_nil))))))))))))))))
      (pss_cons (ps_set (i := 3) sc__law_odd.nd rfl (Or.inl rfl) (pe_op op_cat (pv 3) (pe_lst (pa_cons (pe_op op_mulS pe_str pe_int) pa_nil))))
      (pss_one (ps_ret (pe_ix (kixL K) (pv 3) (pe_c c__law_take (hr.mono (by decide)) pass0 (pa_cons (pv 0) (pa_cons pe_int pa_nil))) (fun _ _ => rfl))))))))), ?_⟩
  refine ⟨by show 0 ≤ sizeLine; decide, fun p0 h0 => ?_⟩
  refine ⟨3, rfl, by decide, by decide, for_range (lo := 0) (n := 3) (fun i σ H' => ∃ v z, σ = [some (.ref b), some v, z, none] ∧ Go b H H' ∧ Da K (hid b H') v (nestL i)) ⟨_, _, rfl, (Go.refl hb).new h0, da_newL hb .nil h0⟩ ?_ ?_⟩
  · rintro i σ H' hi ⟨v, z, rfl, g, hd⟩
    refine ⟨_, rfl, by show 1 ≤ sizeLine; decide, fun p hp => ?_⟩
    exact ⟨_, _, rfl, g.new hp, da_newL g.bag (.cons hd .nil) hp⟩
  rintro σ H0 ⟨dv, z, rfl, g0, hdeep⟩
  refine ⟨_, rfl, _, _, rfl, rfl, cp10 (by decide) (by decide), _, _, rfl, rfl, cp10 (by decide) (by decide), _, _, rfl, rfl, _, _, rfl, rfl, cp10 (by decide) (by decide), _, _, rfl, rfl, cp10 (by decide) (by decide), _, _, rfl, rfl, _, _, rfl, rfl, cp10 (by decide) (by decide), _, rfl, by show 15 ≤ sizeLine; decide, fun pa ha => ?_⟩
  have na := g0.bag.ne ha
  have dA : DaL K (hid b H0) oddVA oddA := by
    unfold oddA
    repeat first | exact .nil | refine .cons (by first | exact .int _ | exact .bl _ | exact .non | exact .str _) ?_
  have gA := g0.new (o := .lst oddVA) ha
  have tA : Go b H0 (upd H0 pa (.lst oddVA)) := (Go.refl g0.bag).new ha
  have hA : upd H0 pa (.lst oddVA) pa = some _ := upd_same
  generalize upd H0 pa (HO.lst oddVA) = H1 at gA tA hA ⊢
  refine ⟨_, rfl, ?_⟩
  refine ⟨by show 0 ≤ sizeLine; decide, fun q2 e2 => ?_⟩
  have d2 := da_newT (K := K) (vs := []) (ds := []) gA.bag .nil e2
  have g2 := gA.new (o := .tup []) e2
  have t2 := Go.of gA.bag (same_new (o := .tup []) e2)
  generalize upd H1 q2 (HO.tup []) = H2 at d2 g2 t2 ⊢
  refine ⟨by show 1 ≤ sizeLine; decide, fun q3 e3 => ?_⟩
  have d3 := da_newT (K := K) (vs := [V.int 0]) (ds := [PyData.int 0]) g2.bag (.cons (.int _) .nil) e3
  have g3 := g2.new (o := .tup [V.int 0]) e3
  have t3 := Go.of g2.bag (same_new (o := .tup [V.int 0]) e3)
  generalize upd H2 q3 (HO.tup [V.int 0]) = H3 at d3 g3 t3 ⊢
  refine ⟨by show 2 ≤ sizeLine; decide, fun q4 e4 => ?_⟩
  have d4 := da_newT (K := K) (vs := [V.int 0, V.int 1]) (ds := [PyData.int 0, PyData.int 1]) g3.bag (.cons (.int _) (.cons (.int _) .nil)) e4
  have g4 := g3.new (o := .tup [V.int 0, V.int 1]) e4
  have t4 := Go.of g3.bag (same_new (o := .tup [V.int 0, V.int 1]) e4)
  generalize upd H3 q4 (HO.tup [V.int 0, V.int 1]) = H4 at d4 g4 t4 ⊢
  refine ⟨by show 3 ≤ sizeLine; decide, fun q5 e5 => ?_⟩
  have d5 := da_newT (K := K) (vs := [V.int 0, V.int 1, V.int 2]) (ds := [PyData.int 0, PyData.int 1, PyData.int 2]) g4.bag (.cons (.int _) (.cons (.int _) (.cons (.int _) .nil))) e5
  have g5 := g4.new (o := .tup [V.int 0, V.int 1, V.int 2]) e5
  have t5 := Go.of g4.bag (same_new (o := .tup [V.int 0, V.int 1, V.int 2]) e5)
  generalize upd H4 q5 (HO.tup [V.int 0, V.int 1, V.int 2]) = H5 at d5 g5 t5 ⊢
  refine ⟨by show 2 ≤ sizeLine; decide, fun q6 e6 => ?_⟩
  have d6 := da_newT (K := K) (vs := [V.int 1, V.int 0]) (ds := [PyData.int 1, PyData.int 0]) g5.bag (.cons (.int _) (.cons (.int _) .nil)) e6
  have g6 := g5.new (o := .tup [V.int 1, V.int 0]) e6
  have t6 := Go.of g5.bag (same_new (o := .tup [V.int 1, V.int 0]) e6)
  generalize upd H5 q6 (HO.tup [V.int 1, V.int 0]) = H6 at d6 g6 t6 ⊢
  refine ⟨by show 0 ≤ sizeLine; decide, fun q7 e7 => ?_⟩
  have d7 := da_newL (K := K) (vs := []) (ds := []) g6.bag .nil e7
  have g7 := g6.new (o := .lst []) e7
  have t7 := Go.of g6.bag (same_new (o := .lst []) e7)
  generalize upd H6 q7 (HO.lst []) = H7 at d7 g7 t7 ⊢
  refine ⟨by show 1 ≤ sizeLine; decide, fun q8 e8 => ?_⟩
  have d8 := da_newL (K := K) (vs := [V.int 0]) (ds := [PyData.int 0]) g7.bag (.cons (.int _) .nil) e8
  have g8 := g7.new (o := .lst [V.int 0]) e8
  have t8 := Go.of g7.bag (same_new (o := .lst [V.int 0]) e8)
  generalize upd H7 q8 (HO.lst [V.int 0]) = H8 at d8 g8 t8 ⊢
  refine ⟨by show 2 ≤ sizeLine; decide, fun q9 e9 => ?_⟩
  have d9 := da_newL (K := K) (vs := [V.int 0, V.int 1]) (ds := [PyData.int 0, PyData.int 1]) g8.bag (.cons (.int _) (.cons (.int _) .nil)) e9
  have g9 := g8.new (o := .lst [V.int 0, V.int 1]) e9
  have t9 := Go.of g8.bag (same_new (o := .lst [V.int 0, V.int 1]) e9)
  generalize upd H8 q9 (HO.lst [V.int 0, V.int 1]) = H9 at d9 g9 t9 ⊢
  refine ⟨by show 2 ≤ sizeLine; decide, fun q10 e10 => ?_⟩
  have d10 := da_newL (K := K) (vs := [V.int 0, V.int 1]) (ds := [PyData.int 0, PyData.int 1]) g9.bag (.cons (.int _) (.cons (.int _) .nil)) e10
  have g10 := g9.new (o := .lst [V.int 0, V.int 1]) e10
  have t10 := Go.of g9.bag (same_new (o := .lst [V.int 0, V.int 1]) e10)
  generalize upd H9 q10 (HO.lst [V.int 0, V.int 1]) = H10 at d10 g10 t10 ⊢
  refine ⟨by show 1 ≤ sizeLine; decide, fun q11 e11 => ?_⟩
  have d11 := da_newL (K := K) (vs := [.ref q10]) (ds := [PyData.list [PyData.int 0, PyData.int 1]]) g10.bag (.cons d10 .nil) e11
  have g11 := g10.new (o := .lst [.ref q10]) e11
  have t11 := Go.of g10.bag (same_new (o := .lst [.ref q10]) e11)
  generalize upd H10 q11 (HO.lst [.ref q10]) = H11 at d11 g11 t11 ⊢
  refine fun q12 e12 => ?_
  have d12 : Da K (hid b (upd H11 q12 (.dK []))) (.ref q12) (.dict []) := .dct (by rw [hid_ne (g11.bag.ne e12)]; exact upd_same) .nil
  have g12 := g11.new (o := .dK []) e12
  have t12 := Go.of g11.bag (same_new (o := .dK []) e12)
  generalize upd H11 q12 (HO.dK []) = H12 at d12 g12 t12 ⊢
  refine fun q13 e13 => ?_
  refine ⟨upd_same, [(.inl 0, .int 1)], rfl, by decide, ?_⟩
  rw [upd_upd]
  have em : mergeK [] [((.inl 0 : Key), V.int 1)] = [(.inl 0, .int 1)] := rfl
  rw [em]
  have d13 : Da K (hid b (upd H12 q13 (.dK [(.inl 0, .int 1)]))) (.ref q13) (.dict [(PyData.int 0, PyData.int 1)]) := .dct (by rw [hid_ne (g12.bag.ne e13)]; exact upd_same) (.cons (.int 1) .nil)
  have g13 := g12.new (o := .dK [(.inl 0, .int 1)]) e13
  have t13 := Go.of g12.bag (same_new (o := .dK [(.inl 0, .int 1)]) e13)
  generalize upd H12 q13 (HO.dK [(.inl 0, .int 1)]) = H13 at d13 g13 t13 ⊢
  refine ⟨_, rfl, ?_⟩
  refine ⟨by show 1 ≤ sizeLine; decide, fun q14 e14 => ?_⟩
  have d14 := da_newL (K := K) (vs := [V.int 0]) (ds := [PyData.int 0]) g13.bag (.cons (.int _) .nil) e14
  have g14 := g13.new (o := .lst [V.int 0]) e14
  have t14 := Go.of g13.bag (same_new (o := .lst [V.int 0]) e14)
  have hz := @upd_same H13 q14 (.lst [V.int 0])
  generalize upd H13 q14 (HO.lst [V.int 0]) = H14 at d14 g14 t14 hz ⊢
  have hz14 : H14 q14 = some (.lst [V.int 0]) := hz
  refine ⟨q14, 2000, _, rfl, rfl, hz14, by decide, by decide, by decide, fun q15 e15 => ?_⟩
  have er : (List.replicate (2000 : Int).toNat [V.int 0]).flatten = List.replicate 2000 (V.int 0) := flat_rep _ _
  rw [er]
  have d15 := da_newL (K := K) g14.bag (DaL.rep (.int 0) 2000) e15
  have g15 := g14.new (o := .lst (List.replicate 2000 (V.int 0))) e15
  have t15 := Go.of g14.bag (same_new (o := .lst (List.replicate 2000 (V.int 0))) e15)
  generalize upd H14 q15 (HO.lst (List.replicate 2000 (V.int 0))) = H15 at d15 g15 t15 ⊢
  have T15 := Go.refl g15.bag
  have T14 := t15.trans T15
  have T13 := t14.trans T14
  have T12 := t13.trans T13
  have T11 := t12.trans T12
  have T10 := t11.trans T11
  have T9 := t10.trans T10
  have T8 := t9.trans T9
  have T7 := t8.trans T8
  have T6 := t7.trans T7
  have T5 := t6.trans T6
  have T4 := t5.trans T5
  have T3 := t4.trans T4
  have T2 := t3.trans T3
  have T1 := t2.trans T2
  have T0 := tA.trans T1
  have dB : DaL K (hid b H15) [V.ref q2, V.ref q3, V.ref q4, V.ref q5, V.ref q6, V.ref q7, V.ref q8, V.ref q9, V.ref q11, V.ref q12, V.ref q13, dv, V.ref q15] oddB := (.cons (T2.da d2) (.cons (T3.da d3) (.cons (T4.da d4) (.cons (T5.da d5) (.cons (T6.da d6) (.cons (T7.da d7) (.cons (T8.da d8) (.cons (T9.da d9) (.cons (T11.da d11) (.cons (T12.da d12) (.cons (T13.da d13) (.cons (T0.da hdeep) (.cons (T15.da d15) .nil)))))))))))))
  refine ⟨by show 13 ≤ sizeLine; decide, fun pb hpb => ?_⟩
  have nb := g15.bag.ne hpb
  have t16 := Go.of g15.bag (same_new (o := .lst [V.ref q2, V.ref q3, V.ref q4, V.ref q5, V.ref q6, V.ref q7, V.ref q8, V.ref q9, V.ref q11, V.ref q12, V.ref q13, dv, V.ref q15]) hpb)
  have hB : upd H15 pb (.lst [V.ref q2, V.ref q3, V.ref q4, V.ref q5, V.ref q6, V.ref q7, V.ref q8, V.ref q9, V.ref q11, V.ref q12, V.ref q13, dv, V.ref q15]) pb = some _ := upd_same
  have g16 := g15.new (o := .lst [V.ref q2, V.ref q3, V.ref q4, V.ref q5, V.ref q6, V.ref q7, V.ref q8, V.ref q9, V.ref q11, V.ref q12, V.ref q13, dv, V.ref q15]) hpb
  generalize upd H15 pb (HO.lst [V.ref q2, V.ref q3, V.ref q4, V.ref q5, V.ref q6, V.ref q7, V.ref q8, V.ref q9, V.ref q11, V.ref q12, V.ref q13, dv, V.ref q15]) = H16 at t16 hB g16 ⊢
  have T1' := T1.trans t16
  refine ⟨pa, pb, _, _, rfl, rfl, T1'.get hA na, hB, by show 15 + 13 ≤ sizeLine; decide, fun pc hpc => ?_⟩
  have nc := g16.bag.ne hpc
  have dC := ((tA.trans T1').dal dA).app (t16.dal dB)
  have hC := @upd_same H16 pc (.lst (oddVA ++ [V.ref q2, V.ref q3, V.ref q4, V.ref q5, V.ref q6, V.ref q7, V.ref q8, V.ref q9, V.ref q11, V.ref q12, V.ref q13, dv, V.ref q15]))
  have gC := g16.new (o := .lst (oddVA ++ [V.ref q2, V.ref q3, V.ref q4, V.ref q5, V.ref q6, V.ref q7, V.ref q8, V.ref q9, V.ref q11, V.ref q12, V.ref q13, dv, V.ref q15])) hpc
  have dC' := (Go.of g16.bag (same_new (o := .lst (oddVA ++ [V.ref q2, V.ref q3, V.ref q4, V.ref q5, V.ref q6, V.ref q7, V.ref q8, V.ref q9, V.ref q11, V.ref q12, V.ref q13, dv, V.ref q15])) hpc)).dal dC
  refine ⟨_, rfl, _, _, rfl, rfl, mul99, by show 1 ≤ sizeLine; decide, fun pd hpd => ?_⟩
  have gD := gC.new (o := .lst [V.str (Txt.mul "a" 99)]) hpd
  have tD := Go.of gC.bag (same_new (o := .lst [V.str (Txt.mul "a" 99)]) hpd)
  refine ⟨pc, pd, _, _, rfl, rfl, tD.get hC nc, upd_same, by show 28 + 1 ≤ sizeLine; decide, fun pe hpe => ?_⟩
  have ne := gD.bag.ne hpe
  have gE := gD.new (o := .lst ((oddVA ++ [V.ref q2, V.ref q3, V.ref q4, V.ref q5, V.ref q6, V.ref q7, V.ref q8, V.ref q9, V.ref q11, V.ref q12, V.ref q13, dv, V.ref q15]) ++ [V.str (Txt.mul "a" 99)])) hpe
  have dE := (Go.of gD.bag (same_new (o := .lst ((oddVA ++ [V.ref q2, V.ref q3, V.ref q4, V.ref q5, V.ref q6, V.ref q7, V.ref q8, V.ref q9, V.ref q11, V.ref q12, V.ref q13, dv, V.ref q15]) ++ [V.str (Txt.mul "a" 99)])) hpe)).dal ((tD.dal dC').app (.cons (.str (Txt.mul "a" 99)) .nil))
  refine ⟨_, rfl, _, rfl, b, _, rfl, gE.bag, by decide, by decide, fun v HF v0 v1 gF => ?_⟩
  obtain ⟨x, d, ex, hm, _, hx⟩ := (gF.dal dE).pick v0 (by simpa [oddA, oddB] using v1)
  refine ⟨pe, _, _, _, rfl, rfl, SqL.of (gF.get upd_same ne), ex, ?_⟩
  obtain ⟨s1, s2⟩ := odd_ok d hm
  exact k x d HF (gE.trans gF) hx s1 s2

abbrev s__law_whole : Stmt := top 19
abbrev sc__law_whole_N : List Str := ["_law_thing", "_law_least", "_law_most"]
theorem sc__law_whole : FnScope sc__law_whole_N ["_law_thing", "_law_least", "_law_most"] (defScope s__law_whole) := ⟨rfl, rfl, rfl, by decide +kernel, rfl, by decide +kernel, by decide +kernel⟩
theorem ok__law_whole (D : Def K mg "_law_whole" s__law_whole ["_law_thing", "_law_least", "_law_most"]) (B : Blt mg) : Cal P w K mg base CX0 1 "_law_whole" ["_law_thing", "_law_least", "_law_most"] (sp_is_between K) := by
  refine D.ok sc__law_whole (fun vs H Q E h => by obtain ⟨v, d, lo, hi, rfl, _⟩ := h; rfl) (fun f cdv A out s H vs Q E hr h => ?_)
  obtain ⟨v, d, lo, hi, rfl, hd, k⟩ := h
  refine ⟨_, (pss_one (ps_ret (pe_and (pe_callB (kisi K) (by rfl) B.isinstance (by decide +kernel) (pa_cons (pv 0) (pa_cons (pe_ty (n := "int") B.int (by decide +kernel)) pa_nil))) (pe_and (pe_not (pe_callB (kisi K) (by rfl) B.isinstance (by decide +kernel) (pa_cons (pv 0) (pa_cons (pe_ty (n := "bool") B.bool (by decide +kernel)) pa_nil)))) (pe_one (pe_chain op_le op_le (pv 1) (pv 0) (pv 2))))))), ?_⟩
  refine ⟨_, rfl, _, _, _, _, _, rfl, .ty "int", hd.ty, kit_int d, _, rfl, ?_⟩
  cases d with
  | int i =>
    refine iteT ⟨_, rfl, _, _, _, _, _, rfl, .ty "bool", hd.ty, kit_bool (.int i), _, rfl, _, rfl, ?_⟩
    cases hd
    refine iteT ⟨_, rfl, _, rfl, _, _, rfl, rfl, _, rfl, ?_⟩
    refine ite2 (fun h1 => ?_) (fun h1 => ?_)
    · refine ⟨_, rfl, _, _, rfl, rfl, ?_⟩
      rw [betw, h1] at k
      exact k
    · rw [betw, eq_false_of_ne_true h1] at k
      exact k
  | bool b => exact iteT ⟨_, rfl, _, _, _, _, _, rfl, .ty "bool", hd.ty, kit_bool (.bool b), _, rfl, _, rfl, iteF k⟩
  | _ => exact iteF k

abbrev s__law_is_bound : Stmt := top 20
abbrev sc__law_is_bound_N : List Str := ["_law_thing"]
theorem sc__law_is_bound : FnScope sc__law_is_bound_N ["_law_thing"] (defScope s__law_is_bound) := ⟨rfl, rfl, rfl, by decide +kernel, rfl, by decide +kernel, by decide +kernel⟩
theorem ok__law_is_bound (D : Def K mg "_law_is_bound" s__law_is_bound ["_law_thing"]) (B : Blt mg) (c__law_whole : Cal P w K mg base CX0 1 "_law_whole" ["_law_thing", "_law_least", "_law_most"] (sp_is_between K)) : Cal P w K mg base CX0 2 "_law_is_bound" ["_law_thing"] (sp_is_bound K) := by
  refine D.ok sc__law_is_bound (fun vs H Q E h => by obtain ⟨v, d, rfl, _⟩ := h; rfl) (fun f cdv A out s H vs Q E hr h => ?_)
  obtain ⟨v, d, rfl, hd, k⟩ := h
  refine ⟨_, (pss_cons (ps_if (PW.pt (pw_or (pt_not (pt_val (pe_callB (kisi K) (by rfl) B.isinstance (by decide +kernel) (pa_cons (pv 0) (pa_cons (pe_ty (n := "tuple") B.tuple (by decide +kernel)) pa_nil))))) (pw_or1 (pt_cmpR op_ne (pe_callB (klen K) (by rfl) B.len (by decide +kernel) (pa_cons (pv 0) pa_nil)) pe_int (nomark _)))))
      (pss_one (ps_ret pe_bl))
      pss_nil)
      (pss_one (ps_ret (pe_and (pe_c c__law_whole (hr.mono (by decide)) pass0 (pa_cons (pe_ix (kixT K) (pv 0) pe_int (fun _ _ => rfl)) (pa_cons pe_int (pa_cons (pe_op op_pow pe_int pe_int) pa_nil)))) (pe_one (pe_c c__law_whole (hr.mono (by decide)) pass0 (pa_cons (pe_ix (kixT K) (pv 0) pe_int (fun _ _ => rfl)) (pa_cons (pe_ix (kixT K) (pv 0) pe_int (fun _ _ => rfl)) (pa_cons (pe_op op_pow pe_int pe_int) pa_nil))))))))), ?_⟩
  refine ⟨_, rfl, _, _, _, _, _, rfl, .ty "tuple", hd.ty, kit_tuple d, _, rfl, ?_⟩
  cases d with
  | tuple ds =>
    cases hd with
    | @tup a xs _ hS hL =>
      have hl := hL.len
      refine iteF ⟨_, rfl, _, _, rfl, Or.inr ⟨_, hS, rfl⟩, rfl, _, rfl, ?_⟩
      by_cases h2 : ds.length = 2
      · rw [hl, h2]
        refine iteNS rfl ?_
        obtain ⟨x, y, rfl⟩ : ∃ x y, ds = [x, y] := by
          match ds, h2 with
          | [x, y], _ => exact ⟨x, y, rfl⟩
        obtain ⟨u0, e0, d0⟩ := hL.get (i := 0) rfl
        obtain ⟨u1, e1, d1⟩ := hL.get (i := 1) rfl
        refine ⟨_, rfl, a, _, 0, u0, rfl, rfl, hS, atI_nat (j := 0) e0, _, _, rfl, rfl, cp10 (by decide) (by decide), u0, x, _, _, rfl, d0, _, rfl, ?_⟩
        have e30 : (10 : Int) ^ (30 : Int).toNat = 1000000000000000000000000000000 := by decide
        rw [e30]
        have hk : isBoundD (.tuple [x, y]) = (betw x 0 1000000000000000000000000000000 && (betw y 0 1000000000000000000000000000000 && leD x y)) := rfl
        rw [hk] at k
        cases hx : betw x 0 1000000000000000000000000000000 with
        | false => rw [hx] at k; exact iteF k
        | true =>
          rw [hx] at k
          obtain ⟨i, rfl⟩ := betw_int hx
          cases d0
          refine iteT ⟨_, rfl, a, _, 1, u1, rfl, rfl, hS, atI_nat (j := 1) e1, _, rfl, a, _, 0, _, rfl, rfl, hS, atI_nat (j := 0) e0, _, _, rfl, rfl, cp10 (by decide) (by decide), u1, y, _, _, rfl, d1, ?_⟩
          have hq : betw y i 1000000000000000000000000000000 = (true && (betw y 0 1000000000000000000000000000000 && leD (.int i) y)) := by
            simp only [betw, Bool.and_eq_true, decide_eq_true_eq] at hx
            cases y with
            | int j =>
              simp only [betw, leD, Bool.true_and]
              rw [Bool.eq_iff_iff]
              simp only [Bool.and_eq_true, decide_eq_true_eq]
              omega
            | _ => rfl
          rw [e30, hq]
          exact k
      · rw [isBoundD_len h2] at k
        rw [hl, len_ne (by omega)]
        exact iteT k
  | _ => exact iteT k

abbrev s__law_are_bounds : Stmt := top 21
abbrev sc__law_are_bounds_N : List Str := ["_law_thing", "_law_bound"]
theorem sc__law_are_bounds : FnScope sc__law_are_bounds_N ["_law_thing"] (defScope s__law_are_bounds) := ⟨rfl, rfl, rfl, by decide +kernel, rfl, by decide +kernel, by decide +kernel⟩
theorem ok__law_are_bounds (D : Def K mg "_law_are_bounds" s__law_are_bounds ["_law_thing"]) (B : Blt mg) (c__law_is_bound : Cal P w K mg base CX0 2 "_law_is_bound" ["_law_thing"] (sp_is_bound K)) : Cal P w K mg base CX0 3 "_law_are_bounds" ["_law_thing"] (sp_are_bounds K) := by
  refine D.ok sc__law_are_bounds (fun vs H Q E h => by obtain ⟨v, d, rfl, _⟩ := h; rfl) (fun f cdv A out s H vs Q E hr h => ?_)
  obtain ⟨v, d, rfl, hd, k⟩ := h
  refine ⟨_, (pss_cons (ps_if (PW.pt (pw_or (pt_not (pt_val (pe_callB (kisi K) (by rfl) B.isinstance (by decide +kernel) (pa_cons (pv 0) (pa_cons (pe_ty (n := "list") B.list (by decide +kernel)) pa_nil))))) (pw_or1 (pt_not (pt_chain op_le op_le pe_int (pe_callB (klen K) (by rfl) B.len (by decide +kernel) (pa_cons (pv 0) pa_nil)) pe_int)))))
      (pss_one (ps_ret pe_bl))
      pss_nil)
      (pss_one (ps_ret (pe_callB (kall K) (by rfl) B.all (by decide +kernel) (pa_cons (pe_lc (own := [("_law_bound", 1)]) (g := (gName 1)) (tt := tYes) rfl sc__law_are_bounds.nd (pi_list (pv 0)) (blkOk_by (own := [("_law_bound", 1)]) (N := sc__law_are_bounds_N) (sc := defScope s__law_are_bounds) (by decide +kernel)) (fun _ _ _ _ _ => (pg_name (i := 1) sc__law_are_bounds.nd rfl (Or.inl rfl))) (fun _ _ _ _ _ => pts_nil) (fun _ _ _ _ _ => (pe_c c__law_is_bound (hr.mono (by decide)) pass0 (pa_cons (pv 1) pa_nil)))) pa_nil))))), ?_⟩
  refine ⟨_, rfl, _, _, _, _, _, rfl, .ty "list", hd.ty, kit_list d, _, rfl, ?_⟩
  cases d with
  | list ds =>
    cases hd with
    | @lst a xs _ hS hL =>
      have hl := hL.len
      refine iteF ⟨_, rfl, _, _, rfl, Or.inl ⟨_, hS, rfl⟩, _, _, rfl, rfl, _, rfl, ?_⟩
      have hk : areBoundsD (.list ds) = (decide (2 ≤ ds.length) && decide (ds.length ≤ 10) && ds.all isBoundD) := rfl
      rw [hk] at k
      rw [hl]
      by_cases h2 : 2 ≤ ds.length
      · rw [decide_eq_true (show (2 : Int) ≤ ((ds.length : Nat) : Int) by omega)]
        refine iteT ⟨_, _, rfl, rfl, _, rfl, ?_⟩
        by_cases h10 : ds.length ≤ 10
        · rw [decide_eq_true (show ((ds.length : Nat) : Int) ≤ 10 by omega)]
          rw [decide_eq_true h2, decide_eq_true h10] at k
          refine iteF ⟨_, rfl, a, rfl, ⟨_, hS⟩, fun L hD => ?_⟩
          refine lc_map (xs := xs) (ys := (ds.map isBoundD).map V.bl) hS hD (by simp [hl]) (by omega) (fun x => rfl) (fun i x y hx hy H1 e1 Q1 q1 => ?_) (fun H1 e1 hD1 => ?_)
          · obtain ⟨d, ed, hd⟩ := hL.getV hx
            rw [List.getElem?_map, List.getElem?_map, ed] at hy
            cases hy
            exact ⟨_, rfl, x, d, rfl, hd.mono e1, q1 H1 (Same.refl _)⟩
          · refine ⟨L, _, rfl, SqL.of hD1, ?_⟩
            rw [boolAll]
            exact k H1 e1
        · rw [decide_eq_false (show ¬ ((ds.length : Nat) : Int) ≤ 10 by omega)]
          rw [decide_eq_true h2, decide_eq_false h10] at k
          exact iteT (k H (Same.refl _))
      · rw [decide_eq_false (show ¬ (2 : Int) ≤ ((ds.length : Nat) : Int) by omega)]
        rw [decide_eq_false h2] at k
        exact iteF ⟨_, rfl, iteT (k H (Same.refl _))⟩
  | _ => exact iteT (k H (Same.refl _))

abbrev s__law_is_bundle : Stmt := top 22
abbrev sc__law_is_bundle_N : List Str := ["_law_thing", "_law_size"]
theorem sc__law_is_bundle : FnScope sc__law_is_bundle_N ["_law_thing", "_law_size"] (defScope s__law_is_bundle) := ⟨rfl, rfl, rfl, by decide +kernel, rfl, by decide +kernel, by decide +kernel⟩
theorem ok__law_is_bundle (D : Def K mg "_law_is_bundle" s__law_is_bundle ["_law_thing", "_law_size"]) (B : Blt mg) (c__law_whole : Cal P w K mg base CX0 1 "_law_whole" ["_law_thing", "_law_least", "_law_most"] (sp_is_between K)) : Cal P w K mg base CX0 2 "_law_is_bundle" ["_law_thing", "_law_size"] (sp_is_bundle K) := by
  refine D.ok sc__law_is_bundle (fun vs H Q E h => by obtain ⟨v, d, n, rfl, _⟩ := h; rfl) (fun f cdv A out s H vs Q E hr h => ?_)
  obtain ⟨v, d, n, rfl, hd, k⟩ := h
  refine ⟨_, (pss_cons (ps_if (PW.pt (pw_or (pt_not (pt_val (pe_callB (kisi K) (by rfl) B.isinstance (by decide +kernel) (pa_cons (pv 0) (pa_cons (pe_ty (n := "tuple") B.tuple (by decide +kernel)) pa_nil))))) (pw_or (pt_cmpR op_ne (pe_callB (klen K) (by rfl) B.len (by decide +kernel) (pa_cons (pv 0) pa_nil)) pe_int (nomark _)) (pw_or1 (pt_not (pt_val (pe_c c__law_whole (hr.mono (by decide)) pass0 (pa_cons (pe_ix (kixT K) (pv 0) pe_int (fun _ _ => rfl)) (pa_cons pe_int (pa_cons (pe_op op_pow pe_int pe_int) pa_nil))))))))))
      (pss_one (ps_ret pe_bl))
      pss_nil)
      (pss_one (ps_ret (pe_and (pe_c c__law_whole (hr.mono (by decide)) pass0 (pa_cons (pe_ix (kixT K) (pv 0) pe_int (fun _ _ => rfl)) (pa_cons pe_int (pa_cons (pe_op op_sub (pv 1) pe_int) pa_nil)))) (pe_and (pe_c c__law_whole (hr.mono (by decide)) pass0 (pa_cons (pe_ix (kixT K) (pv 0) pe_int (fun _ _ => rfl)) (pa_cons pe_int (pa_cons (pe_op op_sub (pv 1) pe_int) pa_nil)))) (pe_one (pe_cmpR op_lt (pe_ix (kixT K) (pv 0) pe_int (fun _ _ => rfl)) (pe_ix (kixT K) (pv 0) pe_int (fun _ _ => rfl)) (nomark _)))))))), ?_⟩
  refine ⟨_, rfl, _, _, _, _, _, rfl, .ty "tuple", hd.ty, kit_tuple d, _, rfl, ?_⟩
  cases d with
  | tuple ds =>
    cases hd with
    | @tup a xs _ hS hL =>
      have hl := hL.len
      refine iteF ⟨_, rfl, _, _, rfl, Or.inr ⟨_, hS, rfl⟩, rfl, _, rfl, ?_⟩
      by_cases h3 : ds.length = 3
      · rw [hl, h3]
        refine iteNS rfl ?_
        obtain ⟨x, y, z, rfl⟩ : ∃ x y z, ds = [x, y, z] := by
          match ds, h3 with
          | [x, y, z], _ => exact ⟨x, y, z, rfl⟩
        obtain ⟨u0, e0, d0⟩ := hL.get (i := 0) rfl
        obtain ⟨u1, e1, d1⟩ := hL.get (i := 1) rfl
        obtain ⟨u2, e2, d2⟩ := hL.get (i := 2) rfl
        refine ⟨_, rfl, a, _, 2, u2, rfl, rfl, hS, atI_nat (j := 2) e2, _, _, rfl, rfl, cp10 (by decide) (by decide), u2, z, _, _, rfl, d2, _, rfl, ?_⟩
        have e18 : (10 : Int) ^ (18 : Int).toNat = 1000000000000000000 := by decide
        rw [e18]
        have hk : isBundleD n (.tuple [x, y, z]) = (betw z 1 1000000000000000000 && (betw x 0 (n - 1) && (betw y 0 (n - 1) && ltD x y))) := rfl
        rw [hk] at k
        cases hz : betw z 1 1000000000000000000 with
        | false => rw [hz] at k; exact iteT k
        | true =>
          rw [hz] at k
          refine iteF ⟨_, rfl, a, _, 0, u0, rfl, rfl, hS, atI_nat (j := 0) e0, _, rfl, _, _, rfl, rfl, u0, x, _, _, rfl, d0, _, rfl, ?_⟩
          cases hx : betw x 0 (n - 1) with
          | false => rw [hx] at k; exact iteF k
          | true =>
            rw [hx] at k
            refine iteT ⟨_, rfl, a, _, 1, u1, rfl, rfl, hS, atI_nat (j := 1) e1, _, rfl, _, _, rfl, rfl, u1, y, _, _, rfl, d1, _, rfl, ?_⟩
            cases hy : betw y 0 (n - 1) with
            | false => rw [hy] at k; exact iteF k
            | true =>
              rw [hy] at k
              obtain ⟨i, rfl⟩ := betw_int hx
              obtain ⟨j, rfl⟩ := betw_int hy
              cases d0
              cases d1
              exact iteT ⟨_, rfl, a, _, 0, _, rfl, rfl, hS, atI_nat (j := 0) e0, _, rfl, a, _, 1, _, rfl, rfl, hS, atI_nat (j := 1) e1, _, _, rfl, rfl, k⟩
      · rw [isBundleD_len h3] at k
        rw [hl, len_ne (by omega)]
        exact iteT k
  | _ => exact iteT k

abbrev s__law_are_bundles : Stmt := top 23
abbrev sc__law_are_bundles_N : List Str := ["_law_thing", "_law_size", "_law_pairs", "_law_row", "_law_pair"]
theorem sc__law_are_bundles : FnScope sc__law_are_bundles_N ["_law_thing", "_law_size"] (defScope s__law_are_bundles) := ⟨rfl, rfl, rfl, by decide +kernel, rfl, by decide +kernel, by decide +kernel⟩
theorem ok__law_are_bundles (D : Def K mg "_law_are_bundles" s__law_are_bundles ["_law_thing", "_law_size"]) (B : Blt mg) (c__law_is_bundle : Cal P w K mg base CX0 2 "_law_is_bundle" ["_law_thing", "_law_size"] (sp_is_bundle K)) : Cal P w K mg base CX0 3 "_law_are_bundles" ["_law_thing", "_law_size"] (sp_are_bundles K) := by
  refine D.ok sc__law_are_bundles (fun vs H Q E h => by obtain ⟨v, d, n, rfl, _⟩ := h; rfl) (fun f cdv A out s H vs Q E hr h => ?_)
  obtain ⟨v, d, n, rfl, hd, k⟩ := h
  refine ⟨_, (pss_cons (ps_if (PW.pt (pw_or (pt_not (pt_val (pe_callB (kisi K) (by rfl) B.isinstance (by decide +kernel) (pa_cons (pv 0) (pa_cons (pe_ty (n := "list") B.list (by decide +kernel)) pa_nil))))) (pw_or (pt_cmpR op_gt (pe_callB (klen K) (by rfl) B.len (by decide +kernel) (pa_cons (pv 0) pa_nil)) pe_int (nomark _)) (pw_or1 (pt_not (pt_val (pe_callB (kall K) (by rfl) B.all (by decide +kernel) (pa_cons (pe_lc (own := [("_law_row", 3)]) (g := (gName 3)) (tt := tYes) rfl sc__law_are_bundles.nd (pi_list (pv 0)) (blkOk_by (own := [("_law_row", 3)]) (N := sc__law_are_bundles_N) (sc := defScope s__law_are_bundles) (by decide +kernel)) (fun _ _ _ _ _ => (pg_name (i := 3) sc__law_are_bundles.nd rfl (Or.inl rfl))) (fun _ _ _ _ _ => pts_nil) (fun _ _ _ _ _ => (pe_c c__law_is_bundle (hr.mono (by decide)) pass0 (pa_cons (pv 3) (pa_cons (pv 1) pa_nil))))) pa_nil))))))))
      (pss_one (ps_ret pe_bl))
      pss_nil)
      (pss_cons (ps_set (i := 2) sc__law_are_bundles.nd rfl (Or.inr rfl) (pe_lc (own := [("_law_row", 3)]) (g := (gName 3)) (tt := tYes) rfl sc__law_are_bundles.nd (pi_list (pv 0)) (blkOk_by (own := [("_law_row", 3)]) (N := sc__law_are_bundles_N) (sc := defScope s__law_are_bundles) (by decide +kernel)) (fun _ _ _ _ _ => (pg_name (i := 3) sc__law_are_bundles.nd rfl (Or.inl rfl))) (fun _ _ _ _ _ => pts_nil) (fun _ _ _ _ _ => (pe_slice (kslT K) (pv 3) po_none (po_some pe_int)))))
      (pss_one (ps_ret (pe_cmpR (keq K hr.units) (pe_lc (own := [("_law_pair", 4)]) (g := (gName 4)) rfl sc__law_are_bundles.nd (pi_list (pv 2)) (blkOk_by (own := [("_law_pair", 4)]) (N := sc__law_are_bundles_N) (sc := defScope s__law_are_bundles) (by decide +kernel)) (fun _ _ _ _ _ => (pg_name (i := 4) sc__law_are_bundles.nd rfl (Or.inl rfl))) (fun _ _ _ _ _ => (pts_one (pt_cmpR op_gt (kbm K PySem.F.plainAttrs_list PySem.F.slot_list_count PySem.F.type_list_count (kcount K (u65 hr)) (pv 2) (pa_cons (pv 4) pa_nil)) pe_int (nomark _)))) (fun _ _ _ _ _ => (pv 4))) (pe_lst pa_nil) (nomark _)))))), ?_⟩
  refine ⟨_, rfl, _, _, _, _, _, rfl, .ty "list", hd.ty, kit_list d, _, rfl, ?_⟩
  cases d with
  | list ds =>
    cases hd with
    | @lst a xs _ hS hL =>
      have hl := hL.len
      refine iteF ⟨_, rfl, _, _, rfl, Or.inl ⟨_, hS, rfl⟩, _, _, rfl, rfl, _, rfl, ?_⟩
      have hk : areBundlesD n (.list ds) = (decide (ds.length ≤ 45) && ds.all (isBundleD n) && decide ((ds.map pairOf).Nodup)) := rfl
      rw [hk] at k
      rw [hl]
      by_cases h45 : ds.length ≤ 45
      · rw [decide_eq_false (show ¬ ((ds.length : Nat) : Int) > 45 by omega)]
        rw [decide_eq_true h45] at k
        refine iteF ⟨_, rfl, a, rfl, ⟨_, hS⟩, fun L hD => ?_⟩
        refine lc_map (xs := xs) (ys := (ds.map (isBundleD n)).map V.bl) hS hD (by simp [hl]) (by omega) (fun x => rfl) (fun i x y hx hy H1 e1 Q1 q1 => ?_) (fun H1 e1 hD1 => ?_)
        · obtain ⟨d, ed, hd⟩ := hL.getV hx
          rw [List.getElem?_map, List.getElem?_map, ed] at hy
          cases hy
          exact ⟨_, rfl, _, rfl, x, d, n, rfl, hd.mono e1, q1 H1 (Same.refl _)⟩
        · refine ⟨L, _, rfl, SqL.of hD1, _, rfl, ?_⟩
          rw [boolAll]
          cases ha : ds.all (isBundleD n) with
          | false => rw [ha] at k; exact iteT (k H1 e1)
          | true =>
            rw [ha] at k
            have hall := List.all_eq_true.mp ha
            refine iteF ⟨_, rfl, a, rfl, ⟨_, sql_up e1 hS⟩, fun M hM => ?_⟩
            refine lc_da (K := K) (walk_list (xs := xs)) (fun i => ((ds.map pairOf).map prI)[i]?) hM (by omega) (fun H2 e2 => sql_up (e1.trans e2) hS) ?_ ?_
            · rintro i x H2 H3 l hi e2 hl2 ⟨rfl, hx⟩ R1 R0 q1 q0
              obtain ⟨d, ed, hd⟩ := hL.getV hx
              obtain ⟨p, q, c, rfl, _⟩ := bundle_shape (hall d (List.mem_of_getElem? ed))
              have hd' := hd.mono (e1.trans e2)
              cases hd' with
              | @tup t us _ hT hU =>
                have eu : us = [V.int p, V.int q, V.int c] := DaL.unints (ns := [p, q, c]) hU
                subst eu
                refine ⟨rfl, ?_⟩
                unfold tYes
                refine iteT ⟨_, rfl, _, rfl, t, _, rfl, hT, (fun e => absurd e.2 (show ¬ min 2 3 = 3 by decide)), fun _ r hr' => ?_⟩
                refine q1 _ _ _ (by rw [List.getElem?_map, List.getElem?_map, ed]; rfl) (same_new hr') (.tup (.inl (.inl ?_)) (DaL.ints [p, q]))
                rw [hid_ne (fun e => by rw [e, hl2] at hr'; cases hr')]
                exact upd_same
            · intro H2 us e2 hus hda
              have en : xs.length = ((ds.map pairOf).map prI).length := by rw [List.length_map, List.length_map, hl]
              rw [en, fmD_get] at hda
              have hda2 := dal_of hda
              generalize hps : ds.map pairOf = ps at hda2 k
              have hpl : ps.length ≤ 45 := by rw [← hps, List.length_map]; exact h45
              refine ⟨_, rfl, M, rfl, ⟨_, SqL.of hus⟩, fun N hN => ?_⟩
              refine lc_da (K := K) (walk_list (xs := us)) (fun i => (((ps.map prI)[i]?).bind fun y => if (decide ((((ps.map prI).countP fun z => PyData.eqv z y : Nat) : Int) > 1)) = true then some y else none)) hN (by rw [hda2.len, List.length_map]; omega) (fun H3 e3 => SqL.of (e3 _ _ hus)) ?_ ?_
              · rintro i x H3 H4 l hi e3 hl3 ⟨rfl, hx⟩ R1 R0 q1 q0
                obtain ⟨d, ed, hd⟩ := hda2.getV hx
                rw [ed] at q1 q0
                dsimp only [Option.bind_some] at q1 q0
                obtain ⟨pp, _, rfl⟩ : ∃ pp, pp ∈ ps ∧ prI pp = d := by
                  have := List.mem_of_getElem? ed
                  exact List.mem_map.mp this
                refine ⟨rfl, _, rfl, .inl ⟨rfl, _, SqL.of (e3 _ _ hus)⟩, _, rfl, M, x, prI pp, ps.map prI, rfl, rfl, .lst (SqL.of (e3 _ _ hus)) (DaL.dp _ _ (lay_prs ps) (hda2.mono e3)), (hd.mono e3).dp _ _ (lay_pr pp), shaped_prs ps, shaped_pr pp, _, _, rfl, rfl, _, rfl, ?_⟩
                cases hb : decide ((((ps.map prI).countP fun z => PyData.eqv z (prI pp) : Nat) : Int) > 1) with
                | true =>
                  rw [hb] at q1
                  exact iteT ⟨_, rfl, q1 _ _ _ rfl (Same.refl _) (hd.mono (same_hid e3 hN))⟩
                | false =>
                  rw [hb] at q0
                  exact iteF (q0 rfl _ (Same.refl _))
              · intro H3 ws e3 hws hdw
                have en2 : us.length = (ps.map prI).length := hda2.len
                rw [en2, fmD_filter _ _ _ (Nat.le_refl _), List.take_length] at hdw
                refine ⟨by show 0 ≤ sizeLine; decide, fun O hO => ?_⟩
                have nNO : N ≠ O := ne_of_none hws hO
                have ef : (ps.map prI).filter (fun y => decide ((((ps.map prI).countP fun z => PyData.eqv z y : Nat) : Int) > 1)) = (ps.filter fun p => decide (((ps.count p : Nat) : Int) > 1)).map prI := by
                  rw [List.filter_map]
                  congr 1
                  apply List.filter_congr
                  intro p _
                  show decide ((((ps.map prI).countP fun z => PyData.eqv z (prI p) : Nat) : Int) > 1) = _
                  rw [count_prI]
                rw [ef] at hdw
                refine ⟨_, PyData.list [], .lst (SqL.of (by rw [upd_ne nNO]; exact hws)) (DaL.dp _ _ (lay_prs _) ((dal_of hdw).mono (same_new hO))), .lst (SqL.of upd_same) .nil, shaped_prs _, rfl, ?_⟩
                rw [eqv_nilP, twice_nil]
                exact k _ (((e1.trans e2).trans e3).trans (same_new hO))
      · rw [decide_eq_true (show ((ds.length : Nat) : Int) > 45 by omega)]
        rw [decide_eq_false h45] at k
        exact iteT (k H (Same.refl _))
  | _ => exact iteT (k H (Same.refl _))

abbrev s__law_some_bounds : Stmt := top 24
abbrev sc__law_some_bounds_N : List Str := ["_law_bag_here", "_law_found", "_law_broker", "_law_floor"]
theorem sc__law_some_bounds : FnScope sc__law_some_bounds_N ["_law_bag_here"] (defScope s__law_some_bounds) := ⟨rfl, rfl, rfl, by decide +kernel, rfl, by decide +kernel, by decide +kernel⟩
theorem ok__law_some_bounds (D : Def K mg "_law_some_bounds" s__law_some_bounds ["_law_bag_here"]) (B : Blt mg) (c__law_take : Cal P w K mg base CX0 1 "_law_take" ["_law_bag_here", "_law_many"] sp_take) : Cal P w K mg base CX0 2 "_law_some_bounds" ["_law_bag_here"] (sp_some_bounds K) := by
  refine D.ok sc__law_some_bounds (fun vs H Q E h => by obtain ⟨b, rfl, _⟩ := h; rfl) (fun f cdv A out s H vs Q E hr h => ?_)
  obtain ⟨b, rfl, hb, k⟩ := h
  refine ⟨_, (pss_cons (ps_set (i := 1) sc__law_some_bounds.nd rfl (Or.inl rfl) (pe_lst pa_nil))
      (pss_cons (ps_for PassesOwn.never rfl (pi_range1 rfl B.range (pa_cons (pe_op op_add pe_int (pe_c c__law_take (hr.mono (by decide)) pass0 (pa_cons (pv 0) (pa_cons pe_int pa_nil)))) pa_nil)) (pg_name (i := 2) sc__law_some_bounds.nd rfl (Or.inl rfl))
      (pss_cons (ps_set (i := 3) sc__law_some_bounds.nd rfl (Or.inl rfl) (pe_ix (kixL K) (pe_lst (pa_cons pe_int (pa_cons (pe_c c__law_take (hr.mono (by decide)) pass0 (pa_cons (pv 0) (pa_cons pe_int pa_nil))) (pa_cons (pe_c c__law_take (hr.mono (by decide)) pass0 (pa_cons (pv 0) (pa_cons (pe_op op_add (pe_op op_pow pe_int pe_int) pe_int) pa_nil))) pa_nil)))) (pe_c c__law_take (hr.mono (by decide)) pass0 (pa_cons (pv 0) (pa_cons pe_int pa_nil))) (fun _ _ => rfl)))
      (pss_one (ps_expr (pe_bm PySem.F.plainAttrs_list PySem.F.slot_list_append PySem.F.type_list_append mt_append (pv 1) (pa_cons (pe_tup (pa_cons (pv 3) (pa_cons (pe_ix (kixL K) (pe_lst (pa_cons (pv 3) (pa_cons (pe_op op_add (pv 3) (pe_c c__law_take (hr.mono (by decide)) pass0 (pa_cons (pv 0) (pa_cons pe_int pa_nil)))) (pa_cons (pe_op op_pow pe_int pe_int) pa_nil)))) (pe_c c__law_take (hr.mono (by decide)) pass0 (pa_cons (pv 0) (pa_cons pe_int pa_nil))) (fun _ _ => rfl)) pa_nil))) pa_nil))))))
      (pss_one (ps_ret (pv 1))))), ?_⟩
  refine ⟨by show 0 ≤ sizeLine; decide, fun L hL => ?_⟩
  have nL := hb.ne hL
  have g0 := (Go.refl hb).new (o := .lst []) hL
  refine ⟨_, rfl, b, _, rfl, g0.bag, by decide, by decide, fun n H1 n0 n1 g1 => ?_⟩
  refine ⟨_, _, rfl, rfl, _, rfl, by omega, by omega, for_range (lo := 0) (n := (1 + n).toNat) (fun i σ H' => ∃ us ps x2 x3, σ = [some (.ref b), some (.ref L), x2, x3] ∧ Go b H H' ∧ H' L = some (.lst us) ∧ DaL K (hid L (hid b H')) us (ps.map prI) ∧ RowsOk ps ∧ ps.length ≤ i) ⟨[], [], _, _, rfl, g0.trans g1, g1.get upd_same nL, .nil, RowsOk.nil, Nat.le_refl _⟩ ?_ ?_⟩
  · rintro i σ H2 hi ⟨us, ps, x2, x3, rfl, g2, hus, hda, ho, hlen⟩
    have hul : us.length ≤ i := by rw [hda.len, List.length_map]; exact hlen
    refine ⟨_, rfl, b, _, rfl, g2.bag, by decide, by decide, fun f1 H3 a3 b3 g3 => ?_⟩
    refine ⟨_, rfl, _, _, rfl, rfl, cp10 (by decide) (by decide), _, _, rfl, rfl, b, _, rfl, g3.bag, by decide, by decide, fun f2 H4 a4 b4 g4 => ?_⟩
    refine ⟨by show 3 ≤ sizeLine; decide, fun p hp => ?_⟩
    have np := g4.bag.ne hp
    have t5 := Go.of g4.bag (same_new (o := .lst ([0, f1, f2].map V.int)) hp)
    refine ⟨_, rfl, b, _, rfl, t5.bag, by decide, by decide, fun v H6 v0 v1 g6 => ?_⟩
    obtain ⟨fl, hfl, efl⟩ := pickI (ns := [0, f1, f2]) v0 (by simpa using v1)
    refine ⟨p, _, _, _, rfl, rfl, SqL.of (g6.get upd_same np), efl, ?_⟩
    have g26 := ((g3.trans g4).trans t5).trans g6
    refine ⟨_, rfl, .inl ⟨rfl, _, SqL.of (g26.get hus nL)⟩, _, rfl, _, rfl, _, rfl, _, rfl, b, _, rfl, g6.bag, by decide, by decide, fun f3 H7 a7 b7 g7 => ?_⟩
    refine ⟨_, _, rfl, rfl, _, _, rfl, rfl, cp10 (by decide) (by decide), by show 3 ≤ sizeLine; decide, fun q hq => ?_⟩
    have nq := g7.bag.ne hq
    have t8 := Go.of g7.bag (same_new (o := .lst ([fl, fl + f3, 10 ^ (30 : Int).toNat].map V.int)) hq)
    refine ⟨_, rfl, b, _, rfl, t8.bag, by decide, by decide, fun v' H9 v0' v1' g9 => ?_⟩
    obtain ⟨ce, hce, ece⟩ := pickI (ns := [fl, fl + f3, 10 ^ (30 : Int).toNat]) v0' (by simpa using v1')
    refine ⟨q, _, _, _, rfl, rfl, SqL.of (g9.get upd_same nq), ece, by show 2 ≤ sizeLine; decide, fun r hr' => ?_⟩
    have g29 := ((g26.trans g7).trans t8).trans g9
    have hus9 := g29.get hus nL
    have t10 := Go.of g9.bag (same_new (o := .tup ([fl, ce].map V.int)) hr')
    have hus10 := t10.get hus9 nL
    have dnew : Da K (hid L (hid b (upd H9 r (.tup ([fl, ce].map V.int))))) (.ref r) (prI [fl, ce]) := da_newT2 g9.bag hus9 (DaL.ints [fl, ce]) hr'
    refine ⟨L, us, _, rfl, rfl, hus10, by rw [sizeLine_eq]; omega, us ++ [.ref r], ps ++ [[fl, ce]], _, _, rfl, ((g2.trans g29).trans t10).mut hL, upd_same, ?_, ?_, ?_⟩
    · rw [hid2_upd nL, List.map_append]
      exact (hda.mono (g29.trans t10).sm2).app (.cons dnew .nil)
    · have e30 : (10 : Int) ^ (30 : Int).toNat = 1000000000000000000000000000000 := by decide
      rw [e30] at b4
      have hfb : 0 ≤ fl ∧ fl ≤ 1000000000000000000000000000001 := by
        simp only [List.mem_cons, List.not_mem_nil, or_false] at hfl
        omega
      refine ho.snoc hlen (by omega) (by show 1 ≤ 2; decide) (by show 2 ≤ 3; decide) (fun z hz => ?_)
      rw [c45]
      simp only [List.mem_cons, List.not_mem_nil, or_false, e30] at hz hce
      omega
    · rw [List.length_append, List.length_singleton]
      omega
  · rintro σ H2 ⟨us, ps, x2, x3, rfl, g2, hus, hda, ho, hlen⟩
    exact ⟨_, rfl, k L us ps H2 g2 nL hus (hda.mono hid2_le) ho⟩

abbrev s__law_some_bundles : Stmt := top 25
abbrev sc__law_some_bundles_N : List Str := ["_law_bag_here", "_law_size", "_law_found", "_law_first", "_law_second"]
theorem sc__law_some_bundles : FnScope sc__law_some_bundles_N ["_law_bag_here", "_law_size"] (defScope s__law_some_bundles) := ⟨rfl, rfl, rfl, by decide +kernel, rfl, by decide +kernel, by decide +kernel⟩
theorem ok__law_some_bundles (D : Def K mg "_law_some_bundles" s__law_some_bundles ["_law_bag_here", "_law_size"]) (B : Blt mg) (c__law_take : Cal P w K mg base CX0 1 "_law_take" ["_law_bag_here", "_law_many"] sp_take) : Cal P w K mg base CX0 2 "_law_some_bundles" ["_law_bag_here", "_law_size"] (sp_some_bundles K) := by
  refine D.ok sc__law_some_bundles (fun vs H Q E h => by obtain ⟨b, n, rfl, _⟩ := h; rfl) (fun f cdv A out s H vs Q E hr h => ?_)
  obtain ⟨b, n, rfl, hb, n0, n1, k⟩ := h
  refine ⟨_, (pss_cons (ps_set (i := 2) sc__law_some_bundles.nd rfl (Or.inl rfl) (pe_lst pa_nil))
      (pss_cons (ps_for PassesOwn.never rfl (pi_range1 rfl B.range (pa_cons (pv 1) pa_nil)) (pg_name (i := 3) sc__law_some_bundles.nd rfl (Or.inl rfl))
      (pss_one (ps_for PassesOwn.never rfl (pi_range2 rfl B.range (pa_cons (pe_op op_add (pv 3) pe_int) (pa_cons (pv 1) pa_nil))) (pg_name (i := 4) sc__law_some_bundles.nd rfl (Or.inl rfl))
      (pss_one (ps_if (pt_cmpR op_gt (pe_c c__law_take (hr.mono (by decide)) pass0 (pa_cons (pv 0) (pa_cons pe_int pa_nil))) pe_int (nomark _))
      (pss_one (ps_expr (pe_bm PySem.F.plainAttrs_list PySem.F.slot_list_append PySem.F.type_list_append mt_append (pv 2) (pa_cons (pe_tup (pa_cons (pv 3) (pa_cons (pv 4) (pa_cons (pe_ix (kixL K) (pe_lst (pa_cons pe_int (pa_cons (pe_op op_pow pe_int pe_int) (pa_cons (pe_op op_add pe_int (pe_c c__law_take (hr.mono (by decide)) pass0 (pa_cons (pv 0) (pa_cons (pe_op op_pow pe_int pe_int) pa_nil)))) pa_nil)))) (pe_c c__law_take (hr.mono (by decide)) pass0 (pa_cons (pv 0) (pa_cons pe_int pa_nil))) (fun _ _ => rfl)) pa_nil)))) pa_nil))))
      pss_nil)))))
      (pss_one (ps_ret (pe_ifExp (pt_cmpR op_eq (pe_c c__law_take (hr.mono (by decide)) pass0 (pa_cons (pv 0) (pa_cons pe_int pa_nil))) pe_int (nomark _)) (pe_revL (pv 2)) (pv 2)))))), ?_⟩
  refine ⟨by show 0 ≤ sizeLine; decide, fun L hL => ?_⟩
  have nL := hb.ne hL
  have g0 := (Go.refl hb).new (o := .lst []) hL
  refine ⟨_, rfl, _, rfl, by omega, by omega, for_range (lo := 0) (n := n.toNat) (fun i σ H' => ∃ us ps x3 x4, σ = [some (.ref b), some (.int n), some (.ref L), x3, x4] ∧ Go b H H' ∧ H' L = some (.lst us) ∧ DaL K (hid L (hid b H')) us (ps.map prI) ∧ RowsOk ps ∧ ps.length ≤ 9 * i) ⟨[], [], _, _, rfl, g0, upd_same, .nil, RowsOk.nil, Nat.zero_le _⟩ ?_ ?_⟩
  · rintro i σ H2 hi ⟨us, ps, x3, x4, rfl, g2, hus, hda, ho, hlen⟩
    refine ⟨_, rfl, _, _, rfl, rfl, _, rfl, _, _, rfl, ⟨by omega, by omega, by omega, by omega⟩, for_range (lo := 0 + (i : Int) + 1) (n := (n - (0 + (i : Int) + 1)).toNat) (fun j σ H' => ∃ us ps x4, σ = [some (.ref b), some (.int n), some (.ref L), some (.int (0 + (i : Int))), x4] ∧ Go b H H' ∧ H' L = some (.lst us) ∧ DaL K (hid L (hid b H')) us (ps.map prI) ∧ RowsOk ps ∧ ps.length ≤ 9 * i + j) ⟨us, ps, _, rfl, g2, hus, hda, ho, by omega⟩ ?_ ?_⟩
    · rintro j σ H3 hj ⟨us, ps, x4, rfl, g3, hus, hda, ho, hlen⟩
      have hul : us.length ≤ 9 * i + j := by rw [hda.len, List.length_map]; exact hlen
      refine ⟨_, rfl, b, _, rfl, g3.bag, by decide, by decide, fun v H4 v0 v1 g4 => ?_⟩
      refine ⟨_, _, rfl, rfl, _, rfl, ite2 (fun _ => ?_) (fun _ => ?_)⟩
      · refine ⟨_, rfl, .inl ⟨rfl, _, SqL.of (g4.get hus nL)⟩, _, rfl, _, rfl, _, _, rfl, rfl, cp10 (by decide) (by decide), _, rfl, _, _, rfl, rfl, cp10 (by decide) (by decide), b, _, rfl, g4.bag, by decide, by decide, fun c H5 c0 c1 g5 => ?_⟩
        refine ⟨_, _, rfl, rfl, by show 3 ≤ sizeLine; decide, fun p hp => ?_⟩
        have np := g5.bag.ne hp
        have t6 := Go.of g5.bag (same_new (o := .lst ([1, 10 ^ (18 : Int).toNat, 1 + c].map V.int)) hp)
        refine ⟨_, rfl, b, _, rfl, t6.bag, by decide, by decide, fun w H7 w0 w1 g7 => ?_⟩
        obtain ⟨ce, hce, ece⟩ := pickI (ns := [1, 10 ^ (18 : Int).toNat, 1 + c]) w0 (by simpa using w1)
        refine ⟨p, _, _, _, rfl, rfl, SqL.of (g7.get upd_same np), ece, by show 3 ≤ sizeLine; decide, fun r hr' => ?_⟩
        have g37 := ((g4.trans g5).trans t6).trans g7
        have hus7 := g37.get hus nL
        have t8 := Go.of g7.bag (same_new (o := .tup ([0 + (i : Int), 0 + (i : Int) + 1 + (j : Int), ce].map V.int)) hr')
        have hus8 := t8.get hus7 nL
        have dnew : Da K (hid L (hid b (upd H7 r (.tup ([0 + (i : Int), 0 + (i : Int) + 1 + (j : Int), ce].map V.int))))) (.ref r) (prI [0 + (i : Int), 0 + (i : Int) + 1 + (j : Int), ce]) := da_newT2 g7.bag hus7 (DaL.ints _) hr'
        refine ⟨L, us, _, rfl, rfl, hus8, by rw [sizeLine_eq]; omega, us ++ [.ref r], ps ++ [[0 + (i : Int), 0 + (i : Int) + 1 + (j : Int), ce]], _, rfl, ((g3.trans g37).trans t8).mut hL, upd_same, ?_, ?_, ?_⟩
        · rw [hid2_upd nL, List.map_append]
          exact (hda.mono (g37.trans t8).sm2).app (.cons dnew .nil)
        · have e18 : (10 : Int) ^ (18 : Int).toNat = 1000000000000000000 := by decide
          rw [e18] at c1
          refine ho.snoc hlen (by omega) (by show 1 ≤ 3; decide) (by show 3 ≤ 3; decide) (fun z hz => ?_)
          rw [c45]
          simp only [List.mem_cons, List.not_mem_nil, or_false, e18] at hz hce
          omega
        · rw [List.length_append, List.length_singleton]
          omega
      · exact ⟨us, ps, _, rfl, g3.trans g4, g4.get hus nL, hda.mono g4.sm2, ho, by omega⟩
    · rintro σ H3 ⟨us, ps, x4, rfl, g3, hus, hda, ho, hlen⟩
      exact ⟨us, ps, _, _, rfl, g3, hus, hda, ho, by omega⟩
  · rintro σ H2 ⟨us, ps, x3, x4, rfl, g2, hus, hda, ho, hlen⟩
    refine ⟨_, rfl, b, _, rfl, g2.bag, by decide, by decide, fun v H3 v0 v1 g3 => ⟨rfl, _, rfl, ite2 (fun _ => ?_) (fun _ => ?_)⟩⟩
    · have hus3 := g3.get hus nL
      have hda3 := (hda.mono hid2_le).mono g3.sm
      refine ⟨_, rfl, L, us, rfl, SqL.of hus3, fun p hp => ?_⟩
      have t4 := Go.of g3.bag (same_new (o := .lst us.reverse) hp)
      refine k p _ ps.reverse _ ((g2.trans g3).trans t4) (g3.bag.ne hp) upd_same ?_ ho.rev
      rw [List.map_reverse]
      exact (hda3.mono t4.sm).rev
    · exact ⟨_, rfl, k L us ps H3 (g2.trans g3) nL (g3.get hus nL) ((hda.mono hid2_le).mono g3.sm) ho⟩

abbrev s__law_bent : Stmt := top 26
abbrev sc__law_bent_N : List Str := ["_law_bag_here", "_law_rows", "_law_at", "_law_way", "_law_some", "_law_row", "_law_spot", "_law_near"]
theorem sc__law_bent : FnScope sc__law_bent_N ["_law_bag_here", "_law_rows"] (defScope s__law_bent) := ⟨rfl, rfl, rfl, by decide +kernel, rfl, by decide +kernel, by decide +kernel⟩
theorem ok__law_bent (D : Def K mg "_law_bent" s__law_bent ["_law_bag_here", "_law_rows"]) (B : Blt mg) (c__law_take : Cal P w K mg base CX0 1 "_law_take" ["_law_bag_here", "_law_many"] sp_take) (c__law_odd : Cal P w K mg base CX0 2 "_law_odd" ["_law_bag_here"] (sp_odd K)) : Cal P w K mg base CX0 3 "_law_bent" ["_law_bag_here", "_law_rows"] (sp_bent K) := by
  refine D.ok sc__law_bent (fun vs H Q E h => by obtain ⟨b, x, ps, rfl, _⟩ := h; rfl) (fun f cdv A out s H vs Q E hr h => ?_)
  obtain ⟨b, x, ps, rfl, hb, hx, ho, k⟩ := h
  refine ⟨_, (pss_cons (ps_par (i := 2) (j := 3) (by rfl) sc__law_bent.nd rfl rfl (by decide) rfl rfl (pa_cons (pe_c c__law_take (hr.mono (by decide)) pass0 (pa_cons (pv 0) (pa_cons (pe_op op_add (pe_callB (klen K) (by rfl) B.len (by decide +kernel) (pa_cons (pv 1) pa_nil)) pe_int) pa_nil))) (pa_cons (pe_c c__law_take (hr.mono (by decide)) pass0 (pa_cons (pv 0) (pa_cons pe_int pa_nil))) pa_nil)) (by rfl))
      (pss_cons (ps_if (PW.pt (pw_or (pt_cmpR op_eq (pv 3) pe_int (nomark _)) (pw_or1 (pt_cmpR op_eq (pv 2) (pe_callB (klen K) (by rfl) B.len (by decide +kernel) (pa_cons (pv 1) pa_nil)) (nomark _)))))
      (pss_cons (ps_set (i := 4) sc__law_bent.nd rfl (Or.inl rfl) (pe_lst (pa_cons (pe_callTy (ktup K) (by rfl) B.tuple (by decide +kernel) (pa_cons (pv 1) pa_nil)) (pa_cons (pe_op (kcatL K) (pv 1) (pe_lst (pa_cons (pe_c c__law_odd (hr.mono (by decide)) pass0 (pa_cons (pv 0) pa_nil)) pa_nil))) (pa_cons (pe_op (kcatL K) (pe_op (kcatL K) (pe_slice (kslL K) (pv 1) po_none (po_some (pv 2))) (pe_slice (kslL K) (pv 1) po_none (po_some pe_int))) (pe_slice (kslL K) (pv 1) (po_some (pv 2)) po_none)) (pa_cons (pe_c c__law_odd (hr.mono (by decide)) pass0 (pa_cons (pv 0) pa_nil)) pa_nil))))))
      (pss_one (ps_ret (pe_ix (kixL K) (pv 4) (pe_c c__law_take (hr.mono (by decide)) pass0 (pa_cons (pv 0) (pa_cons pe_int pa_nil))) (fun _ _ => rfl)))))
      pss_nil)
      (pss_cons (ps_set (i := 5) sc__law_bent.nd rfl (Or.inl rfl) (pe_ix (kixL K) (pv 1) (pv 2) (fun _ _ => rfl)))
      (pss_cons (ps_if (PW.pt (pw_or (pt_not (pt_val (pe_callB (kisi K) (by rfl) B.isinstance (by decide +kernel) (pa_cons (pv 5) (pa_cons (pe_ty (n := "tuple") B.tuple (by decide +kernel)) pa_nil))))) (pw_or1 (pt_cmpR (keq K hr.units) (pv 5) (pe_tup pa_nil) (nomark _)))))
      (pss_one (ps_ret (pv 1)))
      pss_nil)
      (pss_cons (ps_set (i := 6) sc__law_bent.nd rfl (Or.inl rfl) (pe_c c__law_take (hr.mono (by decide)) pass0 (pa_cons (pv 0) (pa_cons (pe_callB (klen K) (by rfl) B.len (by decide +kernel) (pa_cons (pv 5) pa_nil)) pa_nil))))
      (pss_cons (ps_set (i := 7) sc__law_bent.nd rfl (Or.inl rfl) (pe_ix (kixL K) (pe_lst (pa_cons (pe_c c__law_odd (hr.mono (by decide)) pass0 (pa_cons (pv 0) pa_nil)) (pa_cons (pe_op op_add (pe_op op_pow pe_int pe_int) pe_int) (pa_cons (pe_op op_add (pe_op op_pow pe_int pe_int) pe_int) (pa_cons (pe_un un_neg pe_int) (pa_cons (pe_ix (kixT K) (pv 5) pe_int (fun _ _ => rfl)) (pa_cons (pe_ix (kixT K) (pv 5) (pe_un un_neg pe_int) (fun _ _ => rfl)) (pa_cons pe_int (pa_cons pe_bl pa_nil))))))))) (pe_c c__law_take (hr.mono (by decide)) pass0 (pa_cons (pv 0) (pa_cons pe_int pa_nil))) (fun _ _ => rfl)))
      (pss_cons (ps_set (i := 4) sc__law_bent.nd rfl (Or.inl rfl) (pe_lst (pa_cons (pe_op (kcatT K) (pe_op (kcatT K) (pe_slice (kslT K) (pv 5) po_none (po_some (pv 6))) (pe_tup (pa_cons (pv 7) pa_nil))) (pe_slice (kslT K) (pv 5) (po_some (pe_op op_add (pv 6) pe_int)) po_none)) (pa_cons (pe_op (kcatT K) (pe_slice (kslT K) (pv 5) po_none (po_some (pv 6))) (pe_slice (kslT K) (pv 5) (po_some (pe_op op_add (pv 6) pe_int)) po_none)) (pa_cons (pe_op (kcatT K) (pv 5) (pe_tup (pa_cons pe_int pa_nil))) (pa_cons (pe_callTy (klist K) (by rfl) B.list (by decide +kernel) (pa_cons (pv 5) pa_nil)) pa_nil))))))
      (pss_cons (ps_set (i := 4) sc__law_bent.nd rfl (Or.inl rfl) (pe_op (kcatL K) (pv 4) (pe_lst (pa_cons (krevT K (pv 5)) (pa_cons (pe_op (kcatT K) (pe_op (kcatT K) (pe_slice (kslT K) (pv 5) (po_some pe_int) (po_some pe_int)) (pe_slice (kslT K) (pv 5) po_none (po_some pe_int))) (pe_slice (kslT K) (pv 5) (po_some pe_int) po_none)) pa_nil)))))
      (pss_one (ps_ret (pe_op (kcatL K) (pe_op (kcatL K) (pe_slice (kslL K) (pv 1) po_none (po_some (pv 2))) (pe_lst (pa_cons (pe_ix (kixL K) (pv 4) (pe_c c__law_take (hr.mono (by decide)) pass0 (pa_cons (pv 0) (pa_cons pe_int pa_nil))) (fun _ _ => rfl)) pa_nil))) (pe_slice (kslL K) (pv 1) (po_some (pe_op op_add (pv 2) pe_int)) po_none)))))))))))), ?_⟩
  obtain ⟨a, us, rfl, sq, da⟩ := da_list hx
  have hn : us.length = ps.length := by rw [da.len, List.length_map]
  have hp100 := ho.1
  refine ⟨_, rfl, _, rfl, _, _, rfl, Or.inl ⟨_, sql_up hid_le sq, rfl⟩, _, _, rfl, rfl, b, _, rfl, hb, by omega, by rw [show (2 : Int) ^ 200 = 1606938044258990275541962092341162602522202993782792835301376 by decide]; omega, fun at_ H1 a0 a1 g1 => ?_⟩
  refine ⟨_, rfl, b, _, rfl, g1.bag, by decide, by decide, fun way H2 w0 w1 g2 => ?_⟩
  refine ⟨_, _, rfl, ?_⟩
  have g12 := g1.trans g2
  have hx2 := g12.da hx
  refine ⟨_, rfl, rfl, _, rfl, ite2 (fun _ => ?_) (fun _ => ⟨_, rfl, _, rfl, _, _, rfl, Or.inl ⟨_, sql_up hid_le (sql_up g12.sm sq), rfl⟩, rfl, _, rfl, ite2 (fun _ => ?_) (fun hne => ?_)⟩)⟩
  rotate_left 2
  · have hlt : at_ < (us.length : Int) := by
      have hne' : ¬ at_ = (us.length : Int) := fun e => hne (decide_eq_true (by rw [e]))
      omega
    refine ⟨_, rfl, _, rfl, ixL_da hx2 a0 (by rw [List.length_map]; omega) (fun u d hm _ hu => ?_)⟩
    obtain ⟨p, hp, rfl⟩ := List.mem_map.mp hm
    obtain ⟨p1, p3, pz⟩ := ho.2 p hp
    have hpl : (p.map PyData.int).length ≤ 3 := by rw [List.length_map]; exact p3
    have hps : ∀ d ∈ p.map PyData.int, Sm 4 100000 d := fun d hd => by
      obtain ⟨z, h1, rfl⟩ := List.mem_map.mp hd
      exact (Sm.int (pz z h1)).up (by decide) (by decide)
    refine ⟨_, rfl, _, _, _, _, _, rfl, .ty "tuple", (da_of hu).ty, kit_tuple (prI p), _, rfl, iteF ?_⟩
    refine ⟨_, rfl, by show 0 ≤ sizeLine; decide, fun q hq => ?_⟩
    have t3 := Go.of g12.bag (same_new (o := .tup []) hq)
    have hu3 := t3.da hu
    refine ⟨prI p, .tuple [], (da_of hu3).dp _ _ (lay_pr p), .tup (.inl (.inl upd_same)) .nil, shaped_pr p, rfl, _, rfl, ?_⟩
    have e0 : PyData.eqv (prI p) (.tuple []) = false := by
      cases p with
      | nil => exact absurd p1 (by decide)
      | cons z p => simp [prI, PyData.eqv, PyData.eqvAll]
    rw [e0]
    refine iteF ?_
    obtain ⟨c, ws, rfl, sqt, dat⟩ := da_tup hu3
    have hwl : ws.length = p.length := by rw [dat.len, List.length_map]
    refine ⟨_, rfl, _, rfl, _, _, rfl, Or.inr ⟨_, sqt_up hid_le sqt, rfl⟩, b, _, rfl, t3.bag, by omega, by rw [show (2 : Int) ^ 200 = 1606938044258990275541962092341162602522202993782792835301376 by decide]; omega, fun spot H4 s0 s1 g4 => ?_⟩
    have hu4 := g4.da hu3
    refine ⟨_, rfl, b, rfl, g4.bag, fun y1 e1 H5 g5 hy1 sy1 ly1 => ?_⟩
    have hu5 := g5.da hu4
    refine ⟨_, _, rfl, rfl, cp10 (by decide) (by decide), _, _, rfl, rfl, _, _, rfl, rfl, cp10 (by decide) (by decide), _, _, rfl, rfl, _, rfl, _, rfl, tc_of (ixT_da (v := 0) hu5 (by decide) (by rw [List.length_map]; omega) (fun r0 f0 m0 _ hr0 => ?_))⟩
    refine ⟨_, rfl, _, rfl, lastT_da hu5 (by intro e; have h' := congrArg List.length e; rw [List.length_map] at h'; have h2 : p.length = 0 := h'; omega) (fun r1 f1 m1 hr1 => ?_)⟩
    refine ⟨by show 8 ≤ sizeLine; decide, fun q6 h6 => ?_⟩
    have t6 := Go.of g5.bag (same_new (o := .lst [y1, .int (10 ^ (30 : Int).toNat + 1), .int (10 ^ (18 : Int).toNat + 1), .int (-1), r0, r1, .int 10, .bl true]) h6)
    have d6 := da_newL (K := K) g5.bag (.cons hy1 (.cons (.int (10 ^ (30 : Int).toNat + 1)) (.cons (.int (10 ^ (18 : Int).toNat + 1)) (.cons (.int (-1)) (.cons hr0 (.cons hr1 (.cons (.int 10) (.cons (.bl true) .nil)))))))) h6
    refine ⟨_, rfl, b, _, rfl, t6.bag, by decide, by decide, fun v H7 v0 v1 g7 => ?_⟩
    refine ixL_da (g7.da d6) v0 (by simpa using v1) (fun nv nd nm _ hnv => ?_)
    have snd : Sm 4 100000 nd := by
      simp only [List.mem_cons, List.not_mem_nil, or_false] at nm
      rcases nm with h | h | h | h | h | h | h | h
      · rw [h]; exact sy1
      · rw [h]; exact (Sm.int (by decide)).up (by decide) (by decide)
      · rw [h]; exact (Sm.int (by decide)).up (by decide) (by decide)
      · rw [h]; exact (Sm.int (by decide)).up (by decide) (by decide)
      · rw [h]; exact hps _ m0
      · rw [h]; exact hps _ m1
      · rw [h]; exact (Sm.int (by decide)).up (by decide) (by decide)
      · rw [h]; exact (Sm.bool true).up (by decide) (by decide)
    have hu7 := (t6.trans g7).da hu5
    refine ⟨_, rfl, _, rfl, _, rfl, slT_da g7.bag hu7 (fun v8 H8 n8 m8 g8 d8 => ?_)⟩
    refine ⟨_, rfl, by show 1 ≤ sizeLine; decide, fun q9 h9 => ?_⟩
    have t9 := Go.of g8.bag (same_new (o := .tup [nv]) h9)
    have d9 := da_newT (K := K) g8.bag (.cons (g8.da hnv) .nil) h9
    have l8 := cut_len hpl n8 m8
    refine catT_da t9.bag (t9.da d8) d9 (by show _ + 1 ≤ 100000; omega) (fun v10 H10 g10 d10 => ?_)
    have hu10 := ((g8.trans t9).trans g10).da hu7
    refine ⟨_, rfl, _, rfl, _, _, rfl, rfl, _, rfl, noPart (slT_da g10.bag hu10 (fun v11 H11 n11 m11 g11 d11 => ?_))⟩
    have l11 := cut_len hpl n11 m11
    refine catT_da g11.bag (g11.da d10) d11 (by rw [List.length_append]; show _ + 1 + _ ≤ 100000; omega) (fun v12 H12 g12' d12 => ?_)
    have hu12 := (g11.trans g12').da hu10
    refine ⟨_, rfl, _, rfl, _, rfl, slT_da g12'.bag hu12 (fun v13 H13 n13 m13 g13 d13 => ?_)⟩
    refine ⟨_, rfl, _, rfl, _, _, rfl, rfl, _, rfl, noPart (slT_da g13.bag (g13.da hu12) (fun v14 H14 n14 m14 g14 d14 => ?_))⟩
    have l13 := cut_len hpl n13 m13
    have l14 := cut_len hpl n14 m14
    refine catT_da g14.bag (g14.da d13) d14 (by omega) (fun v15 H15 g15 d15 => ?_)
    have g1215 := (g13.trans g14).trans g15
    have hu15 := g1215.da hu12
    refine ⟨_, rfl, by show 1 ≤ sizeLine; decide, fun q16 h16 => ?_⟩
    have t16 := Go.of g15.bag (same_new (o := .tup [V.int 0]) h16)
    have d16 := da_newT (K := K) g15.bag (.cons (.int 0) .nil) h16
    refine catT_da t16.bag (t16.da hu15) d16 (by rw [List.length_map]; show _ + 1 ≤ 100000; omega) (fun v17 H17 g17 d17 => ?_)
    have hu17 := (t16.trans g17).da hu15
    obtain ⟨c', ws', ec, sqt', dat'⟩ := da_tup hu17
    cases ec
    refine ⟨_, rfl, c, _, rfl, Or.inr (sqt_up hid_le sqt'), fun q18 h18 => ?_⟩
    have t18 := Go.of g17.bag (same_new (o := .lst ws') h18)
    have d18 := da_newL (K := K) g17.bag dat' h18
    refine ⟨by show 4 ≤ sizeLine; decide, fun q19 h19 => ?_⟩
    have t19 := Go.of t18.bag (same_new (o := .lst [v12, v15, v17, .ref q18]) h19)
    have d19 := da_newL (K := K) t18.bag (.cons ((g1215.trans ((t16.trans g17).trans t18)).da d12) (.cons (((t16.trans g17).trans t18).da d15) (.cons (t18.da d17) (.cons d18 .nil)))) h19
    have hu19 := (t18.trans t19).da hu17
    obtain ⟨c2, ws2, ec2, sqt2, dat2⟩ := da_tup hu19
    cases ec2
    refine ⟨_, rfl, _, rfl, c, _, rfl, sqt_up hid_le sqt2, fun q20 h20 => ?_⟩
    have t20 := Go.of t19.bag (same_new (o := .tup ws2.reverse) h20)
    have d20 := da_newT (K := K) t19.bag dat2.rev h20
    have hu20 := t20.da hu19
    refine ⟨_, rfl, _, rfl, _, rfl, slT_da t20.bag hu20 (fun v21 H21 n21 m21 g21 d21 => ?_)⟩
    refine ⟨_, rfl, _, rfl, slT_da g21.bag (g21.da hu20) (fun v22 H22 n22 m22 g22 d22 => ?_)⟩
    have l21 := cut_len hpl n21 m21
    have l22 := cut_len hpl n22 m22
    refine catT_da g22.bag (g22.da d21) d22 (by omega) (fun v23 H23 g23 d23 => ?_)
    have g2023 := (g21.trans g22).trans g23
    refine ⟨_, rfl, _, rfl, noPart (slT_da g23.bag (g2023.da hu20) (fun v24 H24 n24 m24 g24 d24 => ?_))⟩
    have l24 := cut_len hpl n24 m24
    refine catT_da g24.bag (g24.da d23) d24 (by rw [List.length_append]; omega) (fun v25 H25 g25 d25 => ?_)
    have g2025 := (g2023.trans g24).trans g25
    refine ⟨by show 2 ≤ sizeLine; decide, fun q26 h26 => ?_⟩
    have t26 := Go.of g25.bag (same_new (o := .lst [.ref q20, v25]) h26)
    have d26 := da_newL (K := K) g25.bag (.cons (g2025.da d20) (.cons d25 .nil)) h26
    have g1926 := (t20.trans g2025).trans t26
    refine catL_da t26.bag (g1926.da d19) d26 (by show 4 + 2 ≤ 100000; decide) (fun v27 H27 g27 d27 => ?_)
    have gA : Go b H5 H12 := (((t6.trans g7).trans g8).trans t9).trans ((g10.trans g11).trans g12')
    have gB : Go b H12 H27 := (g1215.trans (t16.trans g17)).trans ((t18.trans t19).trans (g1926.trans g27))
    have g2_27 : Go b H2 H27 := ((t3.trans g4).trans g5).trans (gA.trans gB)
    have hx27 := g2_27.da hx2
    refine ⟨_, rfl, _, rfl, _, rfl, slL_da g27.bag hx27 (fun v28 H28 n28 m28 g28 d28 => ?_)⟩
    refine ⟨_, rfl, _, rfl, b, _, rfl, g28.bag, by decide, by decide, fun v' H29 v0' v1' g29 => ?_⟩
    refine ixL_da ((g28.trans g29).da d27) v0' (by simpa using v1') (fun sv sd sm' _ hsv => ?_)
    refine ⟨by show 1 ≤ sizeLine; decide, fun q30 h30 => ?_⟩
    have t30 := Go.of g29.bag (same_new (o := .lst [sv]) h30)
    have d30 := da_newL (K := K) g29.bag (.cons hsv .nil) h30
    have hpl100 : (ps.map prI).length ≤ 100 := by rw [List.length_map]; exact hp100
    have l28 := cut_len hpl100 n28 m28
    refine catL_da t30.bag ((g29.trans t30).da d28) d30 (by show _ + 1 ≤ 100000; omega) (fun v31 H31 g31 d31 => ?_)
    have g2831 := (g29.trans t30).trans g31
    refine ⟨_, rfl, _, rfl, _, _, rfl, rfl, _, rfl, noPart (slL_da g31.bag ((g28.trans g2831).da hx27) (fun v32 H32 n32 m32 g32 d32 => ?_))⟩
    have l32 := cut_len hpl100 n32 m32
    refine catL_da g32.bag (g32.da d31) d32 (by rw [List.length_append]; show _ + 1 + _ ≤ 100000; omega) (fun v33 H33 g33 d33 => ?_)
    refine k v33 _ H33 (g12.trans (g2_27.trans ((g28.trans g2831).trans (g32.trans g33)))) d33 ?_
    have ssd : Sm 5 1000000 sd := by
      have base : ∀ ds : List PyData, (∀ d ∈ ds, Sm 4 100000 d) → ds.length ≤ 9 → Sm 5 1000000 (.tuple ds) := fun ds h1 h2 => (Sm.tuple (m := 9) h1 h2).up (by decide) (by decide)
      simp only [List.mem_append, List.mem_cons, List.not_mem_nil, or_false] at sm'
      rcases sm' with (h | h | h | h) | (h | h)
      · rw [h]
        refine base _ (app_sm (app_sm (cut_sm hps _ _) (fun d hd => by rw [List.mem_singleton.mp hd]; exact snd)) (cut_sm hps _ _)) ?_
        simp only [List.length_append, List.length_singleton]
        omega
      · rw [h]
        refine base _ (app_sm (cut_sm hps _ _) (cut_sm hps _ _)) ?_
        rw [List.length_append]
        omega
      · rw [h]
        refine base _ (app_sm hps (fun d hd => by rw [List.mem_singleton.mp hd]; exact (Sm.int (by decide)).up (by decide) (by decide))) ?_
        rw [List.length_append, List.length_singleton]
        omega
      · rw [h]
        exact (Sm.list (m := 8) hps (by omega)).up (by decide) (by decide)
      · rw [h]
        refine base _ (fun d hd => hps d (List.mem_reverse.mp hd)) ?_
        rw [List.length_reverse]
        omega
      · rw [h]
        refine base _ (app_sm (app_sm (cut_sm hps _ _) (cut_sm hps _ _)) (cut_sm hps _ _)) ?_
        simp only [List.length_append]
        omega
    exact (sm_app (n := 5) (A := 147) (B := 200) (C := 1000000) (cut_sm (fun d hd => (ho.sm d hd).up (by decide) (Nat.le_refl _)) _ _) (cut_sm (fun d hd => (ho.sm d hd).up (by decide) (Nat.le_refl _)) _ _) ssd (by omega)).up (by decide) (by decide)
  all_goals
    refine ⟨_, rfl, a, _, rfl, Or.inl ⟨sql_up hid_le (sql_up g12.sm sq), fun p3 h3 => ?_⟩⟩
    have t3 := Go.of g12.bag (same_new (o := .tup us) h3)
    have d3 := da_newT (K := K) g12.bag (g12.dal da) h3
    refine ⟨_, rfl, _, rfl, b, rfl, t3.bag, fun y1 e1 H4 g4 hy1 s1 l1 => ?_⟩
    refine ⟨by show 1 ≤ sizeLine; decide, fun p5 h5 => ?_⟩
    have t5 := Go.of g4.bag (same_new (o := .lst [y1]) h5)
    have d5 := da_newL (K := K) g4.bag (.cons hy1 .nil) h5
    refine catL_da t5.bag (t5.da (g4.da (t3.da hx2))) d5 (by rw [List.length_map]; show ps.length + 1 ≤ 100000; omega) (fun v6 H6 g6 d6 => ?_)
    have g26 := ((t3.trans g4).trans t5).trans g6
    refine ⟨_, rfl, _, rfl, _, rfl, slL_da g6.bag (g26.da hx2) (fun v7 H7 n7 m7 g7 d7 => ?_)⟩
    refine ⟨_, rfl, _, rfl, slL_da g7.bag (g7.da (g26.da hx2)) (fun v8 H8 n8 m8 g8 d8 => ?_)⟩
    refine catL_da g8.bag (g8.da d7) d8 (by simp only [List.length_take, List.length_drop, List.length_map]; omega) (fun v9 H9 g9 d9 => ?_)
    have g79 := (g7.trans g8).trans g9
    refine ⟨_, rfl, _, rfl, _, rfl, noPart (slL_da g9.bag ((g26.trans g79).da hx2) (fun v10 H10 n10 m10 g10 d10 => ?_))⟩
    refine catL_da g10.bag (g10.da d9) d10 (by simp only [List.length_append, List.length_take, List.length_drop, List.length_map]; omega) (fun v11 H11 g11 d11 => ?_)
    refine ⟨_, rfl, b, rfl, g11.bag, fun y2 e2 H12 g12' hy2 s2 l2 => ?_⟩
    refine ⟨by show 4 ≤ sizeLine; decide, fun p13 h13 => ?_⟩
    have g611 := (g79.trans g10).trans g11
    have t13 := Go.of g12'.bag (same_new (o := .lst [.ref p3, v6, v11, y2]) h13)
    have d13 := da_newL (K := K) g12'.bag (.cons ((((g4.trans t5).trans g6).trans (g611.trans g12')).da d3) (.cons ((g611.trans g12').da d6) (.cons (g12'.da d11) (.cons hy2 .nil)))) h13
    refine ⟨_, rfl, _, rfl, b, _, rfl, t13.bag, by decide, by decide, fun v H14 v0 v1 g14 => ?_⟩
    refine ixL_da (g14.da d13) v0 (by simpa using v1) (fun u d hm _ hu => ?_)
    refine k u d H14 ((g12.trans g26).trans ((g611.trans g12').trans (t13.trans g14))) hu ?_
    simp only [List.mem_cons, List.not_mem_nil, or_false] at hm
    rcases hm with h | h | h | h
    · rw [h]
      exact (Sm.tuple (n := 1) (B := 147) (m := 100) ho.sm (by rw [List.length_map]; exact hp100)).up (by decide) (by decide)
    · rw [h]
      have q := sm_app (n := 4) (A := 147) (B := 100) (C := 100000) (as := ps.map prI) (bs := []) (x := e1) (fun d hd => (ho.sm d hd).up (by decide) (Nat.le_refl _)) (fun d hd => nomatch hd) s1 (by rw [List.length_map]; exact hp100)
      rw [List.append_nil] at q
      exact q.up (by decide) (by decide)
    · rw [h, map_cut, map_cut, map_cut]
      have c1 := ho.cut n7 m7
      have c2 := ho.cut n8 m8
      have c3 := ho.cut n10 m10
      refine (Sm.list (n := 1) (B := 147) (m := 300) (fun d hd => ?_) ?_).up (by decide) (by decide)
      · rcases List.mem_append.mp hd with hd | hd
        · rcases List.mem_append.mp hd with hd | hd
          · exact c1.sm d hd
          · exact c2.sm d hd
        · exact c3.sm d hd
      · have := c1.1
        have := c2.1
        have := c3.1
        simp only [List.length_append, List.length_map]
        omega
    · rw [h]
      exact s2.up (by decide) (by decide)

abbrev s_law : Stmt := top 27
abbrev sc_law_N : List Str := ["_law_script", "_law_bag_here", "_law_turn", "_law_size", "_law_things", "_law_bent_here", "_law_thing", "_law_shown", "_law_due", "_law_again", "_law_found"]
theorem sc_law : FnScope sc_law_N ["_law_script"] (defScope s_law) := ⟨rfl, rfl, rfl, by decide +kernel, rfl, by decide +kernel, by decide +kernel⟩
theorem ok_law (D : Def K mg "law" s_law ["_law_script"]) (B : Blt mg) (c__law_bag : Cal P w K mg base CX0 1 "_law_bag" ["_law_script"] (sp_bag K)) (c__law_take : Cal P w K mg base CX0 1 "_law_take" ["_law_bag_here", "_law_many"] sp_take) (c_are_bounds : Cal P w K mg base CX0 5 "are_bounds" ["thing"] (sp_are_bounds K)) (c_are_bundles : Cal P w K mg base CX0 5 "are_bundles" ["thing", "size"] (sp_are_bundles K)) (c__law_are_bounds : Cal P w K mg base CX0 3 "_law_are_bounds" ["_law_thing"] (sp_are_bounds K)) (c__law_are_bundles : Cal P w K mg base CX0 3 "_law_are_bundles" ["_law_thing", "_law_size"] (sp_are_bundles K)) (c__law_some_bounds : Cal P w K mg base CX0 2 "_law_some_bounds" ["_law_bag_here"] (sp_some_bounds K)) (c__law_some_bundles : Cal P w K mg base CX0 2 "_law_some_bundles" ["_law_bag_here", "_law_size"] (sp_some_bundles K)) (c__law_odd : Cal P w K mg base CX0 2 "_law_odd" ["_law_bag_here"] (sp_odd K)) (c__law_bent : Cal P w K mg base CX0 3 "_law_bent" ["_law_bag_here", "_law_rows"] (sp_bent K)) (c__law_alike : CalG P w K mg base CX0 1 "_law_alike" ["_law_found", "_law_due"] (sp_alike K)) : CalG P w K mg base CX0 6 "law" ["_law_script"] (sp_law K) := by
  refine D.okG sc_law (fun vs H Q E h => by obtain ⟨a, ns, rfl, _⟩ := h; rfl) (fun f cdv A out s H vs Q E hgu hr h => ?_)
  obtain ⟨a, ns, rfl, hS, hl, k⟩ := h
  refine ⟨_, (pss_cons (ps_set (i := 1) sc_law.nd rfl (Or.inl rfl) (pe_c c__law_bag (hr.mono (by decide)) pass0 (pa_cons (pv 0) pa_nil)))
      (pss_cons (ps_for PassesOwn.never rfl (pi_range1 rfl B.range (pa_cons pe_int pa_nil)) (pg_name (i := 2) sc_law.nd rfl (Or.inl rfl))
      (pss_cons (ps_set (i := 3) sc_law.nd rfl (Or.inl rfl) (pe_op op_add pe_int (pe_c c__law_take (hr.mono (by decide)) pass0 (pa_cons (pv 1) (pa_cons pe_int pa_nil)))))
      (pss_cons (ps_set (i := 4) sc_law.nd rfl (Or.inl rfl) (pe_lst (pa_cons (pe_c c__law_some_bounds (hr.mono (by decide)) pass0 (pa_cons (pv 1) pa_nil)) (pa_cons (pe_c c__law_some_bundles (hr.mono (by decide)) pass0 (pa_cons (pv 1) (pa_cons (pv 3) pa_nil))) (pa_cons (pe_c c__law_odd (hr.mono (by decide)) pass0 (pa_cons (pv 1) pa_nil)) pa_nil)))))
      (pss_cons (ps_set (i := 5) sc_law.nd rfl (Or.inl rfl) (pe_lst (pa_cons (pe_c c__law_bent (hr.mono (by decide)) pass0 (pa_cons (pv 1) (pa_cons (pe_ix (kixL K) (pv 4) pe_int (fun _ _ => rfl)) pa_nil))) (pa_cons (pe_c c__law_bent (hr.mono (by decide)) pass0 (pa_cons (pv 1) (pa_cons (pe_ix (kixL K) (pv 4) pe_int (fun _ _ => rfl)) pa_nil))) pa_nil))))
      (pss_one (ps_for PassesOwn.never rfl (pi_list (pe_op (kcatL K) (pv 4) (pv 5))) (pg_name (i := 6) sc_law.nd rfl (Or.inl rfl))
      (pss_cons (ps_set (i := 7) sc_law.nd rfl (Or.inl rfl) (pe_callB (krepr K hgu hr.units) (by rfl) B.repr (by decide +kernel) (pa_cons (pv 6) pa_nil)))
      (pss_cons (ps_set (i := 8) sc_law.nd rfl (Or.inl rfl) (pe_lst (pa_cons (pe_c c__law_are_bounds (hr.mono (by decide)) pass0 (pa_cons (pv 6) pa_nil)) (pa_cons (pe_c c__law_are_bundles (hr.mono (by decide)) pass0 (pa_cons (pv 6) (pa_cons (pv 3) pa_nil))) pa_nil))))
      (pss_one (ps_for PassesOwn.never rfl (pi_range1 rfl B.range (pa_cons pe_int pa_nil)) (pg_name (i := 9) sc_law.nd rfl (Or.inl rfl))
      (pss_cons (ps_set (i := 10) sc_law.nd rfl (Or.inl rfl) (pe_lst (pa_cons (pe_c c_are_bounds (hr.mono (by decide)) pass0 (pa_cons (pv 6) pa_nil)) (pa_cons (pe_c c_are_bundles (hr.mono (by decide)) pass0 (pa_cons (pv 6) (pa_cons (pv 3) pa_nil))) pa_nil))))
      (pss_one (ps_if (PW.pt (pw_or (pt_not (pt_val (pe_cG c__law_alike hgu (hr.mono (by decide)) pass0 (pa_cons (pv 10) (pa_cons (pv 8) pa_nil))))) (pw_or1 (pt_cmpR op_ne (pe_callB (krepr K hgu hr.units) (by rfl) B.repr (by decide +kernel) (pa_cons (pv 6) pa_nil)) (pv 7) (nomark _)))))
      (pss_one (ps_ret pe_bl))
      pss_nil)))))))))))))
      (pss_one (ps_ret (pe_and (pe_c c_are_bundles (hr.mono (by decide)) pass0 (pa_cons (pe_lst pa_nil) (pa_cons pe_int pa_nil))) (pe_one (pe_not (pe_c c_are_bounds (hr.mono (by decide)) pass0 (pa_cons (pe_lst (pa_cons (pe_tup (pa_cons pe_int (pa_cons pe_int pa_nil))) pa_nil)) pa_nil))))))))), ?_⟩
  refine ⟨_, rfl, a, ns, rfl, hS, by omega, fun b H1 _ _ hb => ?_⟩
  refine ⟨6, rfl, by decide, by decide, for_range (lo := 0) (n := 6) (fun _ σ H' => ∃ x2 x3 x4 x5 x6 x7 x8 x9 x10, σ = [some (.ref a), some (.ref b), x2, x3, x4, x5, x6, x7, x8, x9, x10] ∧ BagOk b H') ⟨_, _, _, _, _, _, _, _, _, rfl, hb⟩ ?_ ?_⟩
  · rintro i σ H2 _ ⟨x2, x3, x4, x5, x6, x7, x8, x9, x10, rfl, hb2⟩
    refine ⟨_, rfl, b, _, rfl, hb2, by decide, by decide, fun sz H3 z0 z1 g3 => ?_⟩
    refine ⟨_, _, rfl, rfl, ?_⟩
    refine ⟨_, rfl, b, rfl, g3.bag, fun a1 us1 ps1 H4 g4 n1 h1 d1 r1 => ?_⟩
    refine ⟨_, rfl, _, rfl, b, _, rfl, g4.bag, by omega, by omega, fun a2 us2 ps2 H5 g5 n2 h2 d2 r2 => ?_⟩
    refine ⟨_, rfl, b, rfl, g5.bag, fun ov od H6 g6 hod sod lod => ?_⟩
    have da1 : Da K (hid b H4) (.ref a1) (.list (ps1.map prI)) := .lst (SqL.of (by rw [hid_ne n1]; exact h1)) d1
    have da2 : Da K (hid b H5) (.ref a2) (.list (ps2.map prI)) := .lst (SqL.of (by rw [hid_ne n2]; exact h2)) d2
    refine ⟨by show 3 ≤ sizeLine; decide, fun p hp => ?_⟩
    have t7 := Go.of g6.bag (same_new (o := .lst [.ref a1, .ref a2, ov]) hp)
    have d7 := da_newL (K := K) g6.bag (.cons ((g5.trans g6).da da1) (.cons (g6.da da2) (.cons hod .nil))) hp
    refine ⟨_, rfl, _, rfl, tc_of (ixL_da (v := 0) d7 (by decide) (by show (0 : Int) < 3; decide) (fun u e _ he hu => ?_))⟩
    obtain rfl := Option.some.inj he
    refine ⟨b, u, ps1, rfl, t7.bag, hu, r1, fun w1 e1 H8 g8 hw1 s1 => ?_⟩
    refine ⟨_, rfl, _, rfl, tc_of (ixL_da (v := 1) (g8.da d7) (by decide) (by show (1 : Int) < 3; decide) (fun u2 e2 _ he2 hu2 => ?_))⟩
    obtain rfl := Option.some.inj he2
    refine ⟨b, u2, ps2, rfl, g8.bag, hu2, r2, fun w2 e2 H9 g9 hw2 s2 => ?_⟩
    refine ⟨by show 2 ≤ sizeLine; decide, fun q hq => ?_⟩
    have t10 := Go.of g9.bag (same_new (o := .lst [w1, w2]) hq)
    have d10 := da_newL (K := K) g9.bag (.cons (g9.da hw1) (.cons hw2 .nil)) hq
    refine ⟨_, rfl, _, rfl, catL_da t10.bag (((g8.trans g9).trans t10).da d7) d10 (by show 3 + 2 ≤ 100000; decide) (fun lv H11 g11 d11 => ?_)⟩
    obtain ⟨l, us, rfl, sql, dal⟩ := da_list d11
    have hb11 := g11.bag
    have sql' := sql_up hid_le sql
    have dal' := dal_of dal
    have hsm : ∀ d ∈ [PyData.list (ps1.map prI), PyData.list (ps2.map prI), od] ++ [e1, e2], Sm 7 4000000 d := by
      intro d hd
      have rows : ∀ ps : List (List Int), RowsOk ps → Sm 7 4000000 (.list (ps.map prI)) := fun ps h => (Sm.list (n := 1) (B := 147) (m := 100) h.sm (by rw [List.length_map]; exact h.1)).up (by decide) (by decide)
      simp only [List.mem_append, List.mem_cons, List.not_mem_nil, or_false] at hd
      rcases hd with (h | h | h) | (h | h)
      · rw [h]; exact rows _ r1
      · rw [h]; exact rows _ r2
      · rw [h]; exact sod.up (by decide) (by decide)
      · rw [h]; exact s1
      · rw [h]; exact s2
    refine ⟨l, rfl, ⟨_, sql'⟩, for_list (K := K) (a := l) (xs := us) (fun _ σ H' => ∃ y6 y7 y8 y9 y10, σ = [some (.ref a), some (.ref b), some (.int (0 + (i : Int))), some (.int (2 + sz)), some (.ref p), some (.ref q), y6, y7, y8, y9, y10] ∧ Same H11 H') ⟨_, _, _, _, _, rfl, Same.refl _⟩ (fun _ _ _ _ hh => by obtain ⟨_, _, _, _, _, _, e⟩ := hh; exact sql_up e sql') ?_ ?_⟩
    · rintro j x σ H12 hx ⟨y6, y7, y8, y9, y10, rfl, e12⟩
      obtain ⟨d, ed, hd⟩ := dal'.getV hx
      have sm := hsm d (List.mem_of_getElem? ed)
      have dep : d.depth ≤ 60 := Nat.le_trans sm.dp (by decide)
      have hx12 := hd.mono e12
      refine ⟨_, rfl, x, d, rfl, hx12, sm.sh, dep, sm.fits (by decide), ?_⟩
      refine ⟨_, rfl, x, d, rfl, hx12, fun H13 e13 => ?_⟩
      refine ⟨_, rfl, _, rfl, x, d, _, rfl, hx12.mono e13, fun H14 e14 => ?_⟩
      refine ⟨by show 2 ≤ sizeLine; decide, fun r hr' => ?_⟩
      have er := same_new (o := .lst ([areBoundsD d, areBundlesD (2 + sz) d].map V.bl)) hr'
      have e15 := ((e12.trans e13).trans e14).trans er
      refine ⟨2, rfl, by decide, by decide, for_range (lo := 0) (n := 2) (fun _ σ H' => ∃ z9 z10, σ = [some (.ref a), some (.ref b), some (.int (0 + (i : Int))), some (.int (2 + sz)), some (.ref p), some (.ref q), some x, some (.str d.shown), some (.ref r), z9, z10] ∧ Same H11 H' ∧ H' r = some (.lst ([areBoundsD d, areBundlesD (2 + sz) d].map V.bl))) ⟨_, _, rfl, e15, upd_same⟩ ?_ ?_⟩
      · rintro m σ H16 _ ⟨z9, z10, rfl, e16, hr16⟩
        have hx16 := hd.mono e16
        refine ⟨_, rfl, x, d, rfl, hx16, fun H17 e17 => ?_⟩
        refine ⟨_, rfl, _, rfl, x, d, _, rfl, hx16.mono e17, fun H18 e18 => ?_⟩
        refine ⟨by show 2 ≤ sizeLine; decide, fun w hw => ?_⟩
        have ew := same_new (o := .lst ([areBoundsD d, areBundlesD (2 + sz) d].map V.bl)) hw
        have e19 := ((e16.trans e17).trans e18).trans ew
        refine ⟨_, rfl, _, rfl, .ref w, .ref r, .list ([areBoundsD d, areBundlesD (2 + sz) d].map PyData.bool), rfl, .lst (SqL.of upd_same) (DaL.bls [areBoundsD d, areBundlesD (2 + sz) d]), .lst (SqL.of (((e17.trans e18).trans ew) _ _ hr16)) (DaL.bls [areBoundsD d, areBundlesD (2 + sz) d]), canLay_bools _, sm_bools (by show 2 ≤ 1000; decide), fun H20 e20 => ?_⟩
        refine ⟨_, rfl, iteF ?_⟩
        refine ⟨_, rfl, x, d, rfl, hd.mono (e19.trans e20), sm.sh, dep, sm.fits (by decide), _, rfl, rfl, _, rfl, ?_⟩
        refine iteNS rfl ?_
        exact ⟨_, _, rfl, e19.trans e20, (((e17.trans e18).trans ew).trans e20) _ _ hr16⟩
      · rintro σ H16 ⟨z9, z10, rfl, e16, hr16⟩
        exact ⟨_, _, _, _, _, rfl, e16⟩
    · rintro σ H12 ⟨y6, y7, y8, y9, y10, rfl, e12⟩
      exact ⟨_, _, _, _, _, _, _, _, _, rfl, hb11.up e12⟩
  · rintro σ H2 ⟨x2, x3, x4, x5, x6, x7, x8, x9, x10, rfl, hb2⟩
    refine ⟨by show 0 ≤ sizeLine; decide, fun p hp => ?_⟩
    refine ⟨.ref p, .list [], 2, rfl, .lst (SqL.of upd_same) .nil, fun H3 e3 => ⟨_, rfl, iteT ?_⟩⟩
    refine ⟨by show 2 ≤ sizeLine; decide, fun q hq => ?_⟩
    refine ⟨by show 1 ≤ sizeLine; decide, fun r hr' => ?_⟩
    have dq : Da K (upd H3 q (.tup [.int 0, .int 1])) (.ref q) (.tuple [.int 0, .int 1]) := daT (.cons (.int 0) (.cons (.int 1) .nil)) hq
    exact ⟨.ref r, .list [.tuple [.int 0, .int 1]], rfl, daL (.cons dq .nil) hr', fun H4 e4 => ⟨_, rfl, k H4⟩⟩

end
theorem all_mk {l : PySem.W.OpenLaw} {w : World} {K : PySem.W.Frag} {h : Heap} {mg : Str → Option Value} {fa : Addr} (X : K.In h) (G : h.Ns mainGlobals mg) (hfa : mg "law" = some (.ref fa))
    {f1 : Addr} {od1 an1 : Option Addr} {sl1 : Array (Option Value)} {oc1 kV1 dc1 pm1 cd1 ct1 : Value}
    {f2 : Addr} {od2 an2 : Option Addr} {sl2 : Array (Option Value)} {oc2 kV2 dc2 pm2 cd2 ct2 : Value}
    {f3 : Addr} {od3 an3 : Option Addr} {sl3 : Array (Option Value)} {oc3 kV3 dc3 pm3 cd3 ct3 : Value}
    {f4 : Addr} {od4 an4 : Option Addr} {sl4 : Array (Option Value)} {oc4 kV4 dc4 pm4 cd4 ct4 : Value}
    {f5 : Addr} {od5 an5 : Option Addr} {sl5 : Array (Option Value)} {oc5 kV5 dc5 pm5 cd5 ct5 : Value}
    {f6 : Addr} {od6 an6 : Option Addr} {sl6 : Array (Option Value)} {oc6 kV6 dc6 pm6 cd6 ct6 : Value}
    {f7 : Addr} {od7 an7 : Option Addr} {sl7 : Array (Option Value)} {oc7 kV7 dc7 pm7 cd7 ct7 : Value}
    {f8 : Addr} {od8 an8 : Option Addr} {sl8 : Array (Option Value)} {oc8 kV8 dc8 pm8 cd8 ct8 : Value}
    {f9 : Addr} {od9 an9 : Option Addr} {sl9 : Array (Option Value)} {oc9 kV9 dc9 pm9 cd9 ct9 : Value}
    {f10 : Addr} {od10 an10 : Option Addr} {sl10 : Array (Option Value)} {oc10 kV10 dc10 pm10 cd10 ct10 : Value}
    {f11 : Addr} {od11 an11 : Option Addr} {sl11 : Array (Option Value)} {oc11 kV11 dc11 pm11 cd11 ct11 : Value}
    {f12 : Addr} {od12 an12 : Option Addr} {sl12 : Array (Option Value)} {oc12 kV12 dc12 pm12 cd12 ct12 : Value}
    {f13 : Addr} {od13 an13 : Option Addr} {sl13 : Array (Option Value)} {oc13 kV13 dc13 pm13 cd13 ct13 : Value}
    {f14 : Addr} {od14 an14 : Option Addr} {sl14 : Array (Option Value)} {oc14 kV14 dc14 pm14 cd14 ct14 : Value}
    {f15 : Addr} {od15 an15 : Option Addr} {sl15 : Array (Option Value)} {oc15 kV15 dc15 pm15 cd15 ct15 : Value}
    {f16 : Addr} {od16 an16 : Option Addr} {sl16 : Array (Option Value)} {oc16 kV16 dc16 pm16 cd16 ct16 : Value}
    {f17 : Addr} {od17 an17 : Option Addr} {sl17 : Array (Option Value)} {oc17 kV17 dc17 pm17 cd17 ct17 : Value}
    {f18 : Addr} {od18 an18 : Option Addr} {sl18 : Array (Option Value)} {oc18 kV18 dc18 pm18 cd18 ct18 : Value}
    {f19 : Addr} {od19 an19 : Option Addr} {sl19 : Array (Option Value)} {oc19 kV19 dc19 pm19 cd19 ct19 : Value}
    {f20 : Addr} {od20 an20 : Option Addr} {sl20 : Array (Option Value)} {oc20 kV20 dc20 pm20 cd20 ct20 : Value}
    {f21 : Addr} {od21 an21 : Option Addr} {sl21 : Array (Option Value)} {oc21 kV21 dc21 pm21 cd21 ct21 : Value}
    {f22 : Addr} {od22 an22 : Option Addr} {sl22 : Array (Option Value)} {oc22 kV22 dc22 pm22 cd22 ct22 : Value}
    {t_MOST_BROKERS : Tok}
    {t_MOST_BUNDLES : Tok}
    {t_MOST_AMOUNT : Tok}
    {t_MOST_COUNT : Tok}
    (a1 : PySem.W.nsIn K mainGlobals "is_integer" = some (some (.ref f1))) (l1 : K.lookup f1 = some ⟨oc1, od1, .func (PySem.W.fnOf "is_integer" "is_integer" (defArgs s_is_integer) (defBody s_is_integer) (defScope s_is_integer) .none kV1 dc1 pm1 an1 cd1 ct1), sl1⟩) (c1 : PySem.W.codeIn K cd1 "is_integer" = true) (k1 : PySem.W.keepIn K (.ref f1) = true)
    (a2 : PySem.W.nsIn K mainGlobals "is_between" = some (some (.ref f2))) (l2 : K.lookup f2 = some ⟨oc2, od2, .func (PySem.W.fnOf "is_between" "is_between" (defArgs s_is_between) (defBody s_is_between) (defScope s_is_between) .none kV2 dc2 pm2 an2 cd2 ct2), sl2⟩) (c2 : PySem.W.codeIn K cd2 "is_between" = true) (k2 : PySem.W.keepIn K (.ref f2) = true)
    (a3 : PySem.W.nsIn K mainGlobals "is_amount" = some (some (.ref f3))) (l3 : K.lookup f3 = some ⟨oc3, od3, .func (PySem.W.fnOf "is_amount" "is_amount" (defArgs s_is_amount) (defBody s_is_amount) (defScope s_is_amount) .none kV3 dc3 pm3 an3 cd3 ct3), sl3⟩) (c3 : PySem.W.codeIn K cd3 "is_amount" = true) (k3 : PySem.W.keepIn K (.ref f3) = true)
    (a4 : PySem.W.nsIn K mainGlobals "is_count" = some (some (.ref f4))) (l4 : K.lookup f4 = some ⟨oc4, od4, .func (PySem.W.fnOf "is_count" "is_count" (defArgs s_is_count) (defBody s_is_count) (defScope s_is_count) .none kV4 dc4 pm4 an4 cd4 ct4), sl4⟩) (c4 : PySem.W.codeIn K cd4 "is_count" = true) (k4 : PySem.W.keepIn K (.ref f4) = true)
    (a5 : PySem.W.nsIn K mainGlobals "is_broker" = some (some (.ref f5))) (l5 : K.lookup f5 = some ⟨oc5, od5, .func (PySem.W.fnOf "is_broker" "is_broker" (defArgs s_is_broker) (defBody s_is_broker) (defScope s_is_broker) .none kV5 dc5 pm5 an5 cd5 ct5), sl5⟩) (c5 : PySem.W.codeIn K cd5 "is_broker" = true) (k5 : PySem.W.keepIn K (.ref f5) = true)
    (a6 : PySem.W.nsIn K mainGlobals "is_bound" = some (some (.ref f6))) (l6 : K.lookup f6 = some ⟨oc6, od6, .func (PySem.W.fnOf "is_bound" "is_bound" (defArgs s_is_bound) (defBody s_is_bound) (defScope s_is_bound) .none kV6 dc6 pm6 an6 cd6 ct6), sl6⟩) (c6 : PySem.W.codeIn K cd6 "is_bound" = true) (k6 : PySem.W.keepIn K (.ref f6) = true)
    (a7 : PySem.W.nsIn K mainGlobals "are_bounds" = some (some (.ref f7))) (l7 : K.lookup f7 = some ⟨oc7, od7, .func (PySem.W.fnOf "are_bounds" "are_bounds" (defArgs s_are_bounds) (defBody s_are_bounds) (defScope s_are_bounds) .none kV7 dc7 pm7 an7 cd7 ct7), sl7⟩) (c7 : PySem.W.codeIn K cd7 "are_bounds" = true) (k7 : PySem.W.keepIn K (.ref f7) = true)
    (a8 : PySem.W.nsIn K mainGlobals "is_bundle" = some (some (.ref f8))) (l8 : K.lookup f8 = some ⟨oc8, od8, .func (PySem.W.fnOf "is_bundle" "is_bundle" (defArgs s_is_bundle) (defBody s_is_bundle) (defScope s_is_bundle) .none kV8 dc8 pm8 an8 cd8 ct8), sl8⟩) (c8 : PySem.W.codeIn K cd8 "is_bundle" = true) (k8 : PySem.W.keepIn K (.ref f8) = true)
    (a9 : PySem.W.nsIn K mainGlobals "are_bundles" = some (some (.ref f9))) (l9 : K.lookup f9 = some ⟨oc9, od9, .func (PySem.W.fnOf "are_bundles" "are_bundles" (defArgs s_are_bundles) (defBody s_are_bundles) (defScope s_are_bundles) .none kV9 dc9 pm9 an9 cd9 ct9), sl9⟩) (c9 : PySem.W.codeIn K cd9 "are_bundles" = true) (k9 : PySem.W.keepIn K (.ref f9) = true)
    (a10 : PySem.W.nsIn K mainGlobals "_law_bag" = some (some (.ref f10))) (l10 : K.lookup f10 = some ⟨oc10, od10, .func (PySem.W.fnOf "_law_bag" "_law_bag" (defArgs s__law_bag) (defBody s__law_bag) (defScope s__law_bag) .none kV10 dc10 pm10 an10 cd10 ct10), sl10⟩) (c10 : PySem.W.codeIn K cd10 "_law_bag" = true) (k10 : PySem.W.keepIn K (.ref f10) = true)
    (a11 : PySem.W.nsIn K mainGlobals "_law_take" = some (some (.ref f11))) (l11 : K.lookup f11 = some ⟨oc11, od11, .func (PySem.W.fnOf "_law_take" "_law_take" (defArgs s__law_take) (defBody s__law_take) (defScope s__law_take) .none kV11 dc11 pm11 an11 cd11 ct11), sl11⟩) (c11 : PySem.W.codeIn K cd11 "_law_take" = true) (k11 : PySem.W.keepIn K (.ref f11) = true)
    (a12 : PySem.W.nsIn K mainGlobals "_law_alike" = some (some (.ref f12))) (l12 : K.lookup f12 = some ⟨oc12, od12, .func (PySem.W.fnOf "_law_alike" "_law_alike" (defArgs s__law_alike) (defBody s__law_alike) (defScope s__law_alike) .none kV12 dc12 pm12 an12 cd12 ct12), sl12⟩) (c12 : PySem.W.codeIn K cd12 "_law_alike" = true) (k12 : PySem.W.keepIn K (.ref f12) = true)
    (a13 : PySem.W.nsIn K mainGlobals "_law_odd" = some (some (.ref f13))) (l13 : K.lookup f13 = some ⟨oc13, od13, .func (PySem.W.fnOf "_law_odd" "_law_odd" (defArgs s__law_odd) (defBody s__law_odd) (defScope s__law_odd) .none kV13 dc13 pm13 an13 cd13 ct13), sl13⟩) (c13 : PySem.W.codeIn K cd13 "_law_odd" = true) (k13 : PySem.W.keepIn K (.ref f13) = true)
    (a14 : PySem.W.nsIn K mainGlobals "_law_whole" = some (some (.ref f14))) (l14 : K.lookup f14 = some ⟨oc14, od14, .func (PySem.W.fnOf "_law_whole" "_law_whole" (defArgs s__law_whole) (defBody s__law_whole) (defScope s__law_whole) .none kV14 dc14 pm14 an14 cd14 ct14), sl14⟩) (c14 : PySem.W.codeIn K cd14 "_law_whole" = true) (k14 : PySem.W.keepIn K (.ref f14) = true)
    (a15 : PySem.W.nsIn K mainGlobals "_law_is_bound" = some (some (.ref f15))) (l15 : K.lookup f15 = some ⟨oc15, od15, .func (PySem.W.fnOf "_law_is_bound" "_law_is_bound" (defArgs s__law_is_bound) (defBody s__law_is_bound) (defScope s__law_is_bound) .none kV15 dc15 pm15 an15 cd15 ct15), sl15⟩) (c15 : PySem.W.codeIn K cd15 "_law_is_bound" = true) (k15 : PySem.W.keepIn K (.ref f15) = true)
    (a16 : PySem.W.nsIn K mainGlobals "_law_are_bounds" = some (some (.ref f16))) (l16 : K.lookup f16 = some ⟨oc16, od16, .func (PySem.W.fnOf "_law_are_bounds" "_law_are_bounds" (defArgs s__law_are_bounds) (defBody s__law_are_bounds) (defScope s__law_are_bounds) .none kV16 dc16 pm16 an16 cd16 ct16), sl16⟩) (c16 : PySem.W.codeIn K cd16 "_law_are_bounds" = true) (k16 : PySem.W.keepIn K (.ref f16) = true)
    (a17 : PySem.W.nsIn K mainGlobals "_law_is_bundle" = some (some (.ref f17))) (l17 : K.lookup f17 = some ⟨oc17, od17, .func (PySem.W.fnOf "_law_is_bundle" "_law_is_bundle" (defArgs s__law_is_bundle) (defBody s__law_is_bundle) (defScope s__law_is_bundle) .none kV17 dc17 pm17 an17 cd17 ct17), sl17⟩) (c17 : PySem.W.codeIn K cd17 "_law_is_bundle" = true) (k17 : PySem.W.keepIn K (.ref f17) = true)
    (a18 : PySem.W.nsIn K mainGlobals "_law_are_bundles" = some (some (.ref f18))) (l18 : K.lookup f18 = some ⟨oc18, od18, .func (PySem.W.fnOf "_law_are_bundles" "_law_are_bundles" (defArgs s__law_are_bundles) (defBody s__law_are_bundles) (defScope s__law_are_bundles) .none kV18 dc18 pm18 an18 cd18 ct18), sl18⟩) (c18 : PySem.W.codeIn K cd18 "_law_are_bundles" = true) (k18 : PySem.W.keepIn K (.ref f18) = true)
    (a19 : PySem.W.nsIn K mainGlobals "_law_some_bounds" = some (some (.ref f19))) (l19 : K.lookup f19 = some ⟨oc19, od19, .func (PySem.W.fnOf "_law_some_bounds" "_law_some_bounds" (defArgs s__law_some_bounds) (defBody s__law_some_bounds) (defScope s__law_some_bounds) .none kV19 dc19 pm19 an19 cd19 ct19), sl19⟩) (c19 : PySem.W.codeIn K cd19 "_law_some_bounds" = true) (k19 : PySem.W.keepIn K (.ref f19) = true)
    (a20 : PySem.W.nsIn K mainGlobals "_law_some_bundles" = some (some (.ref f20))) (l20 : K.lookup f20 = some ⟨oc20, od20, .func (PySem.W.fnOf "_law_some_bundles" "_law_some_bundles" (defArgs s__law_some_bundles) (defBody s__law_some_bundles) (defScope s__law_some_bundles) .none kV20 dc20 pm20 an20 cd20 ct20), sl20⟩) (c20 : PySem.W.codeIn K cd20 "_law_some_bundles" = true) (k20 : PySem.W.keepIn K (.ref f20) = true)
    (a21 : PySem.W.nsIn K mainGlobals "_law_bent" = some (some (.ref f21))) (l21 : K.lookup f21 = some ⟨oc21, od21, .func (PySem.W.fnOf "_law_bent" "_law_bent" (defArgs s__law_bent) (defBody s__law_bent) (defScope s__law_bent) .none kV21 dc21 pm21 an21 cd21 ct21), sl21⟩) (c21 : PySem.W.codeIn K cd21 "_law_bent" = true) (k21 : PySem.W.keepIn K (.ref f21) = true)
    (a22 : PySem.W.nsIn K mainGlobals "law" = some (some (.ref f22))) (l22 : K.lookup f22 = some ⟨oc22, od22, .func (PySem.W.fnOf "law" "law" (defArgs s_law) (defBody s_law) (defScope s_law) .none kV22 dc22 pm22 an22 cd22 ct22), sl22⟩) (c22 : PySem.W.codeIn K cd22 "law" = true) (k22 : PySem.W.keepIn K (.ref f22) = true)
    (g_MOST_BROKERS : PySem.W.nsIn K mainGlobals "MOST_BROKERS" = some (some (.int 10 t_MOST_BROKERS)))
    (g_MOST_BUNDLES : PySem.W.nsIn K mainGlobals "MOST_BUNDLES" = some (some (.int 45 t_MOST_BUNDLES)))
    (g_MOST_AMOUNT : PySem.W.nsIn K mainGlobals "MOST_AMOUNT" = some (some (.int 1000000000000000000000000000000 t_MOST_AMOUNT)))
    (g_MOST_COUNT : PySem.W.nsIn K mainGlobals "MOST_COUNT" = some (some (.int 1000000000000000000 t_MOST_COUNT)))
    (z_len : PySem.W.nsIn K mainGlobals "len" = some none)
    (z_isinstance : PySem.W.nsIn K mainGlobals "isinstance" = some none)
    (z_int : PySem.W.nsIn K mainGlobals "int" = some none)
    (z_bool : PySem.W.nsIn K mainGlobals "bool" = some none)
    (z_list : PySem.W.nsIn K mainGlobals "list" = some none)
    (z_tuple : PySem.W.nsIn K mainGlobals "tuple" = some none)
    (z_str : PySem.W.nsIn K mainGlobals "str" = some none)
    (z_all : PySem.W.nsIn K mainGlobals "all" = some none)
    (z_any : PySem.W.nsIn K mainGlobals "any" = some none)
    (z_zip : PySem.W.nsIn K mainGlobals "zip" = some none)
    (z_range : PySem.W.nsIn K mainGlobals "range" = some none)
    (z_abs : PySem.W.nsIn K mainGlobals "abs" = some none)
    (z_repr : PySem.W.nsIn K mainGlobals "repr" = some none)
    (z_min : PySem.W.nsIn K mainGlobals "min" = some none)
    (z_max : PySem.W.nsIn K mainGlobals "max" = some none)
    (z_sum : PySem.W.nsIn K mainGlobals "sum" = some none)
    (z_sorted : PySem.W.nsIn K mainGlobals "sorted" = some none)
    (z_enumerate : PySem.W.nsIn K mainGlobals "enumerate" = some none)
    (z_reversed : PySem.W.nsIn K mainGlobals "reversed" = some none)
    (z_set : PySem.W.nsIn K mainGlobals "set" = some none)
    (z_dict : PySem.W.nsIn K mainGlobals "dict" = some none)
    (z_ValueError : PySem.W.nsIn K mainGlobals "ValueError" = some none) :
    ∃ fd : FuncData, (∀ (s : Shared) (v : Value), BindsTo s fd ⟨[v], []⟩ [("_law_script", v)]) ∧ ∀ base : Heap, K.In base → base.Ns mainGlobals mg → FnG l.prog w K mg base CX0 6 fa fd ["_law_script"] (sp_law K) := by
  have D_is_integer : Def K mg "is_integer" s_is_integer ["thing"] := def_mk X G a1 l1 c1 k1 (fun _ _ _ _ _ _ us hl => match us, hl with | [_], _ => rfl)
  have D_is_between : Def K mg "is_between" s_is_between ["thing", "least", "most"] := def_mk X G a2 l2 c2 k2 (fun _ _ _ _ _ _ us hl => match us, hl with | [_, _, _], _ => rfl)
  have D_is_amount : Def K mg "is_amount" s_is_amount ["thing"] := def_mk X G a3 l3 c3 k3 (fun _ _ _ _ _ _ us hl => match us, hl with | [_], _ => rfl)
  have D_is_count : Def K mg "is_count" s_is_count ["thing"] := def_mk X G a4 l4 c4 k4 (fun _ _ _ _ _ _ us hl => match us, hl with | [_], _ => rfl)
  have D_is_broker : Def K mg "is_broker" s_is_broker ["thing", "size"] := def_mk X G a5 l5 c5 k5 (fun _ _ _ _ _ _ us hl => match us, hl with | [_, _], _ => rfl)
  have D_is_bound : Def K mg "is_bound" s_is_bound ["thing"] := def_mk X G a6 l6 c6 k6 (fun _ _ _ _ _ _ us hl => match us, hl with | [_], _ => rfl)
  have D_are_bounds : Def K mg "are_bounds" s_are_bounds ["thing"] := def_mk X G a7 l7 c7 k7 (fun _ _ _ _ _ _ us hl => match us, hl with | [_], _ => rfl)
  have D_is_bundle : Def K mg "is_bundle" s_is_bundle ["thing", "size"] := def_mk X G a8 l8 c8 k8 (fun _ _ _ _ _ _ us hl => match us, hl with | [_, _], _ => rfl)
  have D_are_bundles : Def K mg "are_bundles" s_are_bundles ["thing", "size"] := def_mk X G a9 l9 c9 k9 (fun _ _ _ _ _ _ us hl => match us, hl with | [_, _], _ => rfl)
  have D__law_bag : Def K mg "_law_bag" s__law_bag ["_law_script"] := def_mk X G a10 l10 c10 k10 (fun _ _ _ _ _ _ us hl => match us, hl with | [_], _ => rfl)
  have D__law_take : Def K mg "_law_take" s__law_take ["_law_bag_here", "_law_many"] := def_mk X G a11 l11 c11 k11 (fun _ _ _ _ _ _ us hl => match us, hl with | [_, _], _ => rfl)
  have D__law_alike : Def K mg "_law_alike" s__law_alike ["_law_found", "_law_due"] := def_mk X G a12 l12 c12 k12 (fun _ _ _ _ _ _ us hl => match us, hl with | [_, _], _ => rfl)
  have D__law_odd : Def K mg "_law_odd" s__law_odd ["_law_bag_here"] := def_mk X G a13 l13 c13 k13 (fun _ _ _ _ _ _ us hl => match us, hl with | [_], _ => rfl)
  have D__law_whole : Def K mg "_law_whole" s__law_whole ["_law_thing", "_law_least", "_law_most"] := def_mk X G a14 l14 c14 k14 (fun _ _ _ _ _ _ us hl => match us, hl with | [_, _, _], _ => rfl)
  have D__law_is_bound : Def K mg "_law_is_bound" s__law_is_bound ["_law_thing"] := def_mk X G a15 l15 c15 k15 (fun _ _ _ _ _ _ us hl => match us, hl with | [_], _ => rfl)
  have D__law_are_bounds : Def K mg "_law_are_bounds" s__law_are_bounds ["_law_thing"] := def_mk X G a16 l16 c16 k16 (fun _ _ _ _ _ _ us hl => match us, hl with | [_], _ => rfl)
  have D__law_is_bundle : Def K mg "_law_is_bundle" s__law_is_bundle ["_law_thing", "_law_size"] := def_mk X G a17 l17 c17 k17 (fun _ _ _ _ _ _ us hl => match us, hl with | [_, _], _ => rfl)
  have D__law_are_bundles : Def K mg "_law_are_bundles" s__law_are_bundles ["_law_thing", "_law_size"] := def_mk X G a18 l18 c18 k18 (fun _ _ _ _ _ _ us hl => match us, hl with | [_, _], _ => rfl)
  have D__law_some_bounds : Def K mg "_law_some_bounds" s__law_some_bounds ["_law_bag_here"] := def_mk X G a19 l19 c19 k19 (fun _ _ _ _ _ _ us hl => match us, hl with | [_], _ => rfl)
  have D__law_some_bundles : Def K mg "_law_some_bundles" s__law_some_bundles ["_law_bag_here", "_law_size"] := def_mk X G a20 l20 c20 k20 (fun _ _ _ _ _ _ us hl => match us, hl with | [_, _], _ => rfl)
  have D__law_bent : Def K mg "_law_bent" s__law_bent ["_law_bag_here", "_law_rows"] := def_mk X G a21 l21 c21 k21 (fun _ _ _ _ _ _ us hl => match us, hl with | [_, _], _ => rfl)
  have D_law : Def K mg "law" s_law ["_law_script"] := def_mk X G a22 l22 c22 k22 (fun _ _ _ _ _ _ us hl => match us, hl with | [_], _ => rfl)
  have m_MOST_BROKERS := PySem.W.mg_of X G g_MOST_BROKERS
  have m_MOST_BUNDLES := PySem.W.mg_of X G g_MOST_BUNDLES
  have m_MOST_AMOUNT := PySem.W.mg_of X G g_MOST_AMOUNT
  have m_MOST_COUNT := PySem.W.mg_of X G g_MOST_COUNT
  have B : Blt mg := ⟨PySem.W.mg_none_of X G z_len, PySem.W.mg_none_of X G z_isinstance, PySem.W.mg_none_of X G z_int, PySem.W.mg_none_of X G z_bool, PySem.W.mg_none_of X G z_list, PySem.W.mg_none_of X G z_tuple, PySem.W.mg_none_of X G z_str, PySem.W.mg_none_of X G z_all, PySem.W.mg_none_of X G z_any, PySem.W.mg_none_of X G z_zip, PySem.W.mg_none_of X G z_range, PySem.W.mg_none_of X G z_abs, PySem.W.mg_none_of X G z_repr, PySem.W.mg_none_of X G z_min, PySem.W.mg_none_of X G z_max, PySem.W.mg_none_of X G z_sum, PySem.W.mg_none_of X G z_sorted, PySem.W.mg_none_of X G z_enumerate, PySem.W.mg_none_of X G z_reversed, PySem.W.mg_none_of X G z_set, PySem.W.mg_none_of X G z_dict, PySem.W.mg_none_of X G z_ValueError⟩
  refine law_end D_law hfa (fun _ _ _ _ _ _ _ => rfl) (fun base _ _ => ?_)
  have c_is_integer := ok_is_integer (P := l.prog) (w := w) (base := base) D_is_integer B
  have c_is_between := ok_is_between (P := l.prog) (w := w) (base := base) D_is_between c_is_integer
  have c_is_amount := ok_is_amount (P := l.prog) (w := w) (base := base) D_is_amount c_is_between m_MOST_AMOUNT
  have c_is_count := ok_is_count (P := l.prog) (w := w) (base := base) D_is_count c_is_between m_MOST_COUNT
  have c_is_broker := ok_is_broker (P := l.prog) (w := w) (base := base) D_is_broker c_is_between
  have c_is_bound := ok_is_bound (P := l.prog) (w := w) (base := base) D_is_bound B c_is_amount
  have c_are_bounds := ok_are_bounds (P := l.prog) (w := w) (base := base) D_are_bounds B c_is_bound m_MOST_BROKERS
  have c_is_bundle := ok_is_bundle (P := l.prog) (w := w) (base := base) D_is_bundle B c_is_broker c_is_count
  have c_are_bundles := ok_are_bundles (P := l.prog) (w := w) (base := base) D_are_bundles B c_is_bundle m_MOST_BUNDLES
  have c__law_bag := ok__law_bag (P := l.prog) (w := w) (base := base) D__law_bag B
  have c__law_take := ok__law_take (P := l.prog) (w := w) (base := base) D__law_take B
  have c__law_alike := ok__law_alike (P := l.prog) (w := w) (base := base) D__law_alike B
  have c__law_odd := ok__law_odd (P := l.prog) (w := w) (base := base) D__law_odd B c__law_take
  have c__law_whole := ok__law_whole (P := l.prog) (w := w) (base := base) D__law_whole B
  have c__law_is_bound := ok__law_is_bound (P := l.prog) (w := w) (base := base) D__law_is_bound B c__law_whole
  have c__law_are_bounds := ok__law_are_bounds (P := l.prog) (w := w) (base := base) D__law_are_bounds B c__law_is_bound
  have c__law_is_bundle := ok__law_is_bundle (P := l.prog) (w := w) (base := base) D__law_is_bundle B c__law_whole
  have c__law_are_bundles := ok__law_are_bundles (P := l.prog) (w := w) (base := base) D__law_are_bundles B c__law_is_bundle
  have c__law_some_bounds := ok__law_some_bounds (P := l.prog) (w := w) (base := base) D__law_some_bounds B c__law_take
  have c__law_some_bundles := ok__law_some_bundles (P := l.prog) (w := w) (base := base) D__law_some_bundles B c__law_take
  have c__law_bent := ok__law_bent (P := l.prog) (w := w) (base := base) D__law_bent B c__law_take c__law_odd
  exact ok_law D_law B c__law_bag c__law_take c_are_bounds c_are_bundles c__law_are_bounds c__law_are_bundles c__law_some_bounds c__law_some_bundles c__law_odd c__law_bent c__law_alike
theorem walk_law {l : PySem.W.OpenLaw} {q : Program} {loose : List Str} {XP : (Str → Option Value) → Heap → Prop} {YP : World → Heap → Prop} {d : DefRec} {K : Params → PySem.W.Frag} (hn : l.most = some 63) (hdf : d.params.defaults = [])
    (hY : ∀ (w : World) (h : Heap), YP w h → (K w.params).In h)
    (F : ∀ (w : World) (mg : Str → Option Value) (fa : Addr) (h : Heap), (K w.params).In h → h.Ns mainGlobals mg → mg d.name = some (.ref fa) →
      ∃ fd : FuncData, (∀ (s : Shared) (u : Value), BindsTo s fd ⟨[u], []⟩ [("_law_script", u)]) ∧ ∀ base : Heap, (K w.params).In base → base.Ns mainGlobals mg → FnG l.prog w (K w.params) mg base CX0 6 fa fd ["_law_script"] (sp_law (K w.params))) :
    PySem.W.WalkO q loose XP YP l.row.toRowW d [] (fun f vs => PySem.call f vs) :=
  walk_ofG (n := 63) (k := 6) (x := "_law_script") (cx := fun _ => CX0) (sp := fun w => (sp_law (K w.params))) hn (by decide) hdf ⟨rfl, by decide, by decide⟩ hY F (fun _ _ a ns hl _ hS => ⟨a, ns, rfl, hS, hl, fun _ => rfl⟩) fun _ _ _ _ _ z => z
end G

open PySem PySem.W PyProof.Rows in
set_option maxRecDepth 100000 in
set_option maxHeartbeats 0 in
theorem PySem.Challenge.cw_leadswitch_k12_bounds_and_bundles_holds : PySem.Challenge.rw_leadswitch_k12_bounds_and_bundles.Holds := by
  w_on; o_law; k_head; (case hw => w_witness2)
  k_fill
  refine G.walk_law (l := PySem.Challenge.rw_leadswitch_k12_bounds_and_bundles) rfl rfl (fun w h Y => PySem.W.kIn_of Y) ?F
  case F =>
    intro w mg fa h KX gn hmg
    refine' G.all_mk KX gn hmg ?a1 ?l1 ?c1 ?k1 ?a2 ?l2 ?c2 ?k2 ?a3 ?l3 ?c3 ?k3 ?a4 ?l4 ?c4 ?k4 ?a5 ?l5 ?c5 ?k5 ?a6 ?l6 ?c6 ?k6 ?a7 ?l7 ?c7 ?k7 ?a8 ?l8 ?c8 ?k8 ?a9 ?l9 ?c9 ?k9 ?a10 ?l10 ?c10 ?k10 ?a11 ?l11 ?c11 ?k11 ?a12 ?l12 ?c12 ?k12 ?a13 ?l13 ?c13 ?k13 ?a14 ?l14 ?c14 ?k14 ?a15 ?l15 ?c15 ?k15 ?a16 ?l16 ?c16 ?k16 ?a17 ?l17 ?c17 ?k17 ?a18 ?l18 ?c18 ?k18 ?a19 ?l19 ?c19 ?k19 ?a20 ?l20 ?c20 ?k20 ?a21 ?l21 ?c21 ?k21 ?a22 ?l22 ?c22 ?k22 ?g_MOST_BROKERS ?g_MOST_BUNDLES ?g_MOST_AMOUNT ?g_MOST_COUNT ?z_len ?z_isinstance ?z_int ?z_bool ?z_list ?z_tuple ?z_str ?z_all ?z_any ?z_zip ?z_range ?z_abs ?z_repr ?z_min ?z_max ?z_sum ?z_sorted ?z_enumerate ?z_reversed ?z_set ?z_dict ?z_ValueError
    (case a1 => k_is)
    (case l1 => k_is)
    (case c1 => k_is)
    (case k1 => k_is)
    (case a2 => k_is)
    (case l2 => k_is)
    (case c2 => k_is)
    (case k2 => k_is)
    (case a3 => k_is)
    (case l3 => k_is)
    (case c3 => k_is)
    (case k3 => k_is)
    (case a4 => k_is)
    (case l4 => k_is)
    (case c4 => k_is)
    (case k4 => k_is)
    (case a5 => k_is)
    (case l5 => k_is)
    (case c5 => k_is)
    (case k5 => k_is)
    (case a6 => k_is)
    (case l6 => k_is)
    (case c6 => k_is)
    (case k6 => k_is)
    (case a7 => k_is)
    (case l7 => k_is)
    (case c7 => k_is)
    (case k7 => k_is)
    (case a8 => k_is)
    (case l8 => k_is)
    (case c8 => k_is)
    (case k8 => k_is)
    (case a9 => k_is)
    (case l9 => k_is)
    (case c9 => k_is)
    (case k9 => k_is)
    (case a10 => k_is)
    (case l10 => k_is)
    (case c10 => k_is)
    (case k10 => k_is)
    (case a11 => k_is)
    (case l11 => k_is)
    (case c11 => k_is)
    (case k11 => k_is)
    (case a12 => k_is)
    (case l12 => k_is)
    (case c12 => k_is)
    (case k12 => k_is)
    (case a13 => k_is)
    (case l13 => k_is)
    (case c13 => k_is)
    (case k13 => k_is)
    (case a14 => k_is)
    (case l14 => k_is)
    (case c14 => k_is)
    (case k14 => k_is)
    (case a15 => k_is)
    (case l15 => k_is)
    (case c15 => k_is)
    (case k15 => k_is)
    (case a16 => k_is)
    (case l16 => k_is)
    (case c16 => k_is)
    (case k16 => k_is)
    (case a17 => k_is)
    (case l17 => k_is)
    (case c17 => k_is)
    (case k17 => k_is)
    (case a18 => k_is)
    (case l18 => k_is)
    (case c18 => k_is)
    (case k18 => k_is)
    (case a19 => k_is)
    (case l19 => k_is)
    (case c19 => k_is)
    (case k19 => k_is)
    (case a20 => k_is)
    (case l20 => k_is)
    (case c20 => k_is)
    (case k20 => k_is)
    (case a21 => k_is)
    (case l21 => k_is)
    (case c21 => k_is)
    (case k21 => k_is)
    (case a22 => k_is)
    (case l22 => k_is)
    (case c22 => k_is)
    (case k22 => k_is)
    (case g_MOST_BROKERS => k_is)
    (case g_MOST_BUNDLES => k_is)
    (case g_MOST_AMOUNT => k_is)
    (case g_MOST_COUNT => k_is)
    (case z_len => k_is)
    (case z_isinstance => k_is)
    (case z_int => k_is)
    (case z_bool => k_is)
    (case z_list => k_is)
    (case z_tuple => k_is)
    (case z_str => k_is)
    (case z_all => k_is)
    (case z_any => k_is)
    (case z_zip => k_is)
    (case z_range => k_is)
    (case z_abs => k_is)
    (case z_repr => k_is)
    (case z_min => k_is)
    (case z_max => k_is)
    (case z_sum => k_is)
    (case z_sorted => k_is)
    (case z_enumerate => k_is)
    (case z_reversed => k_is)
    (case z_set => k_is)
    (case z_dict => k_is)
    (case z_ValueError => k_is)
