import PyProof.Rows.All
import Wide.All
import OpenK.AllK
import Wide.FinOn
import PyProof.EqAt
import PyProof.EqKinds
import PyProof.TupleCall
import HandS.ForMost
import HandS.ForExc
import HandS.Wide
import HandS.IsInst
import HandS.Evl
import HandS.Zip
import HandS.Flow
import HandS.TupAny
import HandS.Walk
import HandS.Style
import PyProof.StrBlock2
import PyProof.ReprLen
import PyProof.FitsInt
import PySem.Challenge.RW_leadswitch_k11_kinds
set_option Elab.async false
set_option linter.all false
set_option maxRecDepth 100000
set_option maxHeartbeats 4000000
/-! ## G1: calls of defs that want to know that no repr runs around them -/
namespace G
open PySem PySem.Spec PyProof.Rows L2
/-- FnOk for callers around which no repr is running -/
structure FnG (P : Program) (w : World) (K : PySem.W.Frag) (mg : Str → Option Value) (base : Heap) (cx : CXT) (k : Nat) (f : Addr) (fd : FuncData) (ps : List Str) (sp : Sp) : Prop where
  lenG : ∀ vs H Q E, sp vs H Q E → vs.length = ps.length
  runG : ∀ (A : Around) (out : List Env) (st : Shared) (H : Hp) (as : Args) (us : List Value) (vs : List V) (Q : VK) (E : XK), A.guards = some [] → Room k A → Env0 P w K mg base A out st H →
    BindsTo st fd as (ps.zip us) → Vals vs us → sp vs H Q E → codeAny (model P w) A (.call (.ref f) as) (CR cx out P w H st Q E) st
section
variable {P : Program} {w : World} {K : PySem.W.Frag} {mg : Str → Option Value} {base : Heap} {cx : CXT} {k : Nat} {f : Addr} {fd : FuncData} {ps : List Str} {sp : Sp}
theorem FnG.of (F : FnOk P w K mg base cx k f fd ps sp) : FnG P w K mg base cx k f fd ps sp :=
  ⟨F.len, fun A out st H as us vs Q E _ hr => F.run A out st H as us vs Q E hr⟩
theorem FnG.up {j : Nat} (F : FnG P w K mg base cx j f fd ps sp) (h : j ≤ k) : FnG P w K mg base cx k f fd ps sp :=
  ⟨F.lenG, fun A out st H as us vs Q E hg hr => F.runG A out st H as us vs Q E hg (hr.mono h)⟩
theorem fnG_of {name qual : Str} {params : Arguments} {body : List Stmt} {scope : Scope} {dV kV doc pm cdv ct oc : Value} {an od : Option Addr} {osl : Array (Option Value)} {N : List Str}
    (lk : K.lookup f = some ⟨oc, od, .func (PySem.W.fnOf name qual params body scope dV kV doc pm an cdv ct), osl⟩) (hcd : PySem.W.codeIn K cdv qual = true) (S : FnScope N ps scope)
    (ln : ∀ vs H Q E, sp vs H Q E → vs.length = ps.length)
    (bd : ∀ (A : Around) (out : List Env) (st : Shared) (H : Hp) (vs : List V) (Q : VK) (E : XK), A.guards = some [] → Room k (A.deeper (envOfC qual scope st.heap.objs.size f cdv)) → sp vs H Q E →
      ∃ t, PSs (cxOf cx P w K mg base N qual scope f cdv A out st H E) body t ∧ t { nx := fun _ H' => Q .non H', rt := Q } (start N vs) H) :
    FnG P w K mg base cx (k + 1) f (PySem.W.fnOf name qual params body scope dV kV doc pm an cdv ct) ps sp := by
  refine ⟨ln, fun A out st H as us vs Q E hg hr e0 hb r hsp => ?_⟩
  have hkeep : ∀ b o, base.get? b = some o → st.heap.get? b = some o := fun b o e => (e0.bs b o e).1
  have KX : K.In st.heap := e0.mod.kin.keeps hkeep
  have hkind : ∀ y ∈ ps.zip us, scope.names.lookup y.1 = some .local ∨ (scope.names.lookup y.1 = some .cell ∧ ((cellsFrom (st.heap.objs.size + 1) scope.names []).lookup y.1).isSome = true) := by
    rintro ⟨n, v⟩ hy
    rcases S.par n (List.of_mem_zip hy).1 with q | q
    · exact Or.inl q
    · exact Or.inr ⟨q, PySem.W.cellsFrom_some _ _ _ (Or.inl q)⟩
  refine codeAny_call_function hr.depth (KX _ _ lk) rfl S.co S.gen rfl (PySem.W.codeRec_of KX hcd) (hb _ _ _ _ ?_)
  refine wpAny_newFunctionEnv_cells S.kind hkind fun env he st1 x => ?_
  subst he
  refine ⟨(e0.mod.nolimit.keeps hkeep).keeps x.toInCall.keep, codeAny_func ?_⟩
  obtain ⟨t, ht, hq⟩ := bd A out st H vs Q E hg (hr.deeper _) hsp
  have I0 := inv_start (CX := cx) (E := E) S hr.hd e0 (ln _ _ _ _ hsp) r x
  refine wpAny_mono (ht.run [] st1 (start N vs) H _ I0 hq) (fun fl s' hs => ?_) fun _ _ z => z
  match fl, hs with
  | .ret u, ⟨v, σ', H', J, rv, q⟩ => exact ⟨v, H', J.os, J.bare, J.base, J.hok, rv, q⟩
  | .next, ⟨σ', H', J, q⟩ => exact ⟨V.non, H', J.os, J.bare, J.base, J.hok, rfl, q⟩
  | .brk, ⟨_, _, _, q⟩ => exact False.elim q
  | .cont, ⟨_, _, _, q⟩ => exact False.elim q
/-- a def without errors that leave it -/
theorem okG {x qual : Str} {st : Stmt} {N : List Str} (F : Fun K x qual st f fd) (S : FnScope N ps (defScope st)) (ln : ∀ vs H Q E, sp vs H Q E → vs.length = ps.length)
    (bd : ∀ (cdv : Value) (A : Around) (out : List Env) (s : Shared) (H : Hp) (vs : List V) (Q : VK) (E : XK), A.guards = some [] → Room k (A.deeper (envOfC qual (defScope st) s.heap.objs.size f cdv)) → sp vs H Q E →
      ∃ t, PSs (cxOf CX0 P w K mg base N qual (defScope st) f cdv A out s H E).nox (defBody st) t ∧ t { nx := fun _ H' => Q .non H', rt := Q } (start N vs) H) : FnG P w K mg base CX0 (k + 1) f fd ps sp := by
  obtain ⟨oc, od, kV, doc, pm, an, cdv, ct, osl, rfl, lk, hcd⟩ := F.ex
  refine fnG_of lk hcd S ln fun A out s H vs Q E hg hr hsp => ?_
  obtain ⟨t, ht, q⟩ := bd cdv A out s H vs Q E hg hr hsp
  exact ⟨t, ht.nox, q⟩
/-- .. with such errors -/
theorem okGX {x qual : Str} {st : Stmt} {N : List Str} (F : Fun K x qual st f fd) (S : FnScope N ps (defScope st)) (ln : ∀ vs H Q E, sp vs H Q E → vs.length = ps.length)
    (bd : ∀ (cdv : Value) (A : Around) (out : List Env) (s : Shared) (H : Hp) (vs : List V) (Q : VK) (E : XK), A.guards = some [] → Room k (A.deeper (envOfC qual (defScope st) s.heap.objs.size f cdv)) → sp vs H Q E →
      ∃ t, PSs (cxOf (L2.CX P w) P w K mg base N qual (defScope st) f cdv A out s H E) (defBody st) t ∧ t { nx := fun _ H' => Q .non H', rt := Q } (start N vs) H) : FnG P w K mg base (L2.CX P w) (k + 1) f fd ps sp := by
  obtain ⟨oc, od, kV, doc, pm, an, cdv, ct, osl, rfl, lk, hcd⟩ := F.ex
  exact fnG_of lk hcd S ln fun A out s H vs Q E hg hr hsp => bd cdv A out s H vs Q E hg hr hsp
end
section
variable {X : Cx} {cx : CXT} {k : Nat} {f : Addr} {fd : FuncData} {ps : List Str} {sp : Sp} {dvs : List V} {ds : List Value} {E : XK} {x : Str} {p pos : Pos} {e : Expr} {es : List Expr} {t : TA}
theorem run_fnG {pins : List (Addr × Obj)} {σ : L2.St} {H : Hp} {s : Shared} {Q : VK} {us : List Value} {vs : List V} (F : FnG X.prog X.w X.K X.mg X.base cx k f fd ps sp) (hgu : X.A.guards = some []) (hr : Room k X.A) (hb : Binds X.K fd ps ds) (hd : Vals dvs ds)
    (hx : Passes cx X E) (I : Inv X pins σ H s) (r : Vals vs us) (h : sp (vs ++ dvs) H Q E) : wpAny (model X.prog X.w) X.A (call (.ref f) us) (EP X pins σ Q) X.xe s := by
  have r2 := r.append hd
  have hl := F.lenG _ _ _ _ h
  rw [r2.length] at hl
  have go := F.runG X.A X.stack s H ⟨us, []⟩ (us ++ ds) (vs ++ dvs) Q E hgu hr I.env0 (hb s us I.kIn hl) r2 h
  refine wpAny_call (codeAny_mono go fun res s' hq => ?_)
  match res, hq with
  | .error e, hq => exact hx pins σ H s e s' I hq
  | .ok (.ret u), hq => exact I.after hq
  | .ok .next, hq => exact False.elim hq
  | .ok .brk, hq => exact False.elim hq
  | .ok .cont, hq => exact False.elim hq
theorem pe_callG (F : FnG X.prog X.w X.K X.mg X.base cx k f fd ps sp) (hgu : X.A.guards = some []) (hr : Room k X.A) (hg : Gl X x) (hm : X.mg x = some (.ref f)) (hk : PySem.W.keepIn X.K (.ref f) = true) (hb : Binds X.K fd ps ds) (hd : Vals dvs ds)
    (hx : Passes cx X E) (ha : PA X (e :: es) t) (hdb : (x == ("__debug__" : Str)) = false := by decide) (he : starEach (e :: es) X.env = (false, eval e X.env) :: starEach es X.env := by rfl)
    (hpl : (backTo pos (starEach es X.env)).any (·.1) = false := by rfl) : PE X (.Call (.Name x p) (e :: es) [] pos) (tCall sp dvs E t) := by
  refine ⟨fun pins s σ H Q I h => wpAny_Call_Name_kw (ld_glob I hg hm ?_ hdb)⟩
  refine PySem.W.callWith_K (h₀ := X.base) I.ok.mod.kin hk (thn (ha.run pos pins s σ H _ I h) fun us s1 hh => ?_) he hpl
  obtain ⟨vs, H1, I1, r, q⟩ := hh
  exact ⟨I1.kIn, run_fnG F hgu hr hb hd hx I1 r q⟩
theorem pe_callG0 (F : FnG X.prog X.w X.K X.mg X.base cx k f fd ps sp) (hgu : X.A.guards = some []) (hr : Room k X.A) (hg : Gl X x) (hm : X.mg x = some (.ref f)) (hk : PySem.W.keepIn X.K (.ref f) = true) (hb : Binds X.K fd ps ds) (hd : Vals dvs ds)
    (hx : Passes cx X E) (hdb : (x == ("__debug__" : Str)) = false := by decide) : PE X (.Call (.Name x p) [] [] pos) (tCall sp dvs E tNil) :=
  ⟨fun pins s σ H Q I h => wpAny_Call_Name_kw (ld_glob I hg hm (PySem.W.callWith_K0 I.kIn hk (run_fnG (us := []) F hgu hr hb hd hx I .nil h)) hdb)⟩
end
/-- the law's call, from a promise that holds where no repr runs around -/
theorem law_callG {P : Program} {w : World} {K : PySem.W.Frag} {mg mb : Str → Option Value} {cx : CXT} {k : Nat} {fa a : Addr} {fd : FuncData} {x : Str} {sp : Sp} {s₁ : Shared} {vs : List Value} {ns : List Int}
    (KX : K.In s₁.heap) (hns : s₁.heap.Ns mainGlobals mg) (hb : s₁.heap.Ns builtinsNs mb) (hbb : ∀ x : Str, x ≠ "__name__" → mb x = bootBuiltins x) (hlim : s₁.heap.NoLimit) (hg : s₁.gens = #[])
    (ha : s₁.heap.get? a = some { cls := .type "list", data := .seq vs.toArray }) (hi : IntsAre vs ns) (hl : ns.length ≤ sizeLine) (hr : Room k callerA)
    (F : ∀ base : Heap, K.In base → base.Ns mainGlobals mg → FnG P w K mg base cx k fa fd [x] sp) (hbind : ∀ (s : Shared) (u : Value), BindsTo s fd ⟨[u], []⟩ [(x, u)])
    (hsp : ∀ H : Hp, Only H → SqL K H a (ns.map V.int) → sp [.ref a] H (fun v _ => v = .bl true) fun _ _ _ => False)
    (hcx : ∀ H e s', cx [] H s₁ (fun _ _ _ => False) e s' → False) :
    codeAny (model P w) callerA (.call (.ref fa) ⟨[.ref a], []⟩) (fun r s' => r = .ok (.ret (.bool true)) ∧ OldK s₁.heap s'.heap ∧ s'.os = s₁.os ∧ AllBare s'.gens) s₁ := by
  have rv := vals_ints hi
  have lenV := hi.length
  have core : ∀ H : Hp, Only H → SqL K H a (ns.map V.int) → HOk P w H s₁.heap → (∀ b, H b ≠ none → b = a) → (H a ≠ none → K.lookup a = none) →
      codeAny (model P w) callerA (.call (.ref fa) ⟨[.ref a], []⟩) (fun r s' => r = .ok (.ret (.bool true)) ∧ OldK s₁.heap s'.heap ∧ s'.os = s₁.os ∧ AllBare s'.gens) s₁ := by
    intro H only hS hok hA hK
    have nodict : ∀ {b : Addr} {o : Obj} {es : Array DictEntry} {ep : Nat}, s₁.heap.get? b = some o → o.data = .dict es ep → H b = none := by
      intro b o es ep e d
      refine Classical.byContradiction fun q => ?_
      have eb := hA b q
      subst eb
      rw [ha] at e
      cases e
      exact nomatch d
    have nsK : ∀ {b : Addr} {m : Str → Option Value}, s₁.heap.Ns b m → (hidT s₁.heap H).Ns b m := by
      rintro b m ⟨o, es, ep, e, d, r⟩
      exact ⟨o, es, ep, hidT_get e (nodict e d), d, r⟩
    have hKb : K.In (hidT s₁.heap H) := by
      intro b o e
      refine hidT_get (KX b o e) (Classical.byContradiction fun q => ?_)
      have eb := hA b q
      subst eb
      rw [hK q] at e
      cases e
    obtain ⟨mc, hm1, hm2⟩ := hlim
    have md : Mod K mg (hidT s₁.heap H) := ⟨hKb, nsK hns, ⟨mb, nsK hb, hbb⟩, ⟨mc, nsK hm1, hm2⟩⟩
    have e0 : Env0 P w K mg (hidT s₁.heap H) callerA [] s₁ H :=
      ⟨rfl, md, fun b o e => of_hidT e, Nat.le_of_eq (hidT_size _ _), trivial, fun b z => absurd (show b ∈ ([] : List Addr) from z) (by simp), hok, .of_eq hg⟩
    have go := (F _ hKb (nsK hns)).runG callerA [] s₁ H ⟨[.ref a], []⟩ [.ref a] [.ref a] _ _ rfl hr e0 (hbind s₁ (.ref a)) (.cons rfl .nil) (hsp H only hS)
    refine codeAny_mono go fun res s' h => ?_
    match res, h with
    | .error e, h => exact (hcx H e s' h).elim
    | .ok .next, h => exact False.elim h
    | .ok .brk, h => exact False.elim h
    | .ok .cont, h => exact False.elim h
    | .ok (.ret u), ⟨v, H', os, bare, un, hok', r', q⟩ =>
      have q' : v = .bl true := q
      subst q'
      have r'' : u = Value.bool true := r'
      subst r''
      refine ⟨rfl, OldK.of_keep fun b o e => ?_, os, bare⟩
      rcases only b with z | ⟨ob, xs, z⟩
      · exact un.keep b o e z (fun z => absurd (show b ∈ ([] : List Addr) from z) (by simp)) (by simp)
      · have e1 := (hok b _ z).1
        have e2 := (hok' b _ (un.frzs b ob _ z)).1
        rw [e] at e1
        cases e1
        exact e2
  cases hk : K.lookup a with
  | some o =>
    have e := KX a o hk
    rw [ha] at e
    cases e
    exact core (fun _ => none) (fun _ => Or.inl rfl) (Or.inr ⟨_, vs.toArray, _, hk, rfl, rfl, rfl, by rw [List.size_toArray, lenV]; exact hl, by simpa using rv⟩) (fun _ _ z => nomatch z) (fun _ z => absurd rfl z) fun z => absurd rfl z
  | none =>
    refine core (fun b => if b = a then some (.frz { cls := .type "list", data := .seq vs.toArray } (.lst (ns.map V.int))) else none) (fun b => ?_) (Or.inl (Or.inr ⟨{ cls := .type "list", data := .seq vs.toArray }, if_pos rfl⟩)) (fun b u z => ?_) (fun b z => ?_) fun _ => hk
    · by_cases hb : b = a
      · exact Or.inr ⟨_, _, if_pos hb⟩
      · exact Or.inl (if_neg hb)
    · by_cases hb : b = a
      · dsimp only at z
        rw [if_pos hb] at z
        cases z
        subst hb
        exact ⟨ha, by rw [List.length_map]; exact hl, vs, _, rv, ha⟩
      · dsimp only at z
        rw [if_neg hb] at z
        cases z
    · exact Classical.byContradiction fun hb => z (if_neg hb)
theorem walk_ofG {l : PySem.W.OpenLaw} {n k : Nat} {q : Program} {loose : List Str} {XP : (Str → Option Value) → Heap → Prop} {YP : World → Heap → Prop} {d : DefRec} {K : Params → PySem.W.Frag} {cx : World → CXT} {sp : World → Sp} {x : Str}
    (hn : l.most = some n) (hn2 : n ≤ sizeLine) (hdf : d.params.defaults = []) (hr : Room k callerA)
    (hY : ∀ (w : World) (h : Heap), YP w h → (K w.params).In h)
    (F : ∀ (w : World) (mg : Str → Option Value) (fa : Addr) (h : Heap), (K w.params).In h → h.Ns mainGlobals mg → mg d.name = some (.ref fa) →
      ∃ fd : FuncData, (∀ (s : Shared) (u : Value), BindsTo s fd ⟨[u], []⟩ [(x, u)]) ∧
        ∀ base : Heap, (K w.params).In base → base.Ns mainGlobals mg → FnG l.prog w (K w.params) mg base (cx w) k fa fd [x] (sp w))
    (hsp : ∀ (w : World) (H : Hp) (a : Addr) (ns : List Int), ns.length ≤ n → Only H → SqL (K w.params) H a (ns.map V.int) → sp w [.ref a] H (fun v _ => v = .bl true) fun _ _ _ => False)
    (hcx : ∀ (w : World) (H : Hp) (s : Shared) (e : Value) (s' : Shared), cx w [] H s (fun _ _ _ => False) e s' → False) :
    PySem.W.WalkO q loose XP YP l.row.toRowW d [] (fun f vs => PySem.call f vs) := by
  refine Att.attach_call hn hdf fun w s₀ s₁ mg mb fa o pm cd doc a vs ns gr y ho hd hcd hmg hobj hints hlen hg => ?_
  obtain ⟨fd, hb, hF⟩ := F w mg fa _ (hY w _ y) gr.T.g hmg
  exact law_callG (hY w _ y) gr.T.g gr.T.b gr.T.builtins gr.T.nolimit hg hobj hints (Nat.le_trans hlen hn2) hr hF hb (fun H only hS => hsp w H a ns hlen only hS) fun H e s' => hcx w H s₁ e s'
end G

/-! ## G2: data (None, bools, ints, texts, lists, tuples, dicts) over the abstract heap: what a value stands for; its type; repr; == -/
namespace G
open PySem PySem.Spec PyProof.Rows L2
def kD : Key → PyData
  | .inl i => .int i
  | .inr x => .str x
mutual
/-- in H the value stands for the datum -/
inductive Da (K : PySem.W.Frag) (H : Hp) : V → PyData → Prop
  | non : Da K H .non .none
  | bl (b : Bool) : Da K H (.bl b) (.bool b)
  | int (i : Int) : Da K H (.int i) (.int i)
  | str (x : Str) : Da K H (.str x) (.str x)
  | lst {a : Addr} {xs : List V} {ds : List PyData} : SqL K H a xs → DaL K H xs ds → Da K H (.ref a) (.list ds)
  | tup {a : Addr} {xs : List V} {ds : List PyData} : SqT K H a xs → DaL K H xs ds → Da K H (.ref a) (.tuple ds)
  | dct {a : Addr} {kvs : List (Key × V)} {es : List (PyData × PyData)} : H a = some (.dK kvs) → DaE K H kvs es → Da K H (.ref a) (.dict es)
inductive DaL (K : PySem.W.Frag) (H : Hp) : List V → List PyData → Prop
  | nil : DaL K H [] []
  | cons {v : V} {vs : List V} {d : PyData} {ds : List PyData} : Da K H v d → DaL K H vs ds → DaL K H (v :: vs) (d :: ds)
inductive DaE (K : PySem.W.Frag) (H : Hp) : List (Key × V) → List (PyData × PyData) → Prop
  | nil : DaE K H [] []
  | cons {k : Key} {v : V} {kvs : List (Key × V)} {d : PyData} {es : List (PyData × PyData)} : Da K H v d → DaE K H kvs es → DaE K H ((k, v) :: kvs) ((kD k, d) :: es)
end
section
variable {K : PySem.W.Frag} {H H' : Hp}
theorem sql_up {a : Addr} {xs : List V} (e : Same H H') (h : SqL K H a xs) : SqL K H' a xs := e.seq h
theorem sqt_up {a : Addr} {xs : List V} (e : Same H H') (h : SqT K H a xs) : SqT K H' a xs := Evl.ex_t e h
mutual
theorem Da.up (e : Same H H') : ∀ (d : PyData) (v : V), Da K H v d → Da K H' v d
  | .none, _, h => by cases h; exact .non
  | .bool b, _, h => by cases h; exact .bl b
  | .int i, _, h => by cases h; exact .int i
  | .str x, _, h => by cases h; exact .str x
  | .list ds, _, h => by cases h with | lst a b => exact .lst (sql_up e a) (DaL.up e ds _ b)
  | .tuple ds, _, h => by cases h with | tup a b => exact .tup (sqt_up e a) (DaL.up e ds _ b)
  | .dict es, _, h => by cases h with | dct a b => exact .dct (e _ _ a) (DaE.up e es _ b)
theorem DaL.up (e : Same H H') : ∀ (ds : List PyData) (vs : List V), DaL K H vs ds → DaL K H' vs ds
  | [], _, h => by cases h; exact .nil
  | d :: ds, _, h => by cases h with | cons a b => exact .cons (Da.up e d _ a) (DaL.up e ds _ b)
theorem DaE.up (e : Same H H') : ∀ (es : List (PyData × PyData)) (kvs : List (Key × V)), DaE K H kvs es → DaE K H' kvs es
  | [], _, h => by cases h; exact .nil
  | (k, d) :: es, _, h => by cases h with | cons a b => exact .cons (Da.up e d _ a) (DaE.up e es _ b)
end
theorem Da.mono {d : PyData} {v : V} (h : Da K H v d) (e : Same H H') : Da K H' v d := Da.up e d v h
theorem DaL.mono {ds : List PyData} {vs : List V} (h : DaL K H vs ds) (e : Same H H') : DaL K H' vs ds := DaL.up e ds vs h
theorem DaL.len {ds : List PyData} : ∀ {vs : List V}, DaL K H vs ds → vs.length = ds.length := by
  induction ds with
  | nil => intro vs h; cases h; rfl
  | cons d ds ih => intro vs h; cases h with | cons a b => simp [ih b]
theorem DaL.get {ds : List PyData} : ∀ {vs : List V} {i : Nat} {d : PyData}, DaL K H vs ds → ds[i]? = some d → ∃ v, vs[i]? = some v ∧ Da K H v d := by
  induction ds with
  | nil => intro vs i d h e; simp at e
  | cons x ds ih =>
    intro vs i d h e
    cases h with
    | cons a b =>
      cases i with
      | zero => simp at e; subst e; exact ⟨_, rfl, a⟩
      | succ i =>
        obtain ⟨v, q, r⟩ := ih (i := i) b (by simpa using e)
        exact ⟨v, by simpa using q, r⟩
theorem DaL.getV {ds : List PyData} : ∀ {vs : List V} {i : Nat} {v : V}, DaL K H vs ds → vs[i]? = some v → ∃ d, ds[i]? = some d ∧ Da K H v d := by
  induction ds with
  | nil => intro vs i d h e; cases h; simp at e
  | cons x ds ih =>
    intro vs i d h e
    cases h with
    | cons a b =>
      cases i with
      | zero => simp at e; subst e; exact ⟨_, rfl, a⟩
      | succ i =>
        obtain ⟨v, q, r⟩ := ih (i := i) b (by simpa using e)
        exact ⟨v, by simpa using q, r⟩
theorem DaL.app {xs ys : List PyData} : ∀ {us vs : List V}, DaL K H us xs → DaL K H vs ys → DaL K H (us ++ vs) (xs ++ ys) := by
  induction xs with
  | nil => intro us vs h k; cases h; exact k
  | cons x xs ih => intro us vs h k; cases h with | cons a b => exact .cons a (ih b k)
theorem DaL.take {xs : List PyData} : ∀ {us : List V} (n : Nat), DaL K H us xs → DaL K H (us.take n) (xs.take n) := by
  induction xs with
  | nil => intro us n h; cases h; simp; exact .nil
  | cons x xs ih =>
    intro us n h
    cases h with
    | cons a b =>
      cases n with
      | zero => exact .nil
      | succ n => exact .cons a (ih n b)
theorem DaL.drop {xs : List PyData} : ∀ {us : List V} (n : Nat), DaL K H us xs → DaL K H (us.drop n) (xs.drop n) := by
  induction xs with
  | nil => intro us n h; cases h; simp; exact .nil
  | cons x xs ih =>
    intro us n h
    cases h with
    | cons a b =>
      cases n with
      | zero => exact .cons a b
      | succ n => exact ih n b
theorem DaL.rev {xs : List PyData} : ∀ {us : List V}, DaL K H us xs → DaL K H us.reverse xs.reverse := by
  induction xs with
  | nil => intro us h; cases h; exact .nil
  | cons x xs ih =>
    intro us h
    cases h with
    | cons a b =>
      rw [List.reverse_cons, List.reverse_cons]
      exact (ih b).app (.cons a .nil)
theorem DaL.ints : ∀ (ns : List Int), DaL K H (ns.map V.int) (ns.map PyData.int)
  | [] => .nil
  | n :: ns => .cons (.int n) (DaL.ints ns)
theorem DaL.bls : ∀ (ns : List Bool), DaL K H (ns.map V.bl) (ns.map PyData.bool)
  | [] => .nil
  | n :: ns => .cons (.bl n) (DaL.bls ns)
theorem DaL.rep {v : V} {d : PyData} (h : Da K H v d) : ∀ n, DaL K H (List.replicate n v) (List.replicate n d)
  | 0 => .nil
  | n + 1 => .cons h (DaL.rep h n)
theorem DaL.unints : ∀ {ns : List Int} {vs : List V}, DaL K H vs (ns.map PyData.int) → vs = ns.map V.int
  | [], _, h => by cases h; rfl
  | n :: ns, _, h => by
    cases h with
    | cons a b =>
      cases a
      rw [DaL.unints b]
      rfl
/-- the name of a datum's class -/
def tyN : PyData → String
  | .none => "NoneType"
  | .bool _ => "bool"
  | .int _ => "int"
  | .str _ => "str"
  | .list _ => "list"
  | .tuple _ => "tuple"
  | .dict _ => "dict"
theorem Da.ty {d : PyData} {v : V} (h : Da K H v d) : TyX K H v (.type (tyN d)) := by
  cases h with
  | non => exact .base .non
  | bl b => exact .base (.bl b)
  | int i => exact .base (.int i)
  | str x => exact .base (.str x)
  | lst a _ =>
    rcases a with (a | ⟨o, a⟩) | ⟨o, _, _, a, c, _⟩
    · exact .base (.lst a)
    · exact .base (.frz a)
    · exact .kList a c
  | tup a _ =>
    rcases a with (a | ⟨o, a⟩) | ⟨o, _, _, a, c, _⟩
    · exact .base (.tup a)
    · exact .fTuple a
    · exact .kTuple a c
  | dct a _ => exact .base (.dK a)
def isI : PyData → Bool
  | .int _ => true
  | .bool _ => true
  | _ => false
def isB : PyData → Bool
  | .bool _ => true
  | _ => false
def isL : PyData → Bool
  | .list _ => true
  | _ => false
def isT : PyData → Bool
  | .tuple _ => true
  | _ => false
theorem kit_int (d : PyData) : PySem.W.kitOne K (.type (tyN d)) (.type "int") = some (isI d) := by
  cases d
  · exact kit_ty (show kitB "NoneType" "int" = some false by decide +kernel)
  · exact kit_ty (show kitB "bool" "int" = some true by decide +kernel)
  · exact kit_ty (show kitB "int" "int" = some true by decide +kernel)
  · exact kit_ty (show kitB "str" "int" = some false by decide +kernel)
  · exact kit_ty (show kitB "list" "int" = some false by decide +kernel)
  · exact kit_ty (show kitB "tuple" "int" = some false by decide +kernel)
  · exact kit_ty (show kitB "dict" "int" = some false by decide +kernel)
theorem kit_bool (d : PyData) : PySem.W.kitOne K (.type (tyN d)) (.type "bool") = some (isB d) := by
  cases d
  · exact kit_ty (show kitB "NoneType" "bool" = some false by decide +kernel)
  · exact kit_ty (show kitB "bool" "bool" = some true by decide +kernel)
  · exact kit_ty (show kitB "int" "bool" = some false by decide +kernel)
  · exact kit_ty (show kitB "str" "bool" = some false by decide +kernel)
  · exact kit_ty (show kitB "list" "bool" = some false by decide +kernel)
  · exact kit_ty (show kitB "tuple" "bool" = some false by decide +kernel)
  · exact kit_ty (show kitB "dict" "bool" = some false by decide +kernel)
theorem kit_list (d : PyData) : PySem.W.kitOne K (.type (tyN d)) (.type "list") = some (isL d) := by
  cases d
  · exact kit_ty (show kitB "NoneType" "list" = some false by decide +kernel)
  · exact kit_ty (show kitB "bool" "list" = some false by decide +kernel)
  · exact kit_ty (show kitB "int" "list" = some false by decide +kernel)
  · exact kit_ty (show kitB "str" "list" = some false by decide +kernel)
  · exact kit_ty (show kitB "list" "list" = some true by decide +kernel)
  · exact kit_ty (show kitB "tuple" "list" = some false by decide +kernel)
  · exact kit_ty (show kitB "dict" "list" = some false by decide +kernel)
theorem kit_tuple (d : PyData) : PySem.W.kitOne K (.type (tyN d)) (.type "tuple") = some (isT d) := by
  cases d
  · exact kit_ty (show kitB "NoneType" "tuple" = some false by decide +kernel)
  · exact kit_ty (show kitB "bool" "tuple" = some false by decide +kernel)
  · exact kit_ty (show kitB "int" "tuple" = some false by decide +kernel)
  · exact kit_ty (show kitB "str" "tuple" = some false by decide +kernel)
  · exact kit_ty (show kitB "list" "tuple" = some false by decide +kernel)
  · exact kit_ty (show kitB "tuple" "tuple" = some true by decide +kernel)
  · exact kit_ty (show kitB "dict" "tuple" = some false by decide +kernel)
mutual
theorem Da.dp : ∀ (d : PyData) (v : V), d.canLay0 = true → Da K H v d → Dp K H v d
  | .none, _, _, h => by cases h; exact .non
  | .bool b, _, _, h => by cases h; exact .bl b
  | .int i, _, _, h => by cases h; exact .int i
  | .str x, _, _, h => by cases h; exact .str x
  | .list ds, _, c, h => by cases h with | lst a b => exact .lst a (DaL.dp ds _ (by simpa only [PyData.canLay0] using c) b)
  | .tuple ds, _, c, h => by cases h with | tup a b => exact .tup a (DaL.dp ds _ (by simpa only [PyData.canLay0] using c) b)
  | .dict es, _, c, _ => by simp only [PyData.canLay0] at c; cases c
theorem DaL.dp : ∀ (ds : List PyData) (vs : List V), PyData.canLayAll0 ds = true → DaL K H vs ds → DpAll K H vs ds
  | [], _, _, h => by cases h; exact .nil
  | d :: ds, _, c, h => by
    cases h with
    | cons a b =>
      have c' : PyData.canLay0 d = true ∧ PyData.canLayAll0 ds = true := by simpa only [PyData.canLayAll0, Bool.and_eq_true] using c
      exact .cons (Da.dp d _ c'.1 a) (DaL.dp ds _ c'.2 b)
end
end
section
variable {X : Cx} {pins : List (Addr × Obj)} {σ : L2.St} {H : Hp} {s : Shared}
theorem key_read {P : Program} {w : World} {k : Key} {u : Value} (h : (mixKind P w).is k u = true) (hp : Heap) (hs : (kD k).showable = true) (hz : (kD k).shown.length ≤ sizeLine) :
    Reads hp u (kD k) [] ∧ ReprIs P w u (kD k).shown := by
  rcases keyIs_shape (show keyIs k u = true from h) with ⟨i, t, rfl, rfl⟩ | ⟨x, t, rfl, rfl⟩
  · refine ⟨Reads.int i t, ?_⟩
    show ReprIs P w _ (PyData.int i).shown
    simp only [PyData.shown]
    exact ReprIs.int t (by simpa [kD, PyData.showable] using hs)
  · refine ⟨Reads.str x t, ?_⟩
    show ReprIs P w _ (PyData.str x).shown
    simp only [PyData.shown]
    exact ReprIs.str x t (by simpa only [kD, PyData.shown] using hz)
/-- the texts of all items, and what they read -/
structure Rk (P : Program) (w : World) (h : Heap) (u : Value) (d : PyData) : Prop where
  rd : ∃ as, Reads h u d as
  rp : ∃ bs, ReadAtMost h d.depth bs ∧ ReprK P w bs h d.depth u d.shown
structure RkL (P : Program) (w : World) (h : Heap) (us : List Value) (ds : List PyData) : Prop where
  rd : ∃ as, ReadsAll h us ds as
  rp : ∃ bs, ReadAtMost h (PyData.depthAll ds) bs ∧ ReprAllK P w bs h (PyData.depthAll ds) us (PyData.shownAll ds)
structure RkE (P : Program) (w : World) (h : Heap) (ents : List DictEntry) (es : List (PyData × PyData)) : Prop where
  rk : ∃ as, ReadsAll h (ents.map (·.key)) (es.map (·.1)) as
  rv : ∃ as, ReadsAll h (ents.map (·.val)) (es.map (·.2)) as
  rp : ∃ bs, ReadAtMost h (PyData.depthKv es) bs ∧ ReprEntriesK P w bs h (PyData.depthKv es) ents (PyData.shownKv es)
theorem rAM_mono {h : Heap} {n m : Nat} {bs : List Addr} (a : ReadAtMost h n bs) (l : n ≤ m) : ReadAtMost h m bs := a.mono l
theorem reK_more {P : Program} {w : World} {h : Heap} {as as' : List Addr} {n m : Nat} (hs : ∀ b ∈ as, b ∈ as') (l : n ≤ m) : ∀ {en : List DictEntry} {ts : List Str}, ReprEntriesK P w as h n en ts → ReprEntriesK P w as' h m en ts
  | _, _, .nil => .nil
  | _, _, .cons a b c => .cons ((a.more hs).level_le l) ((b.more hs).level_le l) (reK_more hs l c)
mutual
theorem rk_of (I : Inv X pins σ H s) : ∀ (d : PyData) (v : V) (u : Value), Da X.K H v d → RelV v u → d.showable = true → d.shown.length ≤ sizeLine → Rk X.prog X.w s.heap u d
  | .none, _, _, h, r, _, _ => by
    cases h
    cases r
    exact ⟨⟨_, Reads.none⟩, [], (fun _ z => nomatch z), by simp only [PyData.shown]; exact .of_is ReprIs.none _ _ _⟩
  | .bool b, _, _, h, r, _, _ => by
    cases h
    cases r
    exact ⟨⟨_, Reads.bool b⟩, [], (fun _ z => nomatch z), by simp only [PyData.shown]; exact .of_is (ReprIs.bool b) _ _ _⟩
  | .int i, _, _, h, r, hs, _ => by
    cases h
    obtain ⟨t, rfl⟩ := r
    exact ⟨⟨_, Reads.int i t⟩, [], (fun _ z => nomatch z), by simp only [PyData.shown]; exact .of_is (ReprIs.int t (by simpa [PyData.showable] using hs)) _ _ _⟩
  | .str x, _, _, h, r, _, hz => by
    cases h
    obtain ⟨t, rfl⟩ := r
    exact ⟨⟨_, Reads.str x t⟩, [], (fun _ z => nomatch z), by simp only [PyData.shown]; exact .of_is (ReprIs.str x t (by simpa only [PyData.shown] using hz)) _ _ _⟩
  | .list ds, _, _, h, r, hs, hz => by
    cases h with
    | lst hq ha =>
      cases r
      obtain ⟨its, rv, ⟨o, n, ho, hc, _, hd⟩, _⟩ := I.list hq
      have hz' : (listText (PyData.shownAll ds)).length ≤ sizeLine := by simpa only [PyData.shown] using hz
      obtain ⟨⟨as, hr⟩, bs, hb, hk⟩ := rkL_of I ds _ its ha rv (by simpa only [PyData.showable] using hs) (fun t ht => Nat.le_trans (listText_mem_le ht) hz')
      have rr := Reads.list ho hc hd hr
      refine ⟨⟨_, rr⟩, _ :: bs, ReadAtMost.cons rr (by simp only [PyData.depth]; omega) hb, ?_⟩
      have hna := not_mem_of_deeper rr (n := PyData.depthAll ds) (by simp only [PyData.depth]; omega) hb
      simp only [PyData.depth, PyData.shown]
      cases its with
      | nil =>
        cases hr
        simp only [PyData.shownAll, listText_nil]
        exact ReprK.listEmpty ho hc hd
      | cons x l => exact ReprK.list ho hc hd hna (by simpa using hk.length_eq) (fun i y e => hk.item i y (by simpa using e))
  | .tuple ds, _, _, h, r, hs, hz => by
    cases h with
    | tup hq ha =>
      cases r
      obtain ⟨its, rv, ⟨o, ho, hc, n, hd⟩, _⟩ := I.tuple hq
      have hz' : (tupleText (PyData.shownAll ds)).length ≤ sizeLine := by simpa only [PyData.shown] using hz
      obtain ⟨⟨as, hr⟩, bs, hb, hk⟩ := rkL_of I ds _ its ha rv (by simpa only [PyData.showable] using hs) (fun t ht => Nat.le_trans (tupleText_mem_le ht) hz')
      have rr := Reads.tuple ho hc hd hr
      refine ⟨⟨_, rr⟩, _ :: bs, ReadAtMost.cons rr (by simp only [PyData.depth]; omega) hb, ?_⟩
      have hna := not_mem_of_deeper rr (n := PyData.depthAll ds) (by simp only [PyData.depth]; omega) hb
      simp only [PyData.depth, PyData.shown]
      exact ReprK.tuple ho hc hd hna hk
  | .dict es, _, _, h, r, hs, hz => by
    cases h with
    | @dct a kvs _ hq ha =>
      cases r
      obtain ⟨_, hsy, vs, rv, o, ents, ep, ho, hc, hd, _, pr, _⟩ := (show ObjOk X.prog X.w H s.heap a (.dK kvs) from I.hok a _ hq)
      have hz' : (dictText (PyData.shownKv es)).length ≤ sizeLine := by simpa only [PyData.shown] using hz
      obtain ⟨⟨as, hrk⟩, ⟨as', hrv⟩, bs, hb, hk⟩ := rkE_of I es kvs vs ents.toList ha rv pr (by simpa only [PyData.showable] using hs) (fun t ht => Nat.le_trans (dictText_mem_le ht) hz')
      have rr := Reads.dict ho hc.1 hd hrk hrv
      refine ⟨⟨_, rr⟩, _ :: bs, ReadAtMost.cons rr (by simp only [PyData.depth]; omega) hb, ?_⟩
      have hna := not_mem_of_deeper rr (n := PyData.depthKv es) (by simp only [PyData.depth]; omega) hb
      simp only [PyData.depth, PyData.shown]
      exact ReprK.dict ho hc.1 hd hsy hna hk
theorem rkL_of (I : Inv X pins σ H s) : ∀ (ds : List PyData) (vs : List V) (us : List Value), DaL X.K H vs ds → Vals vs us → PyData.showableAll ds = true → (∀ t ∈ PyData.shownAll ds, t.length ≤ sizeLine) → RkL X.prog X.w s.heap us ds
  | [], _, _, h, r, _, _ => by
    cases h
    cases r
    exact ⟨⟨_, ReadsAll.nil⟩, [], (fun _ z => nomatch z), by simp only [PyData.shownAll]; exact .nil⟩
  | d :: ds, _, _, h, r, hs, hz => by
    cases h with
    | cons h1 h2 =>
      cases r with
      | cons r1 r2 =>
        have hs' : d.showable = true ∧ PyData.showableAll ds = true := by simpa only [PyData.showableAll, Bool.and_eq_true] using hs
        simp only [PyData.shownAll, List.mem_cons] at hz
        obtain ⟨⟨as, ra⟩, b1, hb1, k1⟩ := rk_of I d _ _ h1 r1 hs'.1 (hz _ (Or.inl rfl))
        obtain ⟨⟨bs, rb⟩, b2, hb2, k2⟩ := rkL_of I ds _ _ h2 r2 hs'.2 fun t ht => hz t (Or.inr ht)
        refine ⟨⟨_, ReadsAll.cons ra rb⟩, b1 ++ b2, ?_, ?_⟩
        · simp only [PyData.depthAll]
          exact (hb1.mono (Nat.le_max_left _ _)).append (hb2.mono (Nat.le_max_right _ _))
        · simp only [PyData.depthAll, PyData.shownAll]
          exact .cons ((k1.more fun b hb => List.mem_append_left _ hb).level_le (Nat.le_max_left _ _)) (k2.more_le (fun b hb => List.mem_append_right _ hb) (Nat.le_max_right _ _))
theorem rkE_of (I : Inv X pins σ H s) : ∀ (es : List (PyData × PyData)) (kvs : List (Key × V)) (vs : List (Key × Value)) (ents : List DictEntry), DaE X.K H kvs es → KV kvs vs → Pairs (mixKind X.prog X.w) ents vs → PyData.showableKv es = true →
    (∀ t ∈ PyData.shownKv es, t.length ≤ sizeLine) → RkE X.prog X.w s.heap ents es
  | [], _, _, _, h, r, p, _, _ => by
    cases h
    cases r
    cases p
    exact ⟨⟨_, ReadsAll.nil⟩, ⟨_, ReadsAll.nil⟩, [], (fun _ z => nomatch z), by simp only [PyData.shownKv]; exact .nil⟩
  | (k, d) :: es, _, _, _, h, r, p, hs, hz => by
    cases h with
    | @cons ky v kvs' _ _ h1 h2 =>
      cases r with
      | @cons _ q _ qs r1 r2 =>
        obtain ⟨kq, uq⟩ := q
        cases p with
        | @cons en _ ens _ p1 p2 p3 =>
          have hs' : ((kD ky).showable = true ∧ d.showable = true) ∧ PyData.showableKv es = true := by simpa only [PyData.showableKv, Bool.and_eq_true] using hs
          simp only [PyData.shownKv, List.mem_cons] at hz
          have hz0 := hz _ (Or.inl rfl)
          rw [strLen_append, strLen_append] at hz0
          have e1 : ky = kq := r1.1
          have p1' : (mixKind X.prog X.w).is ky en.key = true := by rw [e1]; exact p1
          have p2' : en.val = uq := p2
          obtain ⟨ka, kb⟩ := key_read p1' s.heap hs'.1.1 (by omega)
          obtain ⟨⟨as, ra⟩, b1, hb1, k1⟩ := rk_of I d v uq h1 r1.2 hs'.1.2 (by omega)
          obtain ⟨⟨as2, ra2⟩, ⟨as3, ra3⟩, b2, hb2, k2⟩ := rkE_of I es _ _ ens h2 r2 p3 hs'.2 fun t ht => hz t (Or.inr ht)
          refine ⟨⟨_, ReadsAll.cons ka ra2⟩, ⟨_, ReadsAll.cons (show Reads s.heap en.val d as by rw [p2']; exact ra) ra3⟩, b1 ++ b2, ?_, ?_⟩
          · simp only [PyData.depthKv]
            exact (hb1.mono (by omega)).append (hb2.mono (by omega))
          · simp only [PyData.depthKv, PyData.shownKv]
            refine .cons (.of_is kb _ _ _) ?_ (reK_more (fun b hb => List.mem_append_right _ hb) (by omega) k2)
            rw [p2']
            exact (k1.more fun b hb => List.mem_append_left _ hb).level_le (by omega)
end
/-- repr(x) -/
def rRepr (K : PySem.W.Frag) : List V → Hp → VK → Prop := fun xs H Q => ∃ v d, xs = [v] ∧ Da K H v d ∧ d.showable = true ∧ d.depth ≤ 60 ∧ d.shown.length ≤ sizeLine ∧ Q (.str d.shown) H
theorem call_repr (hgu : X.A.guards = some []) (hu : X.A.units + 64 < cLine) : CallR X (.builtin "repr") (rRepr X.K) := by
  intro pins s σ H xs us Q I r h
  obtain ⟨v, d, rfl, hD, hs, hdp, hz, q⟩ := h
  obtain ⟨u, rfl, rv⟩ := vals1 r
  have fin : ∀ (h' : Heap) (t : Tok) (tk : Nat), (∀ b o, s.heap.get? b = some o → h'.get? b = some o) → EP X pins σ Q (.str d.shown t) { s with heap := h', toks := tk } := fun h' t tk k => ⟨.str d.shown, H, I.kept (t' := tk) k, ⟨_, rfl⟩, q⟩
  have fin0 : ∀ (t : Tok) (tk : Nat), EP X pins σ Q (.str d.shown t) { s with toks := tk } := fun t tk => ⟨.str d.shown, H, I.tok tk, ⟨_, rfl⟩, q⟩
  cases d with
  | none =>
    cases hD
    cases rv
    have f := fin0 s.toks (s.toks + 1)
    simp only [PyData.shown] at f
    exact PySem.P.repr_of_none f
  | bool b =>
    cases hD
    cases rv
    have f := fin0 s.toks (s.toks + 1)
    simp only [PyData.shown] at f
    exact PySem.P.repr_of_bool f
  | int i =>
    cases hD
    obtain ⟨t, rfl⟩ := rv
    have f := fin0 s.toks (s.toks + 1)
    simp only [PyData.shown] at f
    exact PySem.P.repr_of_int (by simpa [PyData.showable] using hs) f
  | str x =>
    cases hD
    obtain ⟨t, rfl⟩ := rv
    have f := fin0 s.toks (s.toks + 1)
    simp only [PyData.shown] at f
    exact PySem.P.repr_of_str f (by simpa only [PyData.shown] using hz)
  | list ds =>
    cases hD with
    | lst hq ha =>
      cases rv
      obtain ⟨its, rv, ⟨o, n, ho, hc, _, hd⟩, _⟩ := I.list hq
      have hz' : (listText (PyData.shownAll ds)).length ≤ sizeLine := by simpa only [PyData.shown] using hz
      obtain ⟨⟨as, hr⟩, bs, hb, hk⟩ := rkL_of I ds _ its ha rv (by simpa only [PyData.showable] using hs) (fun t ht => Nat.le_trans (listText_mem_le ht) hz')
      have rr := Reads.list ho hc hd hr
      have hna := not_mem_of_deeper rr (n := PyData.depthAll ds) (by simp only [PyData.depth]; omega) hb
      simp only [PyData.depth] at hdp
      simp only [PyData.shown] at fin
      refine call_repr_slot (by omega) ⟨o, ho, hc⟩ F.slot_list_repr.toG ?_
      cases its with
      | nil =>
        cases hr
        simp only [PyData.shownAll, listText_nil] at fin
        exact call_list_repr_empty ⟨o, ho, hc⟩ ho hd ⟨_, _, rfl, fin s.heap _ _ fun _ _ e => e⟩
      | cons x l =>
        exact call_list_reprK ho hc hd hna (by simpa using hk.length_eq) (fun i y e => hk.item i y (by simpa using e)) hgu (fun b _ => Clear.nil b) (by show X.A.units + 1 + _ < cLine; omega) (fun _ _ e => e) (fun h' u tk k => ⟨_, _, rfl, fin h' u tk k⟩) hz'
  | tuple ds =>
    cases hD with
    | tup hq ha =>
      cases rv
      obtain ⟨its, rv, ⟨o, ho, hc, n, hd⟩, _⟩ := I.tuple hq
      have hz' : (tupleText (PyData.shownAll ds)).length ≤ sizeLine := by simpa only [PyData.shown] using hz
      obtain ⟨⟨as, hr⟩, bs, hb, hk⟩ := rkL_of I ds _ its ha rv (by simpa only [PyData.showable] using hs) (fun t ht => Nat.le_trans (tupleText_mem_le ht) hz')
      have rr := Reads.tuple ho hc hd hr
      have hna := not_mem_of_deeper rr (n := PyData.depthAll ds) (by simp only [PyData.depth]; omega) hb
      simp only [PyData.depth] at hdp
      simp only [PyData.shown] at fin
      refine call_repr_slot (by omega) ⟨o, ho, hc⟩ F.slot_tuple_repr ?_
      exact call_tuple_reprK ho hc hd hna hk hgu (fun b _ => Clear.nil b) (by show X.A.units + 1 + _ < cLine; omega) (fun _ _ e => e) (fun h' u tk k => ⟨_, _, rfl, fin h' u tk k⟩) hz'
  | dict es =>
    cases hD with
    | @dct a kvs _ hq ha =>
      cases rv
      obtain ⟨_, hsy, vs, rv, o, ents, ep, ho, hc, hd, _, pr, _⟩ := (show ObjOk X.prog X.w H s.heap a (.dK kvs) from I.hok a _ hq)
      have hz' : (dictText (PyData.shownKv es)).length ≤ sizeLine := by simpa only [PyData.shown] using hz
      obtain ⟨⟨as, hrk⟩, ⟨as', hrv⟩, bs, hb, hk⟩ := rkE_of I es kvs vs ents.toList ha rv pr (by simpa only [PyData.showable] using hs) (fun t ht => Nat.le_trans (dictText_mem_le ht) hz')
      have rr := Reads.dict ho hc.1 hd hrk hrv
      have hna := not_mem_of_deeper rr (n := PyData.depthKv es) (by simp only [PyData.depth]; omega) hb
      simp only [PyData.depth] at hdp
      simp only [PyData.shown] at fin
      refine call_repr_slot (by omega) ⟨o, ho, hc.1⟩ F.slot_dict_repr ?_
      exact call_dict_reprK ho hc.1 hd hsy hna hk hgu (fun b _ => Clear.nil b) (by show X.A.units + 1 + _ < cLine; omega) (fun _ _ e => e) (fun h' u tk k => ⟨_, _, rfl, fin h' u tk k⟩) hz'
end
end G

/-! ## G3: defs of the text as callable things; the bag of draws -/
namespace G
open PySem PySem.Spec PyProof.Rows L2
/-- at f stands the def fd -/
def Has (K : PySem.W.Frag) (f : Addr) (fd : FuncData) : Prop := ∃ o, K.lookup f = some o ∧ o.data = .func fd
theorem has_of {K : PySem.W.Frag} {x q : Str} {st : Stmt} {f : Addr} {fd : FuncData} (F : Fun K x q st f fd) : Has K f fd := by
  obtain ⟨oc, od, kV, doc, pm, an, cdv, ct, osl, rfl, lk, hcd⟩ := F.ex
  exact ⟨_, lk, rfl⟩
theorem Has.uniq {K : PySem.W.Frag} {f : Addr} {fd fd' : FuncData} (h : Has K f fd) (h' : Has K f fd') : fd = fd' := by
  obtain ⟨o, a, b⟩ := h
  obtain ⟨o', a', b'⟩ := h'
  rw [a] at a'
  cases a'
  rw [b] at b'
  cases b'
  rfl
/-- the def st stands under the name x of the module -/
def Def (K : PySem.W.Frag) (mg : Str → Option Value) (x : Str) (st : Stmt) (ps : List Str) : Prop := ∃ f fd, Fun K x x st f fd ∧ mg x = some (.ref f) ∧ Binds K fd ps []
/-- what stands under the name x keeps the promise -/
def Cal (P : Program) (w : World) (K : PySem.W.Frag) (mg : Str → Option Value) (base : Heap) (cx : CXT) (k : Nat) (x : Str) (ps : List Str) (sp : Sp) : Prop :=
  ∃ f fd, FnOk P w K mg base cx k f fd ps sp ∧ mg x = some (.ref f) ∧ PySem.W.keepIn K (.ref f) = true ∧ Binds K fd ps [] ∧ Has K f fd
def CalG (P : Program) (w : World) (K : PySem.W.Frag) (mg : Str → Option Value) (base : Heap) (cx : CXT) (k : Nat) (x : Str) (ps : List Str) (sp : Sp) : Prop :=
  ∃ f fd, FnG P w K mg base cx k f fd ps sp ∧ mg x = some (.ref f) ∧ PySem.W.keepIn K (.ref f) = true ∧ Binds K fd ps [] ∧ Has K f fd
section
variable {P : Program} {w : World} {K : PySem.W.Frag} {mg : Str → Option Value} {base : Heap} {cx : CXT} {k : Nat} {x : Str} {ps N : List Str} {sp : Sp} {st : Stmt}
theorem Cal.up {j : Nat} (c : Cal P w K mg base cx j x ps sp) (h : j ≤ k) : Cal P w K mg base cx k x ps sp := let ⟨f, fd, F, r⟩ := c; ⟨f, fd, F.mono h, r⟩
theorem CalG.up {j : Nat} (c : CalG P w K mg base cx j x ps sp) (h : j ≤ k) : CalG P w K mg base cx k x ps sp := let ⟨f, fd, F, r⟩ := c; ⟨f, fd, F.up h, r⟩
theorem Cal.g (c : Cal P w K mg base cx k x ps sp) : CalG P w K mg base cx k x ps sp := let ⟨f, fd, F, r⟩ := c; ⟨f, fd, FnG.of F, r⟩
theorem Def.ok (D : Def K mg x st ps) (S : FnScope N ps (defScope st)) (ln : ∀ vs H Q E, sp vs H Q E → vs.length = ps.length)
    (bd : ∀ (f : Addr) (cdv : Value) (A : Around) (out : List Env) (s : Shared) (H : Hp) (vs : List V) (Q : VK) (E : XK), Room k (A.deeper (envOfC x (defScope st) s.heap.objs.size f cdv)) → sp vs H Q E →
      ∃ t, PSs (cxOf CX0 P w K mg base N x (defScope st) f cdv A out s H E).nox (defBody st) t ∧ t { nx := fun _ H' => Q .non H', rt := Q } (start N vs) H) : Cal P w K mg base CX0 (k + 1) x ps sp := by
  obtain ⟨f, fd, F, m, b⟩ := D
  exact ⟨f, fd, F.ok S ln fun cdv A out s H vs Q E hr h => bd f cdv A out s H vs Q E hr h, m, F.kp, b, has_of F⟩
theorem Def.okX (D : Def K mg x st ps) (S : FnScope N ps (defScope st)) (ln : ∀ vs H Q E, sp vs H Q E → vs.length = ps.length)
    (bd : ∀ (f : Addr) (cdv : Value) (A : Around) (out : List Env) (s : Shared) (H : Hp) (vs : List V) (Q : VK) (E : XK), Room k (A.deeper (envOfC x (defScope st) s.heap.objs.size f cdv)) → sp vs H Q E →
      ∃ t, PSs (cxOf (L2.CX P w) P w K mg base N x (defScope st) f cdv A out s H E) (defBody st) t ∧ t { nx := fun _ H' => Q .non H', rt := Q } (start N vs) H) : Cal P w K mg base (L2.CX P w) (k + 1) x ps sp := by
  obtain ⟨f, fd, F, m, b⟩ := D
  exact ⟨f, fd, F.okX S ln fun cdv A out s H vs Q E hr h => bd f cdv A out s H vs Q E hr h, m, F.kp, b, has_of F⟩
theorem Def.okG (D : Def K mg x st ps) (S : FnScope N ps (defScope st)) (ln : ∀ vs H Q E, sp vs H Q E → vs.length = ps.length)
    (bd : ∀ (f : Addr) (cdv : Value) (A : Around) (out : List Env) (s : Shared) (H : Hp) (vs : List V) (Q : VK) (E : XK), A.guards = some [] → Room k (A.deeper (envOfC x (defScope st) s.heap.objs.size f cdv)) → sp vs H Q E →
      ∃ t, PSs (cxOf CX0 P w K mg base N x (defScope st) f cdv A out s H E).nox (defBody st) t ∧ t { nx := fun _ H' => Q .non H', rt := Q } (start N vs) H) : CalG P w K mg base CX0 (k + 1) x ps sp := by
  obtain ⟨f, fd, F, m, b⟩ := D
  exact ⟨f, fd, G.okG F S ln fun cdv A out s H vs Q E hg hr h => bd f cdv A out s H vs Q E hg hr h, m, F.kp, b, has_of F⟩
end
/-- from what the head has written out -/
theorem def_mk {K : PySem.W.Frag} {mg : Str → Option Value} {h : Heap} {x : Str} {st : Stmt} {ps : List Str} {f : Addr} {oc : Value} {od an : Option Addr} {osl : Array (Option Value)} {kV doc pm cdv ct : Value} (X : K.In h) (G : h.Ns mainGlobals mg)
    (a : PySem.W.nsIn K mainGlobals x = some (some (.ref f))) (l : K.lookup f = some ⟨oc, od, .func (PySem.W.fnOf x x (defArgs st) (defBody st) (defScope st) .none kV doc pm an cdv ct), osl⟩) (c : PySem.W.codeIn K cdv x = true) (k : PySem.W.keepIn K (.ref f) = true)
    (hb : ∀ (kV doc pm : Value) (an : Option Addr) (cdv ct : Value) (us : List Value), us.length = ps.length → bindArgs (PySem.W.fnOf x x (defArgs st) (defBody st) (defScope st) .none kV doc pm an cdv ct) ⟨us, []⟩ = pure (ps.zip us)) : Def K mg x st ps :=
  have F := fun_mk (st := st) l c k
  ⟨f, _, F, PySem.W.mg_of X G a, F.binds hb⟩
/-- the law's def, as its end wants it -/
theorem law_end {P : Program} {w : World} {K : PySem.W.Frag} {mg : Str → Option Value} {x p : Str} {st : Stmt} {k : Nat} {sp : Sp} {fa : Addr} {cx : CXT} (D : Def K mg x st [p]) (hfa : mg x = some (.ref fa))
    (hb : ∀ (kV doc pm : Value) (an : Option Addr) (cdv ct v : Value), bindArgs (PySem.W.fnOf x x (defArgs st) (defBody st) (defScope st) .none kV doc pm an cdv ct) ⟨[v], []⟩ = pure [(p, v)]) (F : ∀ base : Heap, K.In base → base.Ns mainGlobals mg → CalG P w K mg base cx k x [p] sp) :
    ∃ fd : FuncData, (∀ (s : Shared) (v : Value), BindsTo s fd ⟨[v], []⟩ [(p, v)]) ∧ ∀ base : Heap, K.In base → base.Ns mainGlobals mg → FnG P w K mg base cx k fa fd [p] sp := by
  obtain ⟨f, fd, fn, m, b⟩ := D
  rw [hfa] at m
  cases m
  refine ⟨fd, fun s v => ?_, fun base kb nb => ?_⟩
  · obtain ⟨oc, od, kV, doc, pm, an, cdv, ct, osl, rfl, lk, hcd⟩ := fn.ex
    exact .of_eq (hb kV doc pm an cdv ct v)
  obtain ⟨f', fd', G', m', _, _, hs⟩ := F base kb nb
  rw [hfa] at m'
  cases m'
  have e := hs.uniq (has_of fn)
  subst e
  exact G'
section
variable {X : Cx} {cx : CXT} {k : Nat} {ps : List Str} {sp : Sp} {E : XK} {x : Str} {p pos : Pos} {e : Expr} {es : List Expr} {t : TA}
theorem pe_c (c : Cal X.prog X.w X.K X.mg X.base cx k x ps sp) (hr : Room k X.A) (hx : Passes cx X E) (ha : PA X (e :: es) t) (hg : Gl X x := by rfl) (hdb : (x == ("__debug__" : Str)) = false := by decide)
    (he : starEach (e :: es) X.env = (false, eval e X.env) :: starEach es X.env := by rfl) (hpl : (backTo pos (starEach es X.env)).any (·.1) = false := by rfl) : PE X (.Call (.Name x p) (e :: es) [] pos) (tCall sp [] E t) := by
  obtain ⟨f, fd, F, m, kp, b, _⟩ := c
  exact pe_call F hr hg m kp b .nil hx ha hdb he hpl
theorem pe_cG (c : CalG X.prog X.w X.K X.mg X.base cx k x ps sp) (hgu : X.A.guards = some []) (hr : Room k X.A) (hx : Passes cx X E) (ha : PA X (e :: es) t) (hg : Gl X x := by rfl) (hdb : (x == ("__debug__" : Str)) = false := by decide)
    (he : starEach (e :: es) X.env = (false, eval e X.env) :: starEach es X.env := by rfl) (hpl : (backTo pos (starEach es X.env)).any (·.1) = false := by rfl) : PE X (.Call (.Name x p) (e :: es) [] pos) (tCall sp [] E t) := by
  obtain ⟨f, fd, F, m, kp, b, _⟩ := c
  exact pe_callG F hgu hr hg m kp b .nil hx ha hdb he hpl
/-- a built-in class by its name, as a value -/
theorem pe_ty {n : String} (hm : X.mg x = none) (hv : bootBuiltins x = some (.type n)) (hg : Gl X x := by rfl) (hn : x ≠ "__name__" := by decide) (hd : (x == ("__debug__" : Str)) = false := by decide) : PE X (.Name x pos) (tC (.ty n)) :=
  pe_bltn hg hm hv rfl hn hd
/-- a module's int -/
theorem pe_gi {i : Int} {tk : Tok} (hm : X.mg x = some (.int i tk)) (hg : Gl X x := by rfl) (hd : (x == ("__debug__" : Str)) = false := by decide) : PE X (.Name x pos) (tC (.int i)) := pe_glob hg hm ⟨_, rfl⟩ hd
/-- o[i] op= e of a list, i not negative: the read -/
def rGetN (K : PySem.W.Frag) : V → V → Hp → VK → Prop := fun o i H Q => ∃ (q : Addr) (xs : List V) (n : Nat) (v : V), o = .ref q ∧ i = .int (n : Int) ∧ SqL K H q xs ∧ xs[n]? = some v ∧ Q v H
theorem get_list : PGet X (rGetN X.K) := by
  intro pins s σ H o i ov iv Q I ro ri h
  obtain ⟨q, xs, n, z, rfl, rfl, hq, he, q⟩ := h
  cases ro
  obtain ⟨t, rfl⟩ := ri
  obtain ⟨its, r, pl, hz⟩ := I.list hq
  obtain ⟨u, eu, ru⟩ := r.get he
  have hn := line63
  have hlt := (List.getElem?_eq_some_iff.mp he).1
  exact wpAny_getItem_list pl.isList (by omega) (by omega) (by simpa using eu) ⟨z, H, I, ru, q⟩
end
/-- the built-in names that the module has not bound -/
structure Blt (mg : Str → Option Value) : Prop where
  len : mg "len" = Option.none
  isinstance : mg "isinstance" = Option.none
  int : mg "int" = Option.none
  bool : mg "bool" = Option.none
  list : mg "list" = Option.none
  tuple : mg "tuple" = Option.none
  str : mg "str" = Option.none
  all : mg "all" = Option.none
  any : mg "any" = Option.none
  zip : mg "zip" = Option.none
  range : mg "range" = Option.none
  abs : mg "abs" = Option.none
  repr : mg "repr" = Option.none
  min : mg "min" = Option.none
  max : mg "max" = Option.none
  sum : mg "sum" = Option.none
  sorted : mg "sorted" = Option.none
  enumerate : mg "enumerate" = Option.none
  reversed : mg "reversed" = Option.none
  set : mg "set" = Option.none
  dict : mg "dict" = Option.none
  ValueError : mg "ValueError" = Option.none
/-! ### rules with the written part as a letter (within comprehensions the context hangs on bound names) -/
section
variable (K : PySem.W.Frag) {X : Cx}
theorem kixL (h : X.K = K := by rfl) : IxR X (rIxL K) := by subst h; exact ix_list
theorem kixT (h : X.K = K := by rfl) : IxR X (rIxT K) := by subst h; exact ix_tup
theorem kixS (h : X.K = K := by rfl) : IxR X (rIx K) := by subst h; exact ix_seq
theorem kslL (h : X.K = K := by rfl) : SlR X (rSlL K) := by subst h; exact sl_list
theorem kslT (h : X.K = K := by rfl) : SlR X (rSlA K) := by subst h; exact sl_tupA
theorem kisi (h : X.K = K := by rfl) : CallR X (.builtin "isinstance") (rIsi K) := by subst h; exact call_isi
theorem klen (h : X.K = K := by rfl) : CallR X (.builtin "len") (fun xs H Q => ∃ x n, xs = [x] ∧ LenV K x H n ∧ Q (.int n) H) := by subst h; exact call_len
theorem kall (hc : X.calm = true := by rfl) (h : X.K = K := by rfl) : CallR X (.builtin "all") (rAll K) := by subst h; exact cr_all hc
theorem kany (hc : X.calm = true := by rfl) (h : X.K = K := by rfl) : CallR X (.builtin "any") (rAny K) := by subst h; exact cr_any hc
theorem ksum (hc : X.calm = true := by rfl) (h : X.K = K := by rfl) : CallR X (.builtin "sum") (rSum K) := by subst h; exact cr_sum hc
theorem krepr (hgu : X.A.guards = some []) (hu : X.A.units + 64 < cLine) (h : X.K = K := by rfl) : CallR X (.builtin "repr") (rRepr K) := by subst h; exact call_repr hgu hu
theorem keq (hu : X.A.units + 64 < cLine) (h : X.K = K := by rfl) : OpR X (compareOp .Eq) (rEqD K) := by subst h; exact op_eqD hu
theorem kne (hu : X.A.units + 64 < cLine) (h : X.K = K := by rfl) : OpR X (compareOp .NotEq) (rNeD K) := by subst h; exact op_neD hu
theorem kin (h : X.K = K := by rfl) : OpR X (compareOp .In) (rIn K false) := by subst h; exact op_in_seq
theorem knin (h : X.K = K := by rfl) : OpR X (compareOp .NotIn) (rIn K true) := by subst h; exact op_notIn_seq
theorem ktup (h : X.K = K := by rfl) : CallR X (.type "tuple") (fun xs H Q => ∃ p ys, xs = [.ref p] ∧ ((SqL K H p ys ∧ ∀ l, H l = none → Q (.ref l) (upd H l (.tup ys))) ∨ (SqT K H p ys ∧ Q (.ref p) H))) := by subst h; exact call_tuple_of
theorem klist (h : X.K = K := by rfl) : CallR X (.type "list") (fun xs H Q => ∃ p ys, xs = [.ref p] ∧ (SqL K H p ys ∨ SqT K H p ys) ∧ ∀ l, H l = none → Q (.ref l) (upd H l (.lst ys))) := by subst h; exact call_list_of
end
/-! ### the bag -/
/-- H without what stands at b -/
def hid (b : Addr) (H : Hp) : Hp := fun a => if a = b then none else H a
theorem hid_at {b : Addr} {H : Hp} : hid b H b = none := if_pos rfl
theorem hid_ne {b a : Addr} {H : Hp} (h : a ≠ b) : hid b H a = H a := if_neg h
theorem hid_le {b : Addr} {H : Hp} : Same (hid b H) H := fun a o e => by
  by_cases h : a = b
  · subst h; rw [hid_at] at e; cases e
  · rw [hid_ne h] at e; exact e
theorem hid_same {b : Addr} {H H' : Hp} (s : Same H H') : Same (hid b H) (hid b H') := fun a o e => by
  by_cases h : a = b
  · subst h; rw [hid_at] at e; cases e
  · rw [hid_ne h] at e ⊢; exact s _ _ e
theorem hid_upd {b : Addr} {H : Hp} {o : HO} : hid b (upd H b o) = hid b H := by
  funext a
  by_cases h : a = b
  · subst h; rw [hid_at, hid_at]
  · rw [hid_ne h, hid_ne h, upd_ne h]
theorem same_new {H : Hp} {p : Addr} {o : HO} (h : H p = none) : Same H (upd H p o) := fun a u e => by
  rw [upd_ne (ne_of_none e h)]
  exact e
/-- at b stands a bag, its cells at c -/
def BagC (b c : Addr) (H : Hp) : Prop := ∃ (a s k : Int) (cs : List Int), H b = some (.lst [.int a, .int s, .int k, .ref c]) ∧ H c = some (.lst (cs.map V.int)) ∧ c ≠ b ∧ 0 ≤ a ∧ (∀ z ∈ cs, 0 ≤ z) ∧ 0 ≤ s ∧ s < 2147483647 ∧ 0 ≤ k
def BagOk (b : Addr) (H : Hp) : Prop := ∃ c, BagC b c H
/-- on from H to H': the bag at b, with the same cells, all else kept -/
structure Go (b : Addr) (H H' : Hp) : Prop where
  bg : ∃ c, BagC b c H ∧ BagC b c H'
  sm : Same (hid b H) (hid b H')
theorem Go.bag {b : Addr} {H H' : Hp} (g : Go b H H') : BagOk b H' := let ⟨c, _, h⟩ := g.bg; ⟨c, h⟩
theorem BagC.up {b c : Addr} {H H' : Hp} (h : BagC b c H) (s : Same H H') : BagC b c H' := by
  obtain ⟨a, z, k, cs, h1, h2, r⟩ := h
  exact ⟨a, z, k, cs, s _ _ h1, s _ _ h2, r⟩
theorem BagC.uniq {b c c' : Addr} {H : Hp} (h : BagC b c H) (h' : BagC b c' H) : c = c' := by
  obtain ⟨a, z, k, cs, h1, _⟩ := h
  obtain ⟨a', z', k', cs', h1', _⟩ := h'
  rw [h1] at h1'
  cases h1'
  rfl
theorem BagOk.up {b : Addr} {H H' : Hp} (h : BagOk b H) (s : Same H H') : BagOk b H' := let ⟨c, q⟩ := h; ⟨c, q.up s⟩
theorem BagOk.ne {b p : Addr} {H : Hp} (h : BagOk b H) (e : H p = none) : p ≠ b := by
  obtain ⟨c, a, z, k, cs, h1, _⟩ := h
  exact fun q => by rw [q, h1] at e; cases e
theorem Go.refl {b : Addr} {H : Hp} (h : BagOk b H) : Go b H H := let ⟨c, q⟩ := h; ⟨⟨c, q, q⟩, Same.refl _⟩
theorem Go.of {b : Addr} {H H' : Hp} (h : BagOk b H) (s : Same H H') : Go b H H' := let ⟨c, q⟩ := h; ⟨⟨c, q, q.up s⟩, hid_same s⟩
theorem Go.trans {b : Addr} {H H1 H2 : Hp} (x : Go b H H1) (y : Go b H1 H2) : Go b H H2 := by
  obtain ⟨c, c1, c2⟩ := x.bg
  obtain ⟨d, d1, d2⟩ := y.bg
  have e := c2.uniq d1
  subst e
  exact ⟨⟨c, c1, d2⟩, x.sm.trans y.sm⟩
/-- a thing that H does not know may be changed -/
theorem Go.mut {b L : Addr} {o : HO} {H H' : Hp} (x : Go b H H') (h : H L = none) : Go b H (upd H' L o) := by
  obtain ⟨c, c1, c2⟩ := x.bg
  refine ⟨⟨c, c1, ?_⟩, fun a u e => ?_⟩
  · obtain ⟨a, z, k, cs, h1, h2, _⟩ := c1
    obtain ⟨a', z', k', cs', h1', h2', r⟩ := c2
    exact ⟨a', z', k', cs', by rw [upd_ne (ne_of_none h1 h)]; exact h1', by rw [upd_ne (ne_of_none h2 h)]; exact h2', r⟩
  · by_cases hb : a = b
    · subst hb; rw [hid_at] at e; cases e
    · have q := x.sm a u e
      rw [hid_ne hb] at e q ⊢
      rw [upd_ne (ne_of_none e h)]
      exact q
theorem Go.then {b : Addr} {H H1 H2 : Hp} (x : Go b H H1) (y : Same H1 H2) : Go b H H2 := x.trans (.of x.bag y)
theorem Go.new {b p : Addr} {o : HO} {H H1 : Hp} (x : Go b H H1) (h : H1 p = none) : Go b H (upd H1 p o) := x.then (same_new h)
theorem Go.da {K : PySem.W.Frag} {b : Addr} {H H' : Hp} {v : V} {d : PyData} (g : Go b H H') (h : Da K (hid b H) v d) : Da K (hid b H') v d := h.mono g.sm
theorem Go.dal {K : PySem.W.Frag} {b : Addr} {H H' : Hp} {v : List V} {d : List PyData} (g : Go b H H') (h : DaL K (hid b H) v d) : DaL K (hid b H') v d := h.mono g.sm
theorem da_of {K : PySem.W.Frag} {b : Addr} {H : Hp} {v : V} {d : PyData} (h : Da K (hid b H) v d) : Da K H v d := h.mono hid_le
theorem dal_of {K : PySem.W.Frag} {b : Addr} {H : Hp} {v : List V} {d : List PyData} (h : DaL K (hid b H) v d) : DaL K H v d := h.mono hid_le
/-- a new list, a new tuple of such data -/
theorem da_newL {K : PySem.W.Frag} {b p : Addr} {H : Hp} {vs : List V} {ds : List PyData} (hb : BagOk b H) (h : DaL K (hid b H) vs ds) (hp : H p = none) : Da K (hid b (upd H p (.lst vs))) (.ref p) (.list ds) :=
  .lst (.inl (.inl (by rw [hid_ne (hb.ne hp)]; exact upd_same))) (h.mono (hid_same (same_new hp)))
theorem da_newT {K : PySem.W.Frag} {b p : Addr} {H : Hp} {vs : List V} {ds : List PyData} (hb : BagOk b H) (h : DaL K (hid b H) vs ds) (hp : H p = none) : Da K (hid b (upd H p (.tup vs))) (.ref p) (.tuple ds) :=
  .tup (.inl (.inl (by rw [hid_ne (hb.ne hp)]; exact upd_same))) (h.mono (hid_same (same_new hp)))
theorem daL {K : PySem.W.Frag} {p : Addr} {H : Hp} {vs : List V} {ds : List PyData} (h : DaL K H vs ds) (hp : H p = none) : Da K (upd H p (.lst vs)) (.ref p) (.list ds) := .lst (.inl (.inl upd_same)) (h.mono (same_new hp))
theorem daT {K : PySem.W.Frag} {p : Addr} {H : Hp} {vs : List V} {ds : List PyData} (h : DaL K H vs ds) (hp : H p = none) : Da K (upd H p (.tup vs)) (.ref p) (.tuple ds) := .tup (.inl (.inl upd_same)) (h.mono (same_new hp))
/-- _law_take(bag, many): some int from 0 to many - 1 -/
def sp_take : Sp := fun vs H Q _ => ∃ (b : Addr) (m : Int), vs = [.ref b, .int m] ∧ BagOk b H ∧ 0 < m ∧ m < 2 ^ 200 ∧ ∀ (v : Int) (H' : Hp), 0 ≤ v → v < m → Go b H H' → Q (.int v) H'
/-- _law_bag(script) -/
def sp_bag (K : PySem.W.Frag) : Sp := fun vs H Q _ => ∃ (a : Addr) (ns : List Int), vs = [.ref a] ∧ SqL K H a (ns.map V.int) ∧ ns.length ≤ 1000 ∧ ∀ (b : Addr) (H' : Hp), H b = none → Same H H' → BagOk b H' → Q (.ref b) H'
end G

/-! ## G4: comprehensions whose items are values that hang on no heap; small things about data -/
namespace G
open PySem PySem.Spec PyProof.Rows L2
theorem cut_map {α : Type} (f : α → V) (ns : List α) (lo hi : Option Int) : ∃ a b, cutV (ns.map f) lo hi = ((ns.drop a).take b).map f := by
  have e : cutV (ns.map f) lo hi = ((ns.map f).drop _).take _ := rfl
  rw [← List.map_drop, ← List.map_take] at e
  exact ⟨_, _, e⟩
theorem same_free {H H' : Hp} {p : Addr} (s : Same H H') (h : H' p = none) : H p = none := s.free h
/-- [e for x in xs]: e a value that hangs on x alone -/
theorem lc_map {K : PySem.W.Frag} {a : Addr} {xs ys : List V} {j : Nat} {te : TE} {vs : List Nat} {σ : L2.St} {H1 : Hp} {D : Addr} {Qd : Hp → Prop} (hx : SqL K H1 a xs) (hD : H1 D = none) (hl : ys.length = xs.length) (hz : xs.length ≤ 100000)
    (hw : ∀ x, wipe ((wipe σ vs).set j (some x)) vs = wipe σ vs)
    (hs : ∀ (i : Nat) (x y : V), xs[i]? = some x → ys[i]? = some y → ∀ H, Same H1 H → ∀ Q : VK, (∀ H4, Same H H4 → Q y H4) → te ((wipe σ vs).set j (some x)) H Q)
    (hd : ∀ H, Same H1 H → H D = some (.lst ys) → Qd H) :
    ∃ W : Nat → Nat → Hp → Prop, (∃ m, W 0 m (upd H1 D (.lst []))) ∧ ∀ i m H, W i m H →
      ((Itl K a).stop i H ∧ Qd H) ∨ ((Itl K a).go i H ∧ ∃ Nx : Hp → Prop, (∀ H', Nx H' → ∃ m', m' < m ∧ W (i + 1) m' H') ∧ ∀ x H', (Itl K a).yld i H x H' → gName j x (wipe σ vs) H' fun σ2 H2 => wipe σ2 vs = wipe σ vs ∧ tYes σ2 H2 fun b H3 =>
        if b = true then te σ2 H3 fun y H4 => ∃ acc, H4 D = some (.lst acc) ∧ acc.length < sizeLine ∧ Nx (upd H4 D (.lst (acc ++ [y]))) else Nx H3) := by
  refine lc_list (K := K) (a := a) (xs := xs) (fun i H => Same H1 H ∧ H D = some (.lst (ys.take i))) ⟨same_new hD, upd_same⟩ (fun i H _ p => sql_up p.1 hx) (fun i x H hi p => ?_) (fun H p => hd H p.1 (by rw [p.2, ← hl, List.take_length]))
  have hlt := (List.getElem?_eq_some_iff.mp hi).1
  have hy : ys[i]? = some ys[i] := List.getElem?_eq_getElem (by omega)
  refine ⟨hw x, ?_⟩
  unfold tYes
  refine iteT (hs i x ys[i] hi hy H p.1 _ fun H4 e4 => ⟨ys.take i, e4 _ _ p.2, ?_, ?_, ?_⟩)
  · rw [List.length_take, sizeLine_eq]; omega
  · exact fun b o e => by
      rw [upd_ne (ne_of_none e hD)]
      exact e4 _ _ (p.1 _ _ e)
  · rw [upd_same, List.take_succ, hy]
    rfl
theorem boolAll {α : Type} (l : List α) (f : α → Bool) : ((l.map f).all id) = l.all f := by
  induction l with
  | nil => rfl
  | cons a l ih => simp
/-- what is true of each datum -/
theorem DaL.all2 {K : PySem.W.Frag} {H : Hp} {ds : List PyData} {vs : List V} {i : Nat} {v : V} (h : DaL K H vs ds) (e : vs[i]? = some v) : ∃ d, ds[i]? = some d ∧ Da K H v d := h.getV e
end G

/-! ## G5: kinds: what the predicates say of data; their promises -/
namespace G
open PySem PySem.Spec PyProof.Rows L2
def isInt : PyData → Bool
  | .int _ => true
  | _ => false
theorem isInt_eq (d : PyData) : isInt d = (isI d && !isB d) := by cases d <;> rfl
/-- an integer from lo to hi -/
def betw (d : PyData) (lo hi : Int) : Bool := match d with
  | .int i => decide (lo ≤ i) && decide (i ≤ hi)
  | _ => false
def sp_is_integer (K : PySem.W.Frag) : Sp := fun vs H Q _ => ∃ v d, vs = [v] ∧ Da K H v d ∧ Q (.bl (isInt d)) H
def sp_is_between (K : PySem.W.Frag) : Sp := fun vs H Q _ => ∃ v d lo hi, vs = [v, .int lo, .int hi] ∧ Da K H v d ∧ Q (.bl (betw d lo hi)) H
def sp_is_amount (K : PySem.W.Frag) : Sp := fun vs H Q _ => ∃ v d, vs = [v] ∧ Da K H v d ∧ Q (.bl (betw d 0 1000000000000000000000000000000)) H
def sp_is_count (K : PySem.W.Frag) : Sp := fun vs H Q _ => ∃ v d, vs = [v] ∧ Da K H v d ∧ Q (.bl (betw d 1 1000000000000000000)) H
def sp_is_broker (K : PySem.W.Frag) : Sp := fun vs H Q _ => ∃ v d n, vs = [v, .int n] ∧ Da K H v d ∧ Q (.bl (betw d 0 (n - 1))) H
end G
namespace G
open PySem PySem.Spec PyProof.Rows L2
def ltD : PyData → PyData → Bool
  | .int a, .int b => decide (a < b)
  | _, _ => false
/-- each less than the next -/
def ascD (ds : List PyData) : Bool := (List.zipWith ltD ds (ds.drop 1)).all id
def isSetD (d : PyData) (n : Int) : Bool := match d with
  | .list ds => ds.all (fun x => betw x 0 (n - 1)) && ascD ds
  | _ => false
end G

/-! ## G6: data that can be shown; alike; odd values; comprehensions by a walk -/
namespace G
open PySem PySem.Spec PyProof.Rows L2
/-- the datum can be shown, is nested at most n deep, and its text has at most B signs -/
structure Sm (n B : Nat) (d : PyData) : Prop where
  sh : d.showable = true
  dp : d.depth ≤ n
  ln : d.shown.length ≤ B
theorem Sm.up {n m A B : Nat} {d : PyData} (h : Sm n A d) (a : n ≤ m) (b : A ≤ B) : Sm m B d := ⟨h.sh, Nat.le_trans h.dp a, Nat.le_trans h.ln b⟩
theorem Sm.none : Sm 0 5 PyData.none := ⟨rfl, Nat.le_refl _, by decide +kernel⟩
theorem Sm.bool (b : Bool) : Sm 0 5 (PyData.bool b) := by cases b <;> exact ⟨rfl, Nat.le_refl _, by decide +kernel⟩
theorem Sm.int {i : Int} (h : i.natAbs < 10 ^ 45) : Sm 0 46 (PyData.int i) := by
  refine ⟨?_, Nat.le_refl _, ?_⟩
  · simp only [PyData.showable, decide_eq_true_eq]
    exact Nat.lt_trans (PySem.Flt.log2_lt_of (k := 200) (by decide) (Nat.lt_trans h (by decide))) (by decide)
  · simp only [PyData.shown]
    have e := int_text_length_le10 (a := i) (k := 45) (by decide) h
    rw [PySem.ofString_length]
    exact e
theorem sm_all {n B : Nat} : ∀ {ds : List PyData}, (∀ d ∈ ds, Sm n B d) → PyData.showableAll ds = true ∧ PyData.depthAll ds ≤ n ∧ ((PyData.shownAll ds).map (·.length)).sum ≤ B * ds.length ∧ (PyData.shownAll ds).length = ds.length
  | [], _ => by simp [PyData.showableAll, PyData.depthAll, PyData.shownAll]
  | d :: ds, h => by
    obtain ⟨a, b, c, e⟩ := sm_all (ds := ds) fun x hx => h x (List.mem_cons_of_mem _ hx)
    have hd := h d List.mem_cons_self
    have h1 := hd.dp
    have h2 := hd.ln
    refine ⟨?_, ?_, ?_, ?_⟩
    · simp only [PyData.showableAll, hd.sh, a, Bool.and_self]
    · simp only [PyData.depthAll]
      omega
    · simp only [PyData.shownAll, List.map_cons, List.sum_cons, List.length_cons, Nat.mul_add, Nat.mul_one]
      omega
    · simp only [PyData.shownAll, List.length_cons, e]
theorem Sm.list {n B m : Nat} {ds : List PyData} (h : ∀ d ∈ ds, Sm n B d) (hm : ds.length ≤ m) : Sm (n + 1) ((B + 2) * m + 3) (PyData.list ds) := by
  obtain ⟨a, b, c, e⟩ := sm_all h
  refine ⟨by simpa only [PyData.showable] using a, by simp only [PyData.depth]; omega, ?_⟩
  simp only [PyData.shown]
  have q := listText_len_le (PyData.shownAll ds)
  rw [e] at q
  have l1 : B * ds.length ≤ B * m := Nat.mul_le_mul_left _ hm
  have l2 : (B + 2) * m = B * m + 2 * m := Nat.add_mul _ _ _
  omega
theorem Sm.tuple {n B m : Nat} {ds : List PyData} (h : ∀ d ∈ ds, Sm n B d) (hm : ds.length ≤ m) : Sm (n + 1) ((B + 2) * m + 3) (PyData.tuple ds) := by
  obtain ⟨a, b, c, e⟩ := sm_all h
  refine ⟨by simpa only [PyData.showable] using a, by simp only [PyData.depth]; omega, ?_⟩
  simp only [PyData.shown]
  have q := tupleText_len_le (PyData.shownAll ds)
  rw [e] at q
  have l1 : B * ds.length ≤ B * m := Nat.mul_le_mul_left _ hm
  have l2 : (B + 2) * m = B * m + 2 * m := Nat.add_mul _ _ _
  omega
/-- how many items -/
def lenD : PyData → Nat
  | .list xs => xs.length
  | .tuple xs => xs.length
  | _ => 0
/-- found and due stand for the same: they are alike -/
def sp_alike (K : PySem.W.Frag) : Sp := fun vs H Q _ => ∃ v u d, vs = [v, u] ∧ Da K H v d ∧ Da K H u d ∧ d.canLay0 = true ∧ Sm 60 1000000 d ∧ ∀ H', Same H H' → Q (.bl true) H'
theorem shaped_of {d : PyData} {B : Nat} (h : Sm 60 B d) (c : d.canLay0 = true) : SeqAt.shaped d = true := by
  unfold SeqAt.shaped
  rw [c, Bool.true_and]
  exact decide_eq_true (Nat.le_trans h.dp (by decide))
section
variable {X : Cx}
/-- 'a' * 99 -/
theorem op_mulS : OpR X (binaryOp .Mult) (fun x y H Q => ∃ z n, x = .str z ∧ y = .int n ∧ MulOk z n ∧ Q (.str (Txt.mul z n)) H) := by
  intro pins s σ H x y v u Q I rx ry h
  obtain ⟨z, n, rfl, rfl, ok, q⟩ := h
  obtain ⟨t, rfl⟩ := rx
  obtain ⟨t', rfl⟩ := ry
  exact SB.mul ok fun t'' k => ⟨.str _, H, I.tok k, ⟨_, rfl⟩, q⟩
end
/-- a comprehension over anything that is walked: in turn i the item f i, or none -/
theorem lc_gen {J : It} {n : Nat} {Gd : Hp → Prop} {Y : Nat → Hp → V → Hp → Prop} (w : Walk J n Gd Y) {g : TG} {tt : TT} {te : TE} {vs : List Nat} {σ : L2.St} {H1 : Hp} {D : Addr} {Qd : Hp → Prop} (f : Nat → Option V) (hD : H1 D = none) (hz : n ≤ 100000)
    (hG : ∀ H, Same H1 H → Gd H)
    (hs : ∀ i x H H', i < n → Same H1 H → Y i H x H' → ∀ (R1 : VK) (R0 : Hp → Prop), (∀ y H4, f i = some y → Same H H4 → R1 y H4) → (f i = none → ∀ H4, Same H H4 → R0 H4) →
      g x (wipe σ vs) H' fun σ2 H2 => wipe σ2 vs = wipe σ vs ∧ tt σ2 H2 fun b H3 => if b = true then te σ2 H3 R1 else R0 H3)
    (hd : ∀ H, Same H1 H → H D = some (.lst ((List.range n).filterMap f)) → Qd H) :
    ∃ W : Nat → Nat → Hp → Prop, (∃ m, W 0 m (upd H1 D (.lst []))) ∧ ∀ i m H, W i m H →
      (J.stop i H ∧ Qd H) ∨ (J.go i H ∧ ∃ Nx : Hp → Prop, (∀ H', Nx H' → ∃ m', m' < m ∧ W (i + 1) m' H') ∧ ∀ x H', J.yld i H x H' → g x (wipe σ vs) H' fun σ2 H2 => wipe σ2 vs = wipe σ vs ∧ tt σ2 H2 fun b H3 =>
        if b = true then te σ2 H3 fun y H4 => ∃ acc, H4 D = some (.lst acc) ∧ acc.length < sizeLine ∧ Nx (upd H4 D (.lst (acc ++ [y]))) else Nx H3) := by
  refine lc_it w (fun i H => Same H1 H ∧ H D = some (.lst ((List.range i).filterMap f))) ⟨same_new hD, upd_same⟩ (fun i H _ p => hG H p.1) (fun i x H H' hi p y => ?_) (fun H p => hd H p.1 p.2)
  refine hs i x H H' hi p.1 y _ _ (fun y H4 hf e4 => ⟨_, e4 _ _ p.2, ?_, ?_, ?_⟩) (fun hf H4 e4 => ⟨p.1.trans e4, ?_⟩)
  · have q : ((List.range i).filterMap f).length ≤ (List.range i).length := List.length_filterMap_le f _
    rw [List.length_range] at q
    rw [sizeLine_eq]
    omega
  · exact fun b o e => by
      rw [upd_ne (ne_of_none e hD)]
      exact e4 _ _ (p.1 _ _ e)
  · rw [upd_same, List.range_succ, List.filterMap_append]
    simp [hf]
  · rw [e4 _ _ p.2, List.range_succ, List.filterMap_append]
    simp [hf]
theorem fm_take (ys : List V) : ∀ n, n ≤ ys.length → (List.range n).filterMap (fun i => ys[i]?) = ys.take n
  | 0, _ => by simp
  | n + 1, h => by
    rw [List.range_succ, List.filterMap_append, fm_take ys n (by omega), List.take_succ]
    have e : ys[n]? = some ys[n] := List.getElem?_eq_getElem (by omega)
    simp [e]
theorem fm_get (ys : List V) : (List.range ys.length).filterMap (fun i => ys[i]?) = ys := by
  rw [fm_take ys _ (Nat.le_refl _), List.take_length]
/-- the v-th of such values -/
theorem DaL.pick {K : PySem.W.Frag} {H : Hp} {vs : List V} {ds : List PyData} {v : Int} (h : DaL K H vs ds) (h0 : 0 ≤ v) (h1 : v < (ds.length : Int)) : ∃ x d, atI vs v = some x ∧ d ∈ ds ∧ ds[v.toNat]? = some d ∧ Da K H x d := by
  obtain ⟨n, rfl⟩ := Int.eq_ofNat_of_zero_le h0
  have hn : n < ds.length := by omega
  obtain ⟨x, e, hx⟩ := h.get (List.getElem?_eq_getElem hn)
  exact ⟨x, ds[n], atI_nat e, List.getElem_mem hn, by simpa using List.getElem?_eq_getElem hn, hx⟩
end G
namespace G
open PySem PySem.Spec PyProof.Rows L2
theorem cut_1 (xs : List V) : cutV xs (some 1) none = xs.drop 1 := by
  cases xs with
  | nil => rfl
  | cons x xs =>
    have e : cutV (x :: xs) (some 1) none = ((x :: xs).drop (min 1 (xs.length + 1))).take ((xs.length + 1) - min 1 (xs.length + 1)) := rfl
    rw [e, Nat.min_eq_left (by omega)]
    simp
theorem betw_int {d : PyData} {lo hi : Int} (h : betw d lo hi = true) : ∃ i, d = .int i := by
  cases d with
  | int i => exact ⟨i, rfl⟩
  | _ => cases h
def sp_is_set (K : PySem.W.Frag) : Sp := fun vs H Q _ => ∃ v d n, vs = [v, .int n] ∧ Da K H v d ∧ lenD d ≤ 100000 ∧ ∀ H', Same H H' → Q (.bl (isSetD d n)) H'
end G
namespace G
open PySem PySem.Spec PyProof.Rows L2
/-- the places (from 1) where the next is not greater -/
def notAsc (bs : List Bool) (i : Nat) : Option Int := if bs[i]? = some true then none else some (1 + (i : Int))
theorem fm_map {β : Type} (f : Nat → Option β) (g : β → V) (n : Nat) : (List.range n).filterMap (fun i => (f i).map g) = ((List.range n).filterMap f).map g := by
  induction n with
  | zero => rfl
  | succ n ih =>
    rw [List.range_succ, List.filterMap_append, List.filterMap_append, ih, List.map_append]
    cases h : f n <;> simp [h]
theorem canLay_ints : ∀ ns : List Int, PyData.canLayAll0 (ns.map PyData.int) = true
  | [] => rfl
  | n :: ns => by rw [List.map_cons, PyData.canLayAll0, canLay_ints ns]; rfl
theorem depth_ints : ∀ ns : List Int, PyData.depthAll (ns.map PyData.int) = 0
  | [] => rfl
  | n :: ns => by rw [List.map_cons, PyData.depthAll, depth_ints ns]; rfl
theorem shaped_ints (ns : List Int) : SeqAt.shaped (.list (ns.map PyData.int)) = true := by
  unfold SeqAt.shaped
  rw [PyData.canLay0, canLay_ints, PyData.depth, depth_ints]
  rfl
theorem eqv_nil (ns : List Int) : PyData.eqv (.list (ns.map PyData.int)) (.list []) = ns.isEmpty := by
  cases ns <;> simp [PyData.eqv, PyData.eqvAll]
theorem isE_app {α : Type} (a b : List α) : (a ++ b).isEmpty = (a.isEmpty && b.isEmpty) := by
  cases a <;> simp
theorem notAsc_go (bs : List Bool) : ∀ n, n ≤ bs.length → ((List.range n).filterMap (notAsc bs)).isEmpty = (bs.take n).all id
  | 0, _ => by simp
  | n + 1, h => by
    have e : bs[n]? = some bs[n] := List.getElem?_eq_getElem (by omega)
    rw [List.range_succ, List.filterMap_append, isE_app, notAsc_go bs n (by omega), List.take_succ, List.all_append, e]
    congr 1
    unfold notAsc
    cases hb : bs[n] <;> simp [e, hb]
theorem notAsc_all (ds : List PyData) : ((List.range (List.zipWith ltD ds (ds.drop 1)).length).filterMap (notAsc (List.zipWith ltD ds (ds.drop 1)))).isEmpty = (true && ascD ds) := by
  rw [notAsc_go _ _ (Nat.le_refl _), List.take_length]
  rfl
end G
namespace G
open PySem PySem.Spec PyProof.Rows L2
theorem Go.get {b p : Addr} {o : HO} {H H' : Hp} (g : Go b H H') (h : H p = some o) (n : p ≠ b) : H' p = some o := by
  have q := g.sm p o (by rw [hid_ne n]; exact h)
  rw [hid_ne n] at q
  exact q
theorem cp10 {j : Int} (h0 : 0 ≤ j) (h1 : j ≤ 1000000) : CPow 10 j := ⟨h0, h1, by decide⟩
theorem pickI {ns : List Int} {v : Int} (h0 : 0 ≤ v) (h1 : v < (ns.length : Int)) : ∃ z, z ∈ ns ∧ atI (ns.map V.int) v = some (.int z) := by
  obtain ⟨n, rfl⟩ := Int.eq_ofNat_of_zero_le h0
  have hn : n < ns.length := by omega
  exact ⟨ns[n], List.getElem_mem hn, atI_nat (by rw [List.getElem?_map, List.getElem?_eq_getElem hn]; rfl)⟩
def sp_number : Sp := fun vs H Q _ => ∃ b, vs = [.ref b] ∧ BagOk b H ∧ ∀ (v : Int) (H' : Hp), v.natAbs < 10 ^ 45 → Go b H H' → Q (.int v) H'
/-- some small datum -/
def sp_odd (K : PySem.W.Frag) : Sp := fun vs H Q _ => ∃ b, vs = [.ref b] ∧ BagOk b H ∧ ∀ (v : V) (d : PyData) (H' : Hp), Go b H H' → Da K (hid b H') v d → Sm 4 100000 d → lenD d ≤ 2000 → Q v H'
def sp_brokers (K : PySem.W.Frag) : Sp := fun vs H Q _ => ∃ b n, vs = [.ref b, .int n] ∧ BagOk b H ∧ 2 ≤ n ∧ n ≤ 10 ∧ ∀ (v : V) (d : PyData) (H' : Hp), Go b H H' → Da K (hid b H') v d → Sm 5 4000000 d → lenD d ≤ 100 → Q v H'
end G
namespace G
open PySem PySem.Spec PyProof.Rows L2
def nestL : Nat → PyData
  | 0 => .list []
  | n + 1 => .list [nestL n]
abbrev oddVA : List V := [V.int 0, V.int 1, V.int (-1), V.int 10, V.int 9, V.int (10 ^ (18 : Int).toNat), V.int (10 ^ (18 : Int).toNat + 1), V.int (10 ^ (30 : Int).toNat), V.int (10 ^ (30 : Int).toNat + 1), V.int (-10 ^ (39 : Int).toNat), V.bl true, V.bl false, V.non, V.str "", V.str "1"]
def oddA : List PyData := [.int 0, .int 1, .int (-1), .int 10, .int 9, .int (10 ^ (18 : Int).toNat), .int (10 ^ (18 : Int).toNat + 1), .int (10 ^ (30 : Int).toNat), .int (10 ^ (30 : Int).toNat + 1), .int (-10 ^ (39 : Int).toNat), .bool true, .bool false, .none, .str "", .str "1"]
def oddB0 : List PyData := [.tuple [], .tuple [.int 0], .tuple [.int 0, .int 1], .tuple [.int 0, .int 1, .int 2], .tuple [.int 1, .int 0], .list [], .list [.int 0], .list [.int 0, .int 1], .list [.list [.int 0, .int 1]], .dict [], .dict [(.int 0, .int 1)], nestL 3]
def oddB : List PyData := [.tuple [], .tuple [.int 0], .tuple [.int 0, .int 1], .tuple [.int 0, .int 1, .int 2], .tuple [.int 1, .int 0], .list [], .list [.int 0], .list [.int 0, .int 1], .list [.list [.int 0, .int 1]], .dict [], .dict [(.int 0, .int 1)], nestL 3, .list (List.replicate 2000 (.int 0))]
theorem flat_rep {α : Type} (a : α) : ∀ n : Nat, (List.replicate n [a]).flatten = List.replicate n a
  | 0 => rfl
  | n + 1 => by rw [List.replicate_succ, List.flatten_cons, flat_rep a n]; rfl
theorem mul99 : MulOk "a" 99 := ⟨by decide +kernel, fun _ _ => by decide +kernel, fun _ _ => by decide +kernel⟩
def smB (d : PyData) : Bool := d.showable && decide (d.depth ≤ 4) && decide (d.shown.length ≤ 100000) && decide (lenD d ≤ 2000)
theorem of_smB {d : PyData} (h : smB d = true) : Sm 4 100000 d ∧ lenD d ≤ 2000 := by
  unfold smB at h
  simp only [Bool.and_eq_true, decide_eq_true_eq] at h
  exact ⟨⟨h.1.1.1, h.1.1.2, h.1.2⟩, h.2⟩
theorem oddA_ok : oddA.all smB = true := by decide +kernel
theorem oddB_ok : oddB0.all smB = true := by decide +kernel
theorem oddC_ok : smB (.str (Txt.mul "a" 99)) = true := by decide +kernel
theorem odd_ok (d : PyData) (h : d ∈ (oddA ++ oddB) ++ [PyData.str (Txt.mul "a" 99)]) : Sm 4 100000 d ∧ lenD d ≤ 2000 := by
  rcases List.mem_append.mp h with h | h
  · rcases List.mem_append.mp h with h | h
    · exact of_smB (List.all_eq_true.mp oddA_ok d h)
    · have e : oddB = oddB0 ++ [.list (List.replicate 2000 (.int 0))] := rfl
      rw [e] at h
      rcases List.mem_append.mp h with h | h
      · exact of_smB (List.all_eq_true.mp oddB_ok d h)
      · rw [List.mem_singleton.mp h]
        refine ⟨(Sm.list (n := 0) (B := 46) (m := 2000) (fun d hd => ?_) (by simp)).up (by decide) (by decide), by simp [lenD]⟩
        rw [(List.mem_replicate.mp hd).2]
        exact Sm.int (by decide)
  · rw [List.mem_singleton.mp h]
    exact of_smB oddC_ok
end G
namespace G
open PySem PySem.Spec PyProof.Rows L2
/-- at most N ints, none of more than 45 digits -/
def SmI (N : Nat) (ms : List Int) : Prop := ms.length ≤ N ∧ ∀ z ∈ ms, z.natAbs < 10 ^ 45
theorem cutI {N : Nat} {ns : List Int} (h : SmI N ns) (lo hi : Option Int) : ∃ ms, cutV (ns.map V.int) lo hi = ms.map V.int ∧ SmI N ms := by
  obtain ⟨a, b, e⟩ := cut_map V.int ns lo hi
  refine ⟨_, e, ?_, fun z hz => h.2 z (List.mem_of_mem_drop (List.mem_of_mem_take hz))⟩
  have h1 := h.1
  rw [List.length_take, List.length_drop]
  omega
theorem SmI.sm {N : Nat} {ms : List Int} (h : SmI N ms) : ∀ d ∈ ms.map PyData.int, Sm 0 46 d := fun d hd => by
  obtain ⟨z, hz, rfl⟩ := List.mem_map.mp hd
  exact Sm.int (h.2 z hz)
theorem SmI.app {N M : Nat} {ms ns : List Int} (h : SmI N ms) (k : SmI M ns) : SmI (N + M) (ms ++ ns) := by
  refine ⟨?_, fun z hz => ?_⟩
  · rw [List.length_append]
    exact Nat.add_le_add h.1 k.1
  · rcases List.mem_append.mp hz with hz | hz
    · exact h.2 z hz
    · exact k.2 z hz
theorem SmI.rev {N : Nat} {ms : List Int} (h : SmI N ms) : SmI N ms.reverse := ⟨by rw [List.length_reverse]; exact h.1, fun z hz => h.2 z (List.mem_reverse.mp hz)⟩
theorem SmI.one {z : Int} (h : z.natAbs < 10 ^ 45) : SmI 1 [z] := ⟨Nat.le_refl _, fun y hy => by rw [List.mem_singleton.mp hy]; exact h⟩
/-- a list, a tuple of such ints -/
theorem SmI.lst {N : Nat} {ms : List Int} (h : SmI N ms) (hN : N ≤ 60) : Sm 5 4000000 (.list (ms.map PyData.int)) ∧ lenD (.list (ms.map PyData.int)) ≤ 100 := by
  have h1 := h.1
  refine ⟨(Sm.list (m := 60) h.sm (by rw [List.length_map]; omega)).up (by decide) (by decide), ?_⟩
  show (ms.map PyData.int).length ≤ 100
  rw [List.length_map]
  omega
theorem SmI.tup {N : Nat} {ms : List Int} (h : SmI N ms) (hN : N ≤ 60) : Sm 5 4000000 (.tuple (ms.map PyData.int)) ∧ lenD (.tuple (ms.map PyData.int)) ≤ 100 := by
  have h1 := h.1
  refine ⟨(Sm.tuple (m := 60) h.sm (by rw [List.length_map]; omega)).up (by decide) (by decide), ?_⟩
  show (ms.map PyData.int).length ≤ 100
  rw [List.length_map]
  omega
theorem sz60 {n : Nat} (h : n ≤ 100000) : n ≤ sizeLine := Nat.le_trans h (by rw [sizeLine_eq]; decide)
end G
namespace G
open PySem PySem.Spec PyProof.Rows L2
/-- the law's own promise -/
def sp_law (K : PySem.W.Frag) : Sp := fun vs H Q _ => ∃ (a : Addr) (ns : List Int), vs = [.ref a] ∧ SqL K H a (ns.map V.int) ∧ ns.length ≤ 63 ∧ ∀ H', Q (.bl true) H'
theorem canLay_bools : ∀ ns : List Bool, PyData.canLayAll0 (ns.map PyData.bool) = true
  | [] => rfl
  | n :: ns => by rw [List.map_cons, PyData.canLayAll0, canLay_bools ns]; rfl
theorem sm_bools {ns : List Bool} (h : ns.length ≤ 1000) : Sm 60 1000000 (.list (ns.map PyData.bool)) :=
  (Sm.list (n := 0) (B := 5) (m := 1000) (fun d hd => by obtain ⟨b, _, rfl⟩ := List.mem_map.mp hd; exact Sm.bool b) (by rw [List.length_map]; exact h)).up (by decide) (by decide)
theorem Sm.fits {n : Nat} {B : Nat} {d : PyData} (h : Sm n B d) (hB : B ≤ 16777216) : d.shown.length ≤ sizeLine := by
  rw [sizeLine_eq]
  exact Nat.le_trans h.ln hB
end G

namespace G
open PySem PySem.Spec PyProof.Rows L2
def top (i : Nat) : Stmt := PySem.Challenge.pw_leadswitch_k11_kinds.main.body.getD i (.Pass ⟨0, 0, 0, 0⟩)
section
variable {P : Program} {w : World} {K : PySem.W.Frag} {mg : Str → Option Value} {base : Heap}
abbrev s_is_integer : Stmt := top 3
abbrev sc_is_integer_N : List Str := ["thing"]
theorem sc_is_integer : FnScope sc_is_integer_N ["thing"] (defScope s_is_integer) := ⟨rfl, rfl, rfl, by decide +kernel, rfl, by decide +kernel, by decide +kernel⟩
theorem ok_is_integer (D : Def K mg "is_integer" s_is_integer ["thing"]) (B : Blt mg) : Cal P w K mg base CX0 1 "is_integer" ["thing"] (sp_is_integer K) := by
  refine D.ok sc_is_integer (fun vs H Q E h => by obtain ⟨v, d, rfl, _⟩ := h; rfl) (fun f cdv A out s H vs Q E hr h => ?_)
  obtain ⟨v, d, rfl, hd, k⟩ := h
  refine ⟨_, (pss_one (ps_ret (pe_and (pe_callB (kisi K) (by rfl) B.isinstance (by decide +kernel) (pa_cons (pv 0) (pa_cons (pe_ty (n := "int") B.int (by decide +kernel)) pa_nil))) (pe_one (pe_not (pe_callB (kisi K) (by rfl) B.isinstance (by decide +kernel) (pa_cons (pv 0) (pa_cons (pe_ty (n := "bool") B.bool (by decide +kernel)) pa_nil)))))))), ?_⟩
  refine ⟨_, rfl, _, _, _, _, _, rfl, .ty "int", hd.ty, kit_int d, _, rfl, ?_⟩
  rw [isInt_eq] at k
  cases hi : isI d with
  | false => rw [hi] at k; exact iteF k
  | true =>
    rw [hi] at k
    exact iteT ⟨_, rfl, _, _, _, _, _, rfl, .ty "bool", hd.ty, kit_bool d, _, rfl, k⟩

abbrev s_is_between : Stmt := top 4
abbrev sc_is_between_N : List Str := ["thing", "least", "most"]
theorem sc_is_between : FnScope sc_is_between_N ["thing", "least", "most"] (defScope s_is_between) := ⟨rfl, rfl, rfl, by decide +kernel, rfl, by decide +kernel, by decide +kernel⟩
theorem ok_is_between (D : Def K mg "is_between" s_is_between ["thing", "least", "most"]) (c_is_integer : Cal P w K mg base CX0 1 "is_integer" ["thing"] (sp_is_integer K)) : Cal P w K mg base CX0 2 "is_between" ["thing", "least", "most"] (sp_is_between K) := by
  refine D.ok sc_is_between (fun vs H Q E h => by obtain ⟨v, d, lo, hi, rfl, _⟩ := h; rfl) (fun f cdv A out s H vs Q E hr h => ?_)
  obtain ⟨v, d, lo, hi, rfl, hd, k⟩ := h
  refine ⟨_, (pss_one (ps_ret (pe_and (pe_c c_is_integer (hr.mono (by decide)) pass0 (pa_cons (pv 0) pa_nil)) (pe_one (pe_chain op_le op_le (pv 1) (pv 0) (pv 2)))))), ?_⟩
  refine ⟨_, rfl, v, d, rfl, hd, _, rfl, ?_⟩
  cases d with
  | int i =>
    cases hd
    refine iteT ⟨_, rfl, _, rfl, _, _, rfl, rfl, _, rfl, ?_⟩
    refine ite2 (fun h1 => ?_) (fun h1 => ?_)
    · refine ⟨_, rfl, _, _, rfl, rfl, ?_⟩
      rw [betw, h1] at k
      exact k
    · rw [betw, eq_false_of_ne_true h1] at k
      exact k
  | _ => exact iteF k

abbrev s_is_amount : Stmt := top 5
abbrev sc_is_amount_N : List Str := ["thing"]
theorem sc_is_amount : FnScope sc_is_amount_N ["thing"] (defScope s_is_amount) := ⟨rfl, rfl, rfl, by decide +kernel, rfl, by decide +kernel, by decide +kernel⟩
theorem ok_is_amount (D : Def K mg "is_amount" s_is_amount ["thing"]) (c_is_between : Cal P w K mg base CX0 2 "is_between" ["thing", "least", "most"] (sp_is_between K)) {t_MOST_AMOUNT : Tok} (m_MOST_AMOUNT : mg "MOST_AMOUNT" = some (.int 1000000000000000000000000000000 t_MOST_AMOUNT)) : Cal P w K mg base CX0 3 "is_amount" ["thing"] (sp_is_amount K) := by
  refine D.ok sc_is_amount (fun vs H Q E h => by obtain ⟨v, d, rfl, _⟩ := h; rfl) (fun f cdv A out s H vs Q E hr h => ?_)
  obtain ⟨v, d, rfl, hd, k⟩ := h
  refine ⟨_, (pss_one (ps_ret (pe_c c_is_between (hr.mono (by decide)) pass0 (pa_cons (pv 0) (pa_cons pe_int (pa_cons (pe_gi m_MOST_AMOUNT) pa_nil)))))), ?_⟩
  exact ⟨_, rfl, v, d, _, _, rfl, hd, k⟩

abbrev s_is_count : Stmt := top 6
abbrev sc_is_count_N : List Str := ["thing"]
theorem sc_is_count : FnScope sc_is_count_N ["thing"] (defScope s_is_count) := ⟨rfl, rfl, rfl, by decide +kernel, rfl, by decide +kernel, by decide +kernel⟩
theorem ok_is_count (D : Def K mg "is_count" s_is_count ["thing"]) (c_is_between : Cal P w K mg base CX0 2 "is_between" ["thing", "least", "most"] (sp_is_between K)) {t_MOST_COUNT : Tok} (m_MOST_COUNT : mg "MOST_COUNT" = some (.int 1000000000000000000 t_MOST_COUNT)) : Cal P w K mg base CX0 3 "is_count" ["thing"] (sp_is_count K) := by
  refine D.ok sc_is_count (fun vs H Q E h => by obtain ⟨v, d, rfl, _⟩ := h; rfl) (fun f cdv A out s H vs Q E hr h => ?_)
  obtain ⟨v, d, rfl, hd, k⟩ := h
  refine ⟨_, (pss_one (ps_ret (pe_c c_is_between (hr.mono (by decide)) pass0 (pa_cons (pv 0) (pa_cons pe_int (pa_cons (pe_gi m_MOST_COUNT) pa_nil)))))), ?_⟩
  exact ⟨_, rfl, v, d, _, _, rfl, hd, k⟩

abbrev s_is_broker : Stmt := top 7
abbrev sc_is_broker_N : List Str := ["thing", "size"]
theorem sc_is_broker : FnScope sc_is_broker_N ["thing", "size"] (defScope s_is_broker) := ⟨rfl, rfl, rfl, by decide +kernel, rfl, by decide +kernel, by decide +kernel⟩
theorem ok_is_broker (D : Def K mg "is_broker" s_is_broker ["thing", "size"]) (c_is_between : Cal P w K mg base CX0 2 "is_between" ["thing", "least", "most"] (sp_is_between K)) : Cal P w K mg base CX0 3 "is_broker" ["thing", "size"] (sp_is_broker K) := by
  refine D.ok sc_is_broker (fun vs H Q E h => by obtain ⟨v, d, n, rfl, _⟩ := h; rfl) (fun f cdv A out s H vs Q E hr h => ?_)
  obtain ⟨v, d, n, rfl, hd, k⟩ := h
  refine ⟨_, (pss_one (ps_ret (pe_c c_is_between (hr.mono (by decide)) pass0 (pa_cons (pv 0) (pa_cons pe_int (pa_cons (pe_op op_sub (pv 1) pe_int) pa_nil)))))), ?_⟩
  exact ⟨_, rfl, _, rfl, _, _, rfl, rfl, v, d, _, _, rfl, hd, k⟩

abbrev s_is_set : Stmt := top 8
abbrev sc_is_set_N : List Str := ["thing", "size", "earlier", "later", "broker"]
theorem sc_is_set : FnScope sc_is_set_N ["thing", "size"] (defScope s_is_set) := ⟨rfl, rfl, rfl, by decide +kernel, rfl, by decide +kernel, by decide +kernel⟩
theorem ok_is_set (D : Def K mg "is_set" s_is_set ["thing", "size"]) (B : Blt mg) (c_is_broker : Cal P w K mg base CX0 3 "is_broker" ["thing", "size"] (sp_is_broker K)) : Cal P w K mg base CX0 4 "is_set" ["thing", "size"] (sp_is_set K) := by
  refine D.ok sc_is_set (fun vs H Q E h => by obtain ⟨v, d, n, rfl, _⟩ := h; rfl) (fun f cdv A out s H vs Q E hr h => ?_)
  obtain ⟨v, d, n, rfl, hd, hl, k⟩ := h
  refine ⟨_, (pss_cons (ps_if (PW.pt (pw_or (pt_not (pt_val (pe_callB (kisi K) (by rfl) B.isinstance (by decide +kernel) (pa_cons (pv 0) (pa_cons (pe_ty (n := "list") B.list (by decide +kernel)) pa_nil))))) (pw_or1 (pt_not (pt_val (pe_callB (kall K) (by rfl) B.all (by decide +kernel) (pa_cons (pe_lc (own := [("broker", 4)]) (g := (gName 4)) (tt := tYes) rfl sc_is_set.nd (pi_list (pv 0)) (blkOk_by (own := [("broker", 4)]) (N := sc_is_set_N) (sc := defScope s_is_set) (by decide +kernel)) (fun _ _ _ _ _ => (pg_name (i := 4) sc_is_set.nd rfl (Or.inl rfl))) (fun _ _ _ _ _ => pts_nil) (fun _ _ _ _ _ => (pe_c c_is_broker (hr.mono (by decide)) pass0 (pa_cons (pv 4) (pa_cons (pv 1) pa_nil))))) pa_nil)))))))
      (pss_one (ps_ret pe_bl))
      pss_nil)
      (pss_one (ps_ret (pe_callB (kall K) (by rfl) B.all (by decide +kernel) (pa_cons (pe_lc (own := [("earlier", 2), ("later", 3)]) (g := (gTup K 2 (gCons (gName 2) (gCons (gName 3) gNil)))) (tt := tYes) rfl sc_is_set.nd (pi_zip (by rfl) B.zip (pa_cons (pv 0) (pa_cons (pe_slice (kslL K) (pv 0) (po_some pe_int) po_none) pa_nil))) (blkOk_by (own := [("earlier", 2), ("later", 3)]) (N := sc_is_set_N) (sc := defScope s_is_set) (by decide +kernel)) (fun _ _ _ _ _ => (pg_tup rfl (pgs_cons (pg_name (i := 2) sc_is_set.nd rfl (Or.inl rfl)) (pgs_cons (pg_name (i := 3) sc_is_set.nd rfl (Or.inl rfl)) pgs_nil)))) (fun _ _ _ _ _ => pts_nil) (fun _ _ _ _ _ => (pe_cmpR op_lt (pv 2) (pv 3) (nomark _)))) pa_nil))))), ?_⟩
  refine ⟨_, rfl, _, _, _, _, _, rfl, .ty "list", hd.ty, kit_list d, _, rfl, ?_⟩
  cases d with
  | list ds =>
    cases hd with
    | @lst a xs _ hS hL =>
      refine iteF ?_
      refine ⟨_, rfl, a, rfl, ⟨_, hS⟩, fun L hD => ?_⟩
      have hlen : xs.length = ds.length := hL.len
      have hl' : ds.length ≤ 100000 := hl
      refine lc_map (xs := xs) (ys := (ds.map fun x => betw x 0 (n - 1)).map V.bl) hS hD (by simp [hlen]) (by omega) (fun x => rfl) (fun i x y hx hy H1 e1 Q1 q1 => ?_) (fun H1 e1 hD1 => ?_)
      · obtain ⟨d, ed, hd⟩ := hL.getV hx
        rw [List.getElem?_map, List.getElem?_map, ed] at hy
        cases hy
        exact ⟨_, rfl, _, rfl, x, d, n, rfl, hd.mono e1, q1 H1 (Same.refl _)⟩
      · refine ⟨L, _, rfl, SqL.of hD1, _, rfl, ?_⟩
        rw [boolAll]
        have hk : isSetD (.list ds) n = (ds.all (fun x => betw x 0 (n - 1)) && ascD ds) := rfl
        rw [hk] at k
        cases ha : ds.all (fun x => betw x 0 (n - 1)) with
        | false =>
          rw [ha] at k
          exact iteT (k H1 e1)
        | true =>
          rw [ha] at k
          refine iteF ⟨_, rfl, _, rfl, _, rfl, a, _, rfl, sql_up e1 hS, fun p hp => ?_⟩
          have e2 := e1.trans (same_new (o := .lst (cutV xs (some 1) none)) hp)
          refine ⟨a, p, xs, _, rfl, sql_up e2 hS, SqL.of upd_same, fun M hM => ?_⟩
          have hys : cutV xs (some 1) none = xs.drop 1 := cut_1 xs
          rw [hys] at hM ⊢
          generalize hG : upd H1 p (HO.lst (cutV xs (some 1) none)) = H2 at e2
          have hG2 : upd H1 p (HO.lst (xs.drop 1)) = H2 := by rw [← hG, hys]
          rw [hG2] at hM ⊢
          have hp2 : H2 p = some (.lst (xs.drop 1)) := by rw [← hG2]; exact upd_same
          have hall := List.all_eq_true.mp ha
          have hzl : (List.zipWith ltD ds (ds.drop 1)).length = min xs.length (xs.drop 1).length := by rw [List.length_zipWith, List.length_drop, List.length_drop, hlen]
          refine lc_gen (walk_zip (xs := xs) (ys := xs.drop 1) rfl) (fun i => ((List.zipWith ltD ds (ds.drop 1)).map V.bl)[i]?) hM (by omega) (fun H3 e3 => ⟨sql_up (e2.trans e3) hS, sql_up e3 (SqL.of hp2)⟩) (fun i x H3 H4 hi e3 hy R1 R0 q1 q0 => ?_) (fun H3 e3 hM3 => ?_)
          · obtain ⟨T, y1, y2, rfl, hT, rfl, f1, f2⟩ := hy
            obtain ⟨d1, g1, hd1⟩ := hL.getV f1
            dsimp only at f1 f2
            rw [List.getElem?_drop] at f2
            obtain ⟨d2, g2, hd2⟩ := hL.getV f2
            obtain ⟨i1, rfl⟩ := betw_int (hall d1 (List.mem_of_getElem? g1))
            obtain ⟨i2, rfl⟩ := betw_int (hall d2 (List.mem_of_getElem? g2))
            cases hd1
            cases hd2
            refine ⟨T, _, rfl, SqT.of upd_same, rfl, _, _, rfl, _, _, rfl, rfl, rfl, ?_⟩
            unfold tYes
            refine iteT ⟨_, rfl, _, rfl, _, _, rfl, rfl, ?_⟩
            refine q1 _ _ ?_ (same_new hT)
            rw [List.getElem?_map, List.getElem?_zipWith, g1, List.getElem?_drop, g2]
            rfl
          · rw [← hzl] at hM3
            have e5 : (List.zipWith ltD ds (ds.drop 1)).length = ((List.zipWith ltD ds (ds.drop 1)).map V.bl).length := by rw [List.length_map]
            rw [e5, fm_get] at hM3
            exact ⟨M, _, rfl, SqL.of hM3, k H3 (e2.trans e3)⟩
  | _ => exact iteT (k H (Same.refl _))

abbrev s__law_bag : Stmt := top 10
abbrev sc__law_bag_N : List Str := ["_law_script", "_law_cell"]
theorem sc__law_bag : FnScope sc__law_bag_N ["_law_script"] (defScope s__law_bag) := ⟨rfl, rfl, rfl, by decide +kernel, rfl, by decide +kernel, by decide +kernel⟩
theorem ok__law_bag (D : Def K mg "_law_bag" s__law_bag ["_law_script"]) (B : Blt mg) : Cal P w K mg base CX0 1 "_law_bag" ["_law_script"] (sp_bag K) := by
  refine D.ok sc__law_bag (fun vs H Q E h => by obtain ⟨a, ns, rfl, _⟩ := h; rfl) (fun f cdv A out s H vs Q E hr h => ?_)
  obtain ⟨a, ns, rfl, hS, hl, k⟩ := h
  refine ⟨_, (pss_one (ps_ret (pe_lst (pa_cons pe_int (pa_cons pe_int (pa_cons pe_int (pa_cons (pe_lc (own := [("_law_cell", 1)]) (g := (gName 1)) (tt := tYes) rfl sc__law_bag.nd (pi_list (pe_slice (kslL K) (pv 0) po_none (po_some pe_int))) (blkOk_by (own := [("_law_cell", 1)]) (N := sc__law_bag_N) (sc := defScope s__law_bag) (by decide +kernel)) (fun _ _ _ _ _ => (pg_name (i := 1) sc__law_bag.nd rfl (Or.inl rfl))) (fun _ _ _ _ _ => pts_nil) (fun _ _ _ _ _ => (pe_callB call_abs (by rfl) B.abs (by decide +kernel) (pa_cons (pv 1) pa_nil)))) pa_nil))))))), ?_⟩
  refine ⟨_, rfl, _, rfl, a, _, rfl, hS, fun p hp => ?_⟩
  obtain ⟨n1, n2, e⟩ := cut_map V.int ns none (some 63)
  have hb : ((ns.drop n1).take n2).length ≤ 1000 := by
    rw [List.length_take, List.length_drop]
    omega
  rw [e]
  generalize (ns.drop n1).take n2 = ms at hb
  refine ⟨p, rfl, ⟨_, SqL.of upd_same⟩, fun L hL => ?_⟩
  refine lc_map (xs := ms.map V.int) (ys := (ms.map fun i => if i < 0 then -i else i).map V.int) (SqL.of upd_same) hL (by simp) (by simp; omega) (fun x => rfl) (fun i x y hx hy H1 e1 Q1 q1 => ?_) (fun H1 e1 hD => ?_)
  · rw [List.getElem?_map] at hx
    rw [List.getElem?_map, List.getElem?_map] at hy
    cases em : ms[i]? with
    | none => rw [em] at hx; cases hx
    | some n =>
      rw [em] at hx hy
      cases hx
      cases hy
      exact ⟨_, rfl, n, rfl, q1 H1 (Same.refl _)⟩
  · refine ⟨by show 4 ≤ sizeLine; decide, fun b hb => ?_⟩
    have e0 : Same H (upd H p (.lst (ms.map V.int))) := same_new hp
    have nb : L ≠ b := ne_of_none hD hb
    refine k b _ ((e0.trans e1).free hb) ((e0.trans e1).trans (same_new hb)) ⟨L, 0, 1234567891, 0, _, upd_same, by rw [upd_ne nb]; exact hD, nb, by decide, fun z hz => ?_, by decide, by decide, by decide⟩
    obtain ⟨i, _, rfl⟩ := List.mem_map.mp hz
    split <;> omega

abbrev s__law_take : Stmt := top 11
abbrev sc__law_take_N : List Str := ["_law_bag_here", "_law_many", "_law_cell", "_law_value", "_law_first", "_law_second"]
theorem sc__law_take : FnScope sc__law_take_N ["_law_bag_here", "_law_many"] (defScope s__law_take) := ⟨rfl, rfl, rfl, by decide +kernel, rfl, by decide +kernel, by decide +kernel⟩
theorem ok__law_take (D : Def K mg "_law_take" s__law_take ["_law_bag_here", "_law_many"]) (B : Blt mg) : Cal P w K mg base CX0 1 "_law_take" ["_law_bag_here", "_law_many"] sp_take := by
  refine D.ok sc__law_take (fun vs H Q E h => by obtain ⟨b, m, rfl, _⟩ := h; rfl) (fun f cdv A out s H vs Q E hr h => ?_)
  obtain ⟨b, m, rfl, hb, m0, m1, k⟩ := h
  refine ⟨_, (Evl.pss_cut (ps_if (pt_cmpR op_eq (pe_ix (kixL K) (pv 0) pe_int (fun _ _ => rfl)) pe_int (nomark _))
      (pss_cons (ps_set (i := 2) sc__law_take.nd rfl (Or.inl rfl) pe_int)
      (Evl.pss_cut (ps_if (pt_cmpR op_lt (pe_ix (kixL K) (pv 0) pe_int (fun _ _ => rfl)) (pe_callB (klen K) (by rfl) B.len (by decide +kernel) (pa_cons (pe_ix (kixL K) (pv 0) pe_int (fun _ _ => rfl)) pa_nil)) (nomark _))
      (pss_one (ps_set (i := 2) sc__law_take.nd rfl (Or.inl rfl) (pe_ix (kixL K) (pe_ix (kixL K) (pv 0) pe_int (fun _ _ => rfl)) (pe_ix (kixL K) (pv 0) pe_int (fun _ _ => rfl)) (fun _ _ => rfl))))
      pss_nil)
      (pss_cons (ps_augS (pv 0) pe_int get_list pe_int ip_add set_list)
      (Evl.pss_cut (ps_if (pt_cmpR op_ge (pv 2) pe_int (nomark _))
      (pss_one (ps_asg (pv 2) (pg_sub (pv 0) pe_int set_list)))
      pss_nil)
      (pss_one (ps_asg (pe_op op_mod (pe_op op_add (pe_op op_add (pe_op op_mulW (pe_ix (kixL K) (pv 0) pe_int (fun _ _ => rfl)) pe_int) (pe_op op_mod (pv 2) pe_int)) (pe_op op_mul pe_int (pe_ix (kixL K) (pv 0) pe_int (fun _ _ => rfl)))) pe_int) (pg_sub (pv 0) pe_int set_list)))))))
      pss_nil)
      (pss_cons (ps_if (pt_cmpR op_gt (pe_ix (kixL K) (pv 0) pe_int (fun _ _ => rfl)) pe_int (nomark _))
      (pss_cons (ps_set (i := 3) sc__law_take.nd rfl (Or.inl rfl) (pe_op op_mod (pe_ix (kixL K) (pv 0) pe_int (fun _ _ => rfl)) (pv 1)))
      (pss_cons (ps_asg (pe_op op_fdivW (pe_ix (kixL K) (pv 0) pe_int (fun _ _ => rfl)) (pv 1)) (pg_sub (pv 0) pe_int set_list))
      (pss_one (ps_ret (pv 3)))))
      pss_nil)
      (pss_cons (ps_set (i := 4) sc__law_take.nd rfl (Or.inl rfl) (pe_op op_mod (pe_op op_mulW (pe_op op_add (pe_ix (kixL K) (pv 0) pe_int (fun _ _ => rfl)) pe_int) pe_int) pe_int))
      (pss_cons (ps_set (i := 5) sc__law_take.nd rfl (Or.inl rfl) (pe_op op_mod (pe_op op_mulW (pe_op op_mod (pe_op op_mulW (pv 4) (pv 4)) pe_int) pe_int) pe_int))
      (pss_cons (ps_if (pt_cmpR op_gt (pv 1) pe_int (nomark _))
      (pss_one (ps_ret (pe_op op_mod (pe_op op_add (pe_op op_mulW (pv 5) pe_int) (pv 4)) (pv 1))))
      pss_nil)
      (pss_one (ps_ret (pe_op op_mod (pe_op op_fdivW (pv 5) pe_int) (pv 1))))))))), ?_⟩
  refine ⟨fun σ H' => ∃ c, σ = [some (.ref b), some (.int m), c, none, none, none] ∧ Go b H H', ?_, ?_⟩
  · have hb' := hb
    obtain ⟨c, hbc⟩ := hb
    have hbc' := hbc
    obtain ⟨a, z, n, cs, h1, h2, hcb, a0, z0, s0, s1, k0⟩ := hbc
    refine ⟨_, rfl, b, _, _, _, rfl, rfl, SqL.of h1, rfl, rfl, _, rfl, ?_⟩
    refine ite2 (fun ha => ?_) (fun _ => ⟨_, rfl, Go.refl hb'⟩)
    refine ⟨fun σ H' => ∃ e : Int, 0 ≤ e ∧ σ = [some (.ref b), some (.int m), some (.int e), none, none, none] ∧ H' = H, ?_, ?_⟩
    · refine ⟨_, rfl, b, _, _, _, rfl, rfl, SqL.of h1, rfl, _, rfl, b, _, _, _, rfl, rfl, SqL.of h1, rfl, _, _, rfl, Or.inl ⟨_, SqL.of h2, rfl⟩, _, _, rfl, rfl, _, rfl, ?_⟩
      refine ite2 (fun hn => ?_) (fun _ => ⟨0, Int.le_refl _, rfl, rfl⟩)
      have hn' := of_decide_eq_true hn
      rw [List.length_map] at hn'
      obtain ⟨j, rfl⟩ := Int.eq_ofNat_of_zero_le k0
      have hj : j < cs.length := by omega
      refine ⟨_, rfl, b, _, _, _, rfl, rfl, SqL.of h1, rfl, _, rfl, b, _, _, _, rfl, rfl, SqL.of h1, rfl, c, _, _, .int cs[j], rfl, rfl, SqL.of h2, atI_nat (by rw [List.getElem?_map, List.getElem?_eq_getElem hj]; rfl), ?_⟩
      exact ⟨cs[j], z0 _ (List.getElem_mem hj), rfl, rfl⟩
    · rintro σ H' ⟨e, e0, rfl, rfl⟩
      refine ⟨_, rfl, b, _, 2, _, rfl, rfl, SqL.of h1, rfl, _, _, rfl, rfl, b, _, _, 2, rfl, rfl, h1, rfl, ?_⟩
      refine ⟨fun σ H1 => ∃ a' : Int, 0 ≤ a' ∧ σ = [some (.ref b), some (.int m), some (.int e), none, none, none] ∧ H1 b = some (.lst [.int a', .int z, .int (n + 1), .ref c]) ∧ hid b H1 = hid b H', ?_, ?_⟩
      · refine ⟨_, rfl, _, _, rfl, rfl, _, rfl, ?_⟩
        refine ite2 (fun _ => ?_) (fun _ => ⟨a, a0, rfl, upd_same, hid_upd⟩)
        refine ⟨_, rfl, _, rfl, b, _, _, 0, rfl, rfl, upd_same, rfl, ?_⟩
        exact ⟨e, e0, rfl, upd_same, by rw [hid_upd, hid_upd]⟩
      · rintro σ H1 ⟨a', a0', rfl, hH, hh⟩
        refine ⟨_, rfl, b, _, _, _, rfl, rfl, SqL.of hH, rfl, _, _, rfl, rfl, wide_mul (a := 64) (b := 64) (by omega) (by decide) (by decide) (by decide) (by decide), _, rfl, _, _, rfl, rfl, (by show (0 : Int) < 2147483647; decide), _, _, rfl, rfl, _, rfl, b, _, _, _, rfl, rfl, SqL.of hH, rfl, _, _, rfl, rfl, .inl ⟨by decide, by decide⟩, _, _, rfl, rfl, _, _, rfl, rfl, (by show (0 : Int) < 2147483647; decide), _, rfl, b, _, _, 1, rfl, rfl, hH, rfl, ?_⟩
        refine ⟨_, rfl, ⟨c, hbc', a', _, n + 1, cs, upd_same, ?_, hcb, a0', z0, Int.emod_nonneg _ (by decide), Int.emod_lt_of_pos _ (by decide), by omega⟩, ?_⟩
        · have q := congrFun hh c
          rw [hid_ne hcb, hid_ne hcb] at q
          rw [upd_ne hcb, q]
          exact h2
        · rw [hid_upd, hh]
          exact Same.refl _
  · rintro σ H1 ⟨c0, rfl, g⟩
    have g' := g
    obtain ⟨⟨c, hbc, a, z, n, cs, h1, h2, hcb, a0, z0, s0, s1, k0⟩, sm⟩ := g
    refine ⟨_, rfl, b, _, _, _, rfl, rfl, SqL.of h1, rfl, _, _, rfl, rfl, _, rfl, ?_⟩
    refine ite2 (fun ha => ?_) (fun _ => ?_)
    · refine ⟨_, rfl, b, _, _, _, rfl, rfl, SqL.of h1, rfl, _, rfl, _, _, rfl, rfl, m0, _, rfl, b, _, _, _, rfl, rfl, SqL.of h1, rfl, _, rfl, _, _, rfl, rfl, wide_div (b := 200) m0 (by omega) (by decide) (by decide), _, rfl, b, _, _, 0, rfl, rfl, h1, rfl, _, rfl, ?_⟩
      refine k _ _ (Int.emod_nonneg _ (by omega)) (Int.emod_lt_of_pos _ m0) ⟨⟨c, hbc, _, z, n, cs, upd_same, by rw [upd_ne hcb]; exact h2, hcb, Int.ediv_nonneg a0 (by omega), z0, s0, s1, k0⟩, ?_⟩
      rw [hid_upd]
      exact sm
    · refine ⟨_, rfl, b, _, _, _, rfl, rfl, SqL.of h1, rfl, _, _, rfl, rfl, _, _, rfl, rfl, wide_mul (a := 64) (b := 64) (by omega) (by decide) (by decide) (by decide) (by decide), _, _, rfl, rfl, (by show (0 : Int) < 1000000007; decide), ?_⟩
      have q1 : 0 ≤ (z + 1) * 39373 % 1000000007 := Int.emod_nonneg _ (by decide)
      have q2 : (z + 1) * 39373 % 1000000007 < 1000000007 := Int.emod_lt_of_pos _ (by decide)
      generalize (z + 1) * 39373 % 1000000007 = y at q1 q2
      refine ⟨_, rfl, _, rfl, _, _, rfl, rfl, wide_mul (a := 64) (b := 64) (by omega) (by omega) (by decide) (by decide) (by decide), _, _, rfl, rfl, (by show (0 : Int) < 998244353; decide), ?_⟩
      have q3 : 0 ≤ y * y % 998244353 := Int.emod_nonneg _ (by decide)
      have q4 : y * y % 998244353 < 998244353 := Int.emod_lt_of_pos _ (by decide)
      generalize y * y % 998244353 = y2 at q3 q4
      refine ⟨_, _, rfl, rfl, wide_mul (a := 64) (b := 64) (by omega) (by decide) (by decide) (by decide) (by decide), _, _, rfl, rfl, (by show (0 : Int) < 998244353; decide), ?_⟩
      have q5 : 0 ≤ y2 * 30011 % 998244353 := Int.emod_nonneg _ (by decide)
      have q6 : y2 * 30011 % 998244353 < 998244353 := Int.emod_lt_of_pos _ (by decide)
      generalize y2 * 30011 % 998244353 = y3 at q5 q6
      refine ⟨_, rfl, _, _, rfl, rfl, _, rfl, ?_⟩
      refine ite2 (fun _ => ?_) (fun _ => ?_)
      · refine ⟨_, rfl, _, _, rfl, rfl, wide_mul (a := 64) (b := 64) (by omega) (by decide) (by decide) (by decide) (by decide), _, rfl, _, _, rfl, rfl, _, rfl, _, _, rfl, rfl, m0, ?_⟩
        exact k _ _ (Int.emod_nonneg _ (by omega)) (Int.emod_lt_of_pos _ m0) g'
      · refine ⟨_, rfl, _, _, rfl, rfl, wide_div (b := 200) (by decide) (by decide) (by decide) (by decide), _, rfl, _, _, rfl, rfl, m0, ?_⟩
        exact k _ _ (Int.emod_nonneg _ (by omega)) (Int.emod_lt_of_pos _ m0) g'

abbrev s__law_alike : Stmt := top 12
abbrev sc__law_alike_N : List Str := ["_law_found", "_law_due"]
theorem sc__law_alike : FnScope sc__law_alike_N ["_law_found", "_law_due"] (defScope s__law_alike) := ⟨rfl, rfl, rfl, by decide +kernel, rfl, by decide +kernel, by decide +kernel⟩
theorem ok__law_alike (D : Def K mg "_law_alike" s__law_alike ["_law_found", "_law_due"]) (B : Blt mg) : CalG P w K mg base CX0 1 "_law_alike" ["_law_found", "_law_due"] (sp_alike K) := by
  refine D.okG sc__law_alike (fun vs H Q E h => by obtain ⟨v, u, d, rfl, _⟩ := h; rfl) (fun f cdv A out s H vs Q E hgu hr h => ?_)
  obtain ⟨v, u, d, rfl, h1, h2, hc, hs, k⟩ := h
  refine ⟨_, (pss_one (ps_ret (pe_and (pe_cmpR (keq K hr.units) (pv 0) (pv 1) (nomark _)) (pe_one (pe_cmpR op_eq (pe_callB (krepr K hgu hr.units) (by rfl) B.repr (by decide +kernel) (pa_cons (pv 0) pa_nil)) (pe_callB (krepr K hgu hr.units) (by rfl) B.repr (by decide +kernel) (pa_cons (pv 1) pa_nil)) (nomark _)))))), ?_⟩
  have hz : d.shown.length ≤ sizeLine := Nat.le_trans hs.ln (by rw [sizeLine_eq]; decide)
  refine ⟨_, rfl, _, rfl, d, d, h1.dp d _ hc, h2.dp d _ hc, shaped_of hs hc, shaped_of hs hc, _, rfl, ?_⟩
  rw [SeqAt.eqv_refl d hc]
  refine iteT ⟨_, rfl, v, d, rfl, h1, hs.sh, hs.dp, hz, _, rfl, u, d, rfl, h2, hs.sh, hs.dp, hz, rfl, ?_⟩
  rw [decide_eq_true rfl]
  exact k H (Same.refl _)

abbrev s__law_odd : Stmt := top 13
abbrev sc__law_odd_N : List Str := ["_law_bag_here", "_law_deep", "_law_k", "_law_some"]
theorem sc__law_odd : FnScope sc__law_odd_N ["_law_bag_here"] (defScope s__law_odd) := ⟨rfl, rfl, rfl, by decide +kernel, rfl, by decide +kernel, by decide +kernel⟩
theorem ok__law_odd (D : Def K mg "_law_odd" s__law_odd ["_law_bag_here"]) (B : Blt mg) (c__law_take : Cal P w K mg base CX0 1 "_law_take" ["_law_bag_here", "_law_many"] sp_take) : Cal P w K mg base CX0 2 "_law_odd" ["_law_bag_here"] (sp_odd K) := by
  refine D.ok sc__law_odd (fun vs H Q E h => by obtain ⟨b, rfl, _⟩ := h; rfl) (fun f cdv A out s H vs Q E hr h => ?_)
  obtain ⟨b, rfl, hb, k⟩ := h
  refine ⟨_, (pss_cons (ps_set (i := 1) sc__law_odd.nd rfl (Or.inl rfl) (pe_lst pa_nil))
      (pss_cons (ps_for PassesOwn.never rfl (pi_range1 rfl B.range (pa_cons pe_int pa_nil)) (pg_name (i := 2) sc__law_odd.nd rfl (Or.inl rfl))
      (pss_one (ps_set (i := 1) sc__law_odd.nd rfl (Or.inl rfl) (pe_lst (pa_cons (pv 1) pa_nil)))))
      (pss_cons (ps_set (i := 3) sc__law_odd.nd rfl (Or.inl rfl) (pe_lst (pa_cons pe_int (pa_cons pe_int (pa_cons (pe_un un_neg pe_int) (pa_cons pe_int (pa_cons pe_int (pa_cons (pe_op op_pow pe_int pe_int) (pa_cons (pe_op op_add (pe_op op_pow pe_int pe_int) pe_int) (pa_cons (pe_op op_pow pe_int pe_int) (pa_cons (pe_op op_add (pe_op op_pow pe_int pe_int) pe_int) (pa_cons (pe_un un_neg (pe_op op_pow pe_int pe_int)) (pa_cons pe_bl (pa_cons pe_bl (pa_cons pe_non (pa_cons pe_str (pa_cons pe_str pa_nil)))))))))))))))))
      (pss_cons (ps_set (i := 3) sc__law_odd.nd rfl (Or.inl rfl) (pe_op op_cat (pv 3) (pe_lst (pa_cons (pe_tup pa_nil) (pa_cons (pe_tup (pa_cons pe_int pa_nil)) (pa_cons (pe_tup (pa_cons pe_int (pa_cons pe_int pa_nil))) (pa_cons (pe_tup (pa_cons pe_int (pa_cons pe_int (pa_cons pe_int pa_nil)))) (pa_cons (pe_tup (pa_cons pe_int (pa_cons pe_int pa_nil))) (pa_cons (pe_lst pa_nil) (pa_cons (pe_lst (pa_cons pe_int pa_nil)) (pa_cons (pe_lst (pa_cons pe_int (pa_cons pe_int pa_nil))) (pa_cons (pe_lst (pa_cons (pe_lst (pa_cons pe_int (pa_cons pe_int pa_nil))) pa_nil)) (pa_cons pe_dnewK (pa_cons (pe_disp (pps_cons pe_int pe_int pps_nil) (by rfl) (by rfl) (fun z => by cases z) (by decide)) (pa_cons (pv 1) (pa_cons (pe_op op_rep (pe_lst (pa_cons pe_int pa_nil)) pe_int) pa_nil))))))))))))))))
      (pss_cons (ps_set (i := 3) sc__law_odd.nd rfl (Or.inl rfl) (pe_op op_cat (pv 3) (pe_lst (pa_cons (pe_op op_mulS pe_str pe_int) pa_nil))))
      (pss_one (ps_ret (pe_ix (kixL K) (pv 3) (pe_c c__law_take (hr.mono (by decide)) pass0 (pa_cons (pv 0) (pa_cons pe_int pa_nil))) (fun _ _ => rfl))))))))), ?_⟩
  refine ⟨by show 0 ≤ sizeLine; decide, fun p0 h0 => ?_⟩
  refine ⟨3, rfl, by decide, by decide, for_range (lo := 0) (n := 3) (fun i σ H' => ∃ v z, σ = [some (.ref b), some v, z, none] ∧ Go b H H' ∧ Da K (hid b H') v (nestL i)) ⟨_, _, rfl, (Go.refl hb).new h0, da_newL hb .nil h0⟩ ?_ ?_⟩
  · rintro i σ H' hi ⟨v, z, rfl, g, hd⟩
    refine ⟨_, rfl, by show 1 ≤ sizeLine; decide, fun p hp => ?_⟩
    exact ⟨_, _, rfl, g.new hp, da_newL g.bag (.cons hd .nil) hp⟩
  rintro σ H0 ⟨dv, z, rfl, g0, hdeep⟩
  refine ⟨_, rfl, _, _, rfl, rfl, cp10 (by decide) (by decide), _, _, rfl, rfl, cp10 (by decide) (by decide), _, _, rfl, rfl, _, _, rfl, rfl, cp10 (by decide) (by decide), _, _, rfl, rfl, cp10 (by decide) (by decide), _, _, rfl, rfl, _, _, rfl, rfl, cp10 (by decide) (by decide), _, rfl, by show 15 ≤ sizeLine; decide, fun pa ha => ?_⟩
  have na := g0.bag.ne ha
  have dA : DaL K (hid b H0) oddVA oddA := by
    unfold oddA
    repeat first | exact .nil | refine .cons (by first | exact .int _ | exact .bl _ | exact .non | exact .str _) ?_
  have gA := g0.new (o := .lst oddVA) ha
  have tA : Go b H0 (upd H0 pa (.lst oddVA)) := (Go.refl g0.bag).new ha
  have hA : upd H0 pa (.lst oddVA) pa = some _ := upd_same
  generalize upd H0 pa (HO.lst oddVA) = H1 at gA tA hA ⊢
  refine ⟨_, rfl, ?_⟩
  refine ⟨by show 0 ≤ sizeLine; decide, fun q2 e2 => ?_⟩
  have d2 := da_newT (K := K) (vs := []) (ds := []) gA.bag .nil e2
  have g2 := gA.new (o := .tup []) e2
  have t2 := Go.of gA.bag (same_new (o := .tup []) e2)
  generalize upd H1 q2 (HO.tup []) = H2 at d2 g2 t2 ⊢
  refine ⟨by show 1 ≤ sizeLine; decide, fun q3 e3 => ?_⟩
  have d3 := da_newT (K := K) (vs := [V.int 0]) (ds := [PyData.int 0]) g2.bag (.cons (.int _) .nil) e3
  have g3 := g2.new (o := .tup [V.int 0]) e3
  have t3 := Go.of g2.bag (same_new (o := .tup [V.int 0]) e3)
  generalize upd H2 q3 (HO.tup [V.int 0]) = H3 at d3 g3 t3 ⊢
  refine ⟨by show 2 ≤ sizeLine; decide, fun q4 e4 => ?_⟩
  have d4 := da_newT (K := K) (vs := [V.int 0, V.int 1]) (ds := [PyData.int 0, PyData.int 1]) g3.bag (.cons (.int _) (.cons (.int _) .nil)) e4
  have g4 := g3.new (o := .tup [V.int 0, V.int 1]) e4
  have t4 := Go.of g3.bag (same_new (o := .tup [V.int 0, V.int 1]) e4)
  generalize upd H3 q4 (HO.tup [V.int 0, V.int 1]) = H4 at d4 g4 t4 ⊢
  refine ⟨by show 3 ≤ sizeLine; decide, fun q5 e5 => ?_⟩
  have d5 := da_newT (K := K) (vs := [V.int 0, V.int 1, V.int 2]) (ds := [PyData.int 0, PyData.int 1, PyData.int 2]) g4.bag (.cons (.int _) (.cons (.int _) (.cons (.int _) .nil))) e5
  have g5 := g4.new (o := .tup [V.int 0, V.int 1, V.int 2]) e5
  have t5 := Go.of g4.bag (same_new (o := .tup [V.int 0, V.int 1, V.int 2]) e5)
  generalize upd H4 q5 (HO.tup [V.int 0, V.int 1, V.int 2]) = H5 at d5 g5 t5 ⊢
  refine ⟨by show 2 ≤ sizeLine; decide, fun q6 e6 => ?_⟩
  have d6 := da_newT (K := K) (vs := [V.int 1, V.int 0]) (ds := [PyData.int 1, PyData.int 0]) g5.bag (.cons (.int _) (.cons (.int _) .nil)) e6
  have g6 := g5.new (o := .tup [V.int 1, V.int 0]) e6
  have t6 := Go.of g5.bag (same_new (o := .tup [V.int 1, V.int 0]) e6)
  generalize upd H5 q6 (HO.tup [V.int 1, V.int 0]) = H6 at d6 g6 t6 ⊢
  refine ⟨by show 0 ≤ sizeLine; decide, fun q7 e7 => ?_⟩
  have d7 := da_newL (K := K) (vs := []) (ds := []) g6.bag .nil e7
  have g7 := g6.new (o := .lst []) e7
  have t7 := Go.of g6.bag (same_new (o := .lst []) e7)
  generalize upd H6 q7 (HO.lst []) = H7 at d7 g7 t7 ⊢
  refine ⟨by show 1 ≤ sizeLine; decide, fun q8 e8 => ?_⟩
  have d8 := da_newL (K := K) (vs := [V.int 0]) (ds := [PyData.int 0]) g7.bag (.cons (.int _) .nil) e8
  have g8 := g7.new (o := .lst [V.int 0]) e8
  have t8 := Go.of g7.bag (same_new (o := .lst [V.int 0]) e8)
  generalize upd H7 q8 (HO.lst [V.int 0]) = H8 at d8 g8 t8 ⊢
  refine ⟨by show 2 ≤ sizeLine; decide, fun q9 e9 => ?_⟩
  have d9 := da_newL (K := K) (vs := [V.int 0, V.int 1]) (ds := [PyData.int 0, PyData.int 1]) g8.bag (.cons (.int _) (.cons (.int _) .nil)) e9
  have g9 := g8.new (o := .lst [V.int 0, V.int 1]) e9
  have t9 := Go.of g8.bag (same_new (o := .lst [V.int 0, V.int 1]) e9)
  generalize upd H8 q9 (HO.lst [V.int 0, V.int 1]) = H9 at d9 g9 t9 ⊢
  refine ⟨by show 2 ≤ sizeLine; decide, fun q10 e10 => ?_⟩
  have d10 := da_newL (K := K) (vs := [V.int 0, V.int 1]) (ds := [PyData.int 0, PyData.int 1]) g9.bag (.cons (.int _) (.cons (.int _) .nil)) e10
  have g10 := g9.new (o := .lst [V.int 0, V.int 1]) e10
  have t10 := Go.of g9.bag (same_new (o := .lst [V.int 0, V.int 1]) e10)
  generalize upd H9 q10 (HO.lst [V.int 0, V.int 1]) = H10 at d10 g10 t10 ⊢
  refine ⟨by show 1 ≤ sizeLine; decide, fun q11 e11 => ?_⟩
  have d11 := da_newL (K := K) (vs := [.ref q10]) (ds := [PyData.list [PyData.int 0, PyData.int 1]]) g10.bag (.cons d10 .nil) e11
  have g11 := g10.new (o := .lst [.ref q10]) e11
  have t11 := Go.of g10.bag (same_new (o := .lst [.ref q10]) e11)
  generalize upd H10 q11 (HO.lst [.ref q10]) = H11 at d11 g11 t11 ⊢
  refine fun q12 e12 => ?_
  have d12 : Da K (hid b (upd H11 q12 (.dK []))) (.ref q12) (.dict []) := .dct (by rw [hid_ne (g11.bag.ne e12)]; exact upd_same) .nil
  have g12 := g11.new (o := .dK []) e12
  have t12 := Go.of g11.bag (same_new (o := .dK []) e12)
  generalize upd H11 q12 (HO.dK []) = H12 at d12 g12 t12 ⊢
  refine fun q13 e13 => ?_
  refine ⟨upd_same, [(.inl 0, .int 1)], rfl, by decide, ?_⟩
  rw [upd_upd]
  have em : mergeK [] [((.inl 0 : Key), V.int 1)] = [(.inl 0, .int 1)] := rfl
  rw [em]
  have d13 : Da K (hid b (upd H12 q13 (.dK [(.inl 0, .int 1)]))) (.ref q13) (.dict [(PyData.int 0, PyData.int 1)]) := .dct (by rw [hid_ne (g12.bag.ne e13)]; exact upd_same) (.cons (.int 1) .nil)
  have g13 := g12.new (o := .dK [(.inl 0, .int 1)]) e13
  have t13 := Go.of g12.bag (same_new (o := .dK [(.inl 0, .int 1)]) e13)
  generalize upd H12 q13 (HO.dK [(.inl 0, .int 1)]) = H13 at d13 g13 t13 ⊢
  refine ⟨_, rfl, ?_⟩
  refine ⟨by show 1 ≤ sizeLine; decide, fun q14 e14 => ?_⟩
  have d14 := da_newL (K := K) (vs := [V.int 0]) (ds := [PyData.int 0]) g13.bag (.cons (.int _) .nil) e14
  have g14 := g13.new (o := .lst [V.int 0]) e14
  have t14 := Go.of g13.bag (same_new (o := .lst [V.int 0]) e14)
  have hz := @upd_same H13 q14 (.lst [V.int 0])
  generalize upd H13 q14 (HO.lst [V.int 0]) = H14 at d14 g14 t14 hz ⊢
  have hz14 : H14 q14 = some (.lst [V.int 0]) := hz
  refine ⟨q14, 2000, _, rfl, rfl, hz14, by decide, by decide, by decide, fun q15 e15 => ?_⟩
  have er : (List.replicate (2000 : Int).toNat [V.int 0]).flatten = List.replicate 2000 (V.int 0) := flat_rep _ _
  rw [er]
  have d15 := da_newL (K := K) g14.bag (DaL.rep (.int 0) 2000) e15
  have g15 := g14.new (o := .lst (List.replicate 2000 (V.int 0))) e15
  have t15 := Go.of g14.bag (same_new (o := .lst (List.replicate 2000 (V.int 0))) e15)
  generalize upd H14 q15 (HO.lst (List.replicate 2000 (V.int 0))) = H15 at d15 g15 t15 ⊢
  have T15 := Go.refl g15.bag
  have T14 := t15.trans T15
  have T13 := t14.trans T14
  have T12 := t13.trans T13
  have T11 := t12.trans T12
  have T10 := t11.trans T11
  have T9 := t10.trans T10
  have T8 := t9.trans T9
  have T7 := t8.trans T8
  have T6 := t7.trans T7
  have T5 := t6.trans T6
  have T4 := t5.trans T5
  have T3 := t4.trans T4
  have T2 := t3.trans T3
  have T1 := t2.trans T2
  have T0 := tA.trans T1
  have dB : DaL K (hid b H15) [V.ref q2, V.ref q3, V.ref q4, V.ref q5, V.ref q6, V.ref q7, V.ref q8, V.ref q9, V.ref q11, V.ref q12, V.ref q13, dv, V.ref q15] oddB := (.cons (T2.da d2) (.cons (T3.da d3) (.cons (T4.da d4) (.cons (T5.da d5) (.cons (T6.da d6) (.cons (T7.da d7) (.cons (T8.da d8) (.cons (T9.da d9) (.cons (T11.da d11) (.cons (T12.da d12) (.cons (T13.da d13) (.cons (T0.da hdeep) (.cons (T15.da d15) .nil)))))))))))))
  refine ⟨by show 13 ≤ sizeLine; decide, fun pb hpb => ?_⟩
  have nb := g15.bag.ne hpb
  have t16 := Go.of g15.bag (same_new (o := .lst [V.ref q2, V.ref q3, V.ref q4, V.ref q5, V.ref q6, V.ref q7, V.ref q8, V.ref q9, V.ref q11, V.ref q12, V.ref q13, dv, V.ref q15]) hpb)
  have hB : upd H15 pb (.lst [V.ref q2, V.ref q3, V.ref q4, V.ref q5, V.ref q6, V.ref q7, V.ref q8, V.ref q9, V.ref q11, V.ref q12, V.ref q13, dv, V.ref q15]) pb = some _ := upd_same
  have g16 := g15.new (o := .lst [V.ref q2, V.ref q3, V.ref q4, V.ref q5, V.ref q6, V.ref q7, V.ref q8, V.ref q9, V.ref q11, V.ref q12, V.ref q13, dv, V.ref q15]) hpb
  generalize upd H15 pb (HO.lst [V.ref q2, V.ref q3, V.ref q4, V.ref q5, V.ref q6, V.ref q7, V.ref q8, V.ref q9, V.ref q11, V.ref q12, V.ref q13, dv, V.ref q15]) = H16 at t16 hB g16 ⊢
  have T1' := T1.trans t16
  refine ⟨pa, pb, _, _, rfl, rfl, T1'.get hA na, hB, by show 15 + 13 ≤ sizeLine; decide, fun pc hpc => ?_⟩
  have nc := g16.bag.ne hpc
  have dC := ((tA.trans T1').dal dA).app (t16.dal dB)
  have hC := @upd_same H16 pc (.lst (oddVA ++ [V.ref q2, V.ref q3, V.ref q4, V.ref q5, V.ref q6, V.ref q7, V.ref q8, V.ref q9, V.ref q11, V.ref q12, V.ref q13, dv, V.ref q15]))
  have gC := g16.new (o := .lst (oddVA ++ [V.ref q2, V.ref q3, V.ref q4, V.ref q5, V.ref q6, V.ref q7, V.ref q8, V.ref q9, V.ref q11, V.ref q12, V.ref q13, dv, V.ref q15])) hpc
  have dC' := (Go.of g16.bag (same_new (o := .lst (oddVA ++ [V.ref q2, V.ref q3, V.ref q4, V.ref q5, V.ref q6, V.ref q7, V.ref q8, V.ref q9, V.ref q11, V.ref q12, V.ref q13, dv, V.ref q15])) hpc)).dal dC
  refine ⟨_, rfl, _, _, rfl, rfl, mul99, by show 1 ≤ sizeLine; decide, fun pd hpd => ?_⟩
  have gD := gC.new (o := .lst [V.str (Txt.mul "a" 99)]) hpd
  have tD := Go.of gC.bag (same_new (o := .lst [V.str (Txt.mul "a" 99)]) hpd)
  refine ⟨pc, pd, _, _, rfl, rfl, tD.get hC nc, upd_same, by show 28 + 1 ≤ sizeLine; decide, fun pe hpe => ?_⟩
  have ne := gD.bag.ne hpe
  have gE := gD.new (o := .lst ((oddVA ++ [V.ref q2, V.ref q3, V.ref q4, V.ref q5, V.ref q6, V.ref q7, V.ref q8, V.ref q9, V.ref q11, V.ref q12, V.ref q13, dv, V.ref q15]) ++ [V.str (Txt.mul "a" 99)])) hpe
  have dE := (Go.of gD.bag (same_new (o := .lst ((oddVA ++ [V.ref q2, V.ref q3, V.ref q4, V.ref q5, V.ref q6, V.ref q7, V.ref q8, V.ref q9, V.ref q11, V.ref q12, V.ref q13, dv, V.ref q15]) ++ [V.str (Txt.mul "a" 99)])) hpe)).dal ((tD.dal dC').app (.cons (.str (Txt.mul "a" 99)) .nil))
  refine ⟨_, rfl, _, rfl, b, _, rfl, gE.bag, by decide, by decide, fun v HF v0 v1 gF => ?_⟩
  obtain ⟨x, d, ex, hm, _, hx⟩ := (gF.dal dE).pick v0 (by simpa [oddA, oddB] using v1)
  refine ⟨pe, _, _, _, rfl, rfl, SqL.of (gF.get upd_same ne), ex, ?_⟩
  obtain ⟨s1, s2⟩ := odd_ok d hm
  exact k x d HF (gE.trans gF) hx s1 s2

abbrev s__law_whole : Stmt := top 14
abbrev sc__law_whole_N : List Str := ["_law_thing", "_law_least", "_law_most"]
theorem sc__law_whole : FnScope sc__law_whole_N ["_law_thing", "_law_least", "_law_most"] (defScope s__law_whole) := ⟨rfl, rfl, rfl, by decide +kernel, rfl, by decide +kernel, by decide +kernel⟩
theorem ok__law_whole (D : Def K mg "_law_whole" s__law_whole ["_law_thing", "_law_least", "_law_most"]) (B : Blt mg) : Cal P w K mg base CX0 1 "_law_whole" ["_law_thing", "_law_least", "_law_most"] (sp_is_between K) := by
  refine D.ok sc__law_whole (fun vs H Q E h => by obtain ⟨v, d, lo, hi, rfl, _⟩ := h; rfl) (fun f cdv A out s H vs Q E hr h => ?_)
  obtain ⟨v, d, lo, hi, rfl, hd, k⟩ := h
  refine ⟨_, (pss_one (ps_ret (pe_and (pe_callB (kisi K) (by rfl) B.isinstance (by decide +kernel) (pa_cons (pv 0) (pa_cons (pe_ty (n := "int") B.int (by decide +kernel)) pa_nil))) (pe_and (pe_not (pe_callB (kisi K) (by rfl) B.isinstance (by decide +kernel) (pa_cons (pv 0) (pa_cons (pe_ty (n := "bool") B.bool (by decide +kernel)) pa_nil)))) (pe_one (pe_chain op_le op_le (pv 1) (pv 0) (pv 2))))))), ?_⟩
  refine ⟨_, rfl, _, _, _, _, _, rfl, .ty "int", hd.ty, kit_int d, _, rfl, ?_⟩
  cases d with
  | int i =>
    refine iteT ⟨_, rfl, _, _, _, _, _, rfl, .ty "bool", hd.ty, kit_bool (.int i), _, rfl, _, rfl, ?_⟩
    cases hd
    refine iteT ⟨_, rfl, _, rfl, _, _, rfl, rfl, _, rfl, ?_⟩
    refine ite2 (fun h1 => ?_) (fun h1 => ?_)
    · refine ⟨_, rfl, _, _, rfl, rfl, ?_⟩
      rw [betw, h1] at k
      exact k
    · rw [betw, eq_false_of_ne_true h1] at k
      exact k
  | bool b => exact iteT ⟨_, rfl, _, _, _, _, _, rfl, .ty "bool", hd.ty, kit_bool (.bool b), _, rfl, _, rfl, iteF k⟩
  | _ => exact iteF k

abbrev s__law_is_set : Stmt := top 15
abbrev sc__law_is_set_N : List Str := ["_law_thing", "_law_size", "_law_k", "_law_broker"]
theorem sc__law_is_set : FnScope sc__law_is_set_N ["_law_thing", "_law_size"] (defScope s__law_is_set) := ⟨rfl, rfl, rfl, by decide +kernel, rfl, by decide +kernel, by decide +kernel⟩
theorem ok__law_is_set (D : Def K mg "_law_is_set" s__law_is_set ["_law_thing", "_law_size"]) (B : Blt mg) (c__law_whole : Cal P w K mg base CX0 1 "_law_whole" ["_law_thing", "_law_least", "_law_most"] (sp_is_between K)) : Cal P w K mg base CX0 2 "_law_is_set" ["_law_thing", "_law_size"] (sp_is_set K) := by
  refine D.ok sc__law_is_set (fun vs H Q E h => by obtain ⟨v, d, n, rfl, _⟩ := h; rfl) (fun f cdv A out s H vs Q E hr h => ?_)
  obtain ⟨v, d, n, rfl, hd, hl, k⟩ := h
  refine ⟨_, (pss_cons (ps_if (PW.pt (pw_or (pt_not (pt_val (pe_callB (kisi K) (by rfl) B.isinstance (by decide +kernel) (pa_cons (pv 0) (pa_cons (pe_ty (n := "list") B.list (by decide +kernel)) pa_nil))))) (pw_or1 (pt_not (pt_val (pe_callB (kall K) (by rfl) B.all (by decide +kernel) (pa_cons (pe_lc (own := [("_law_broker", 3)]) (g := (gName 3)) (tt := tYes) rfl sc__law_is_set.nd (pi_list (pv 0)) (blkOk_by (own := [("_law_broker", 3)]) (N := sc__law_is_set_N) (sc := defScope s__law_is_set) (by decide +kernel)) (fun _ _ _ _ _ => (pg_name (i := 3) sc__law_is_set.nd rfl (Or.inl rfl))) (fun _ _ _ _ _ => pts_nil) (fun _ _ _ _ _ => (pe_c c__law_whole (hr.mono (by decide)) pass0 (pa_cons (pv 3) (pa_cons pe_int (pa_cons (pe_op op_sub (pv 1) pe_int) pa_nil)))))) pa_nil)))))))
      (pss_one (ps_ret pe_bl))
      pss_nil)
      (pss_one (ps_ret (pe_cmpR (keq K hr.units) (pe_lc (own := [("_law_k", 2)]) (g := (gName 2)) rfl sc__law_is_set.nd (pi_range2 rfl B.range (pa_cons pe_int (pa_cons (pe_callB (klen K) (by rfl) B.len (by decide +kernel) (pa_cons (pv 0) pa_nil)) pa_nil))) (blkOk_by (own := [("_law_k", 2)]) (N := sc__law_is_set_N) (sc := defScope s__law_is_set) (by decide +kernel)) (fun _ _ _ _ _ => (pg_name (i := 2) sc__law_is_set.nd rfl (Or.inl rfl))) (fun _ _ _ _ _ => (pts_one (pt_cmpR op_ge (pe_ix (kixL K) (pv 0) (pe_op op_sub (pv 2) pe_int) (fun _ _ => rfl)) (pe_ix (kixL K) (pv 0) (pv 2) (fun _ _ => rfl)) (nomark _)))) (fun _ _ _ _ _ => (pv 2))) (pe_lst pa_nil) (nomark _))))), ?_⟩
  refine ⟨_, rfl, _, _, _, _, _, rfl, .ty "list", hd.ty, kit_list d, _, rfl, ?_⟩
  cases d with
  | list ds =>
    cases hd with
    | @lst a xs _ hS hL =>
      refine iteF ?_
      refine ⟨_, rfl, a, rfl, ⟨_, hS⟩, fun L hD => ?_⟩
      have hlen : xs.length = ds.length := hL.len
      have hl' : ds.length ≤ 100000 := hl
      refine lc_map (xs := xs) (ys := (ds.map fun x => betw x 0 (n - 1)).map V.bl) hS hD (by simp [hlen]) (by omega) (fun x => rfl) (fun i x y hx hy H1 e1 Q1 q1 => ?_) (fun H1 e1 hD1 => ?_)
      · obtain ⟨d, ed, hd⟩ := hL.getV hx
        rw [List.getElem?_map, List.getElem?_map, ed] at hy
        cases hy
        exact ⟨_, rfl, _, rfl, _, _, rfl, rfl, x, d, _, _, rfl, hd.mono e1, q1 H1 (Same.refl _)⟩
      · refine ⟨L, _, rfl, SqL.of hD1, _, rfl, ?_⟩
        rw [boolAll]
        have hk : isSetD (.list ds) n = (ds.all (fun x => betw x 0 (n - 1)) && ascD ds) := rfl
        rw [hk] at k
        cases ha : ds.all (fun x => betw x 0 (n - 1)) with
        | false =>
          rw [ha] at k
          exact iteT (k H1 e1)
        | true =>
          rw [ha] at k
          refine iteF ⟨_, rfl, _, _, rfl, Or.inl ⟨_, sql_up e1 hS, rfl⟩, _, _, rfl, ⟨by omega, by omega, by omega, by omega⟩, fun M hM => ?_⟩
          have hall := List.all_eq_true.mp ha
          have hzl : (((xs.length : Nat) : Int) - 1).toNat = (List.zipWith ltD ds (ds.drop 1)).length := by rw [List.length_zipWith, List.length_drop, hlen]; omega
          rw [hzl]
          have hzb : (List.zipWith ltD ds (ds.drop 1)).length ≤ 100000 := by rw [List.length_zipWith]; omega
          refine lc_gen walk_range (fun i => (notAsc (List.zipWith ltD ds (ds.drop 1)) i).map V.int) hM hzb (fun _ _ => trivial) (fun i x H3 H4 hi e3 hy R1 R0 q1 q0 => ?_) (fun H3 e3 hM3 => ?_)
          · obtain ⟨rfl, rfl⟩ := hy
            have hi2 : i + 1 < ds.length := by
              rw [List.length_zipWith, List.length_drop] at hi
              omega
            obtain ⟨x1, f1, hd1⟩ := hL.get (List.getElem?_eq_getElem (show i < ds.length by omega))
            obtain ⟨x2, f2, hd2⟩ := hL.get (List.getElem?_eq_getElem hi2)
            obtain ⟨i1, g1⟩ := betw_int (hall ds[i] (List.getElem_mem _))
            obtain ⟨i2, g2⟩ := betw_int (hall ds[i + 1] (List.getElem_mem _))
            have hz : (List.zipWith ltD ds (ds.drop 1))[i]? = some (decide (i1 < i2)) := by
              rw [List.getElem?_zipWith, List.getElem?_drop, List.getElem?_eq_getElem (show i < ds.length by omega), show 1 + i = i + 1 by omega, List.getElem?_eq_getElem hi2, g1, g2]
              rfl
            rw [g1] at hd1
            rw [g2] at hd2
            cases hd1
            cases hd2
            have eA : (1 : Int) + (i : Int) - 1 = ((i : Nat) : Int) := by omega
            have eB : (1 : Int) + (i : Int) = ((i + 1 : Nat) : Int) := by omega
            refine ⟨rfl, _, rfl, _, rfl, _, _, rfl, rfl, a, xs, _, _, rfl, rfl, sql_up (e1.trans e3) hS, (show atI xs ((1 : Int) + (i : Int) - 1) = some (.int i1) by rw [eA]; exact atI_nat f1), _, rfl, _, rfl, a, xs, _, _, rfl, rfl, sql_up (e1.trans e3) hS, (show atI xs ((1 : Int) + (i : Int)) = some (.int i2) by rw [eB]; exact atI_nat f2), _, _, rfl, rfl, _, rfl, ?_⟩
            unfold notAsc at q1 q0
            rw [hz] at q1 q0
            by_cases hlt : i1 < i2
            · rw [decide_eq_true hlt, if_pos rfl] at q0
              rw [decide_eq_false (by omega)]
              exact iteF (q0 rfl _ (Same.refl _))
            · rw [decide_eq_false hlt, if_neg (by decide)] at q1
              rw [decide_eq_true (by omega)]
              exact iteT ⟨_, rfl, q1 _ _ rfl (Same.refl _)⟩
          · refine ⟨by show 0 ≤ sizeLine; decide, fun N hN => ?_⟩
            rw [fm_map] at hM3
            have nMN : M ≠ N := ne_of_none hM3 hN
            refine ⟨_, PyData.list [], .lst (SqL.of (by rw [upd_ne nMN]; exact hM3)) (DaL.dp _ _ (canLay_ints _) (DaL.ints _)), .lst (SqL.of upd_same) .nil, ?_, rfl, ?_⟩
            · exact shaped_ints _
            · rw [eqv_nil, notAsc_all]
              exact k _ ((e1.trans e3).trans (same_new hN))
  | _ => exact iteT (k H (Same.refl _))

abbrev s__law_number : Stmt := top 16
abbrev sc__law_number_N : List Str := ["_law_bag_here", "_law_some"]
theorem sc__law_number : FnScope sc__law_number_N ["_law_bag_here"] (defScope s__law_number) := ⟨rfl, rfl, rfl, by decide +kernel, rfl, by decide +kernel, by decide +kernel⟩
theorem ok__law_number (D : Def K mg "_law_number" s__law_number ["_law_bag_here"]) (c__law_take : Cal P w K mg base CX0 1 "_law_take" ["_law_bag_here", "_law_many"] sp_take) : Cal P w K mg base CX0 2 "_law_number" ["_law_bag_here"] sp_number := by
  refine D.ok sc__law_number (fun vs H Q E h => by obtain ⟨b, rfl, _⟩ := h; rfl) (fun f cdv A out s H vs Q E hr h => ?_)
  obtain ⟨b, rfl, hb, k⟩ := h
  refine ⟨_, (pss_cons (ps_set (i := 1) sc__law_number.nd rfl (Or.inl rfl) (pe_lst (pa_cons pe_int (pa_cons pe_int (pa_cons (pe_op op_pow pe_int pe_int) (pa_cons (pe_op op_pow pe_int pe_int) (pa_cons (pe_c c__law_take (hr.mono (by decide)) pass0 (pa_cons (pv 0) (pa_cons (pe_op op_pow pe_int pe_int) pa_nil))) (pa_cons (pe_un un_neg (pe_c c__law_take (hr.mono (by decide)) pass0 (pa_cons (pv 0) (pa_cons (pe_op op_pow pe_int pe_int) pa_nil)))) pa_nil))))))))
      (pss_one (ps_ret (pe_op op_sub (pe_op op_add (pe_ix (kixL K) (pv 1) (pe_c c__law_take (hr.mono (by decide)) pass0 (pa_cons (pv 0) (pa_cons pe_int pa_nil))) (fun _ _ => rfl)) (pe_c c__law_take (hr.mono (by decide)) pass0 (pa_cons (pv 0) (pa_cons pe_int pa_nil)))) pe_int)))), ?_⟩
  refine ⟨_, _, rfl, rfl, cp10 (by decide) (by decide), _, _, rfl, rfl, cp10 (by decide) (by decide), _, rfl, _, _, rfl, rfl, cp10 (by decide) (by decide), b, _, rfl, hb, by decide, by decide, fun v1 H1 a1 b1 g1 => ?_⟩
  refine ⟨_, rfl, _, _, rfl, rfl, cp10 (by decide) (by decide), b, _, rfl, g1.bag, by decide, by decide, fun v2 H2 a2 b2 g2 => ?_⟩
  refine ⟨_, rfl, by show 6 ≤ sizeLine; decide, fun p hp => ?_⟩
  have g3 := (g1.trans g2).new (o := .lst ([0, 1, 10 ^ (18 : Int).toNat, 10 ^ (30 : Int).toNat, v1, -v2].map V.int)) hp
  have np := g2.bag.ne hp
  refine ⟨_, rfl, _, rfl, b, _, rfl, g3.bag, by decide, by decide, fun v3 H3 a3 b3 g4 => ?_⟩
  obtain ⟨z, hz, ez⟩ := pickI (ns := [0, 1, 10 ^ (18 : Int).toNat, 10 ^ (30 : Int).toNat, v1, -v2]) a3 (by simpa using b3)
  refine ⟨p, _, _, _, rfl, rfl, SqL.of (g4.get upd_same np), ez, _, rfl, b, _, rfl, g4.bag, by decide, by decide, fun v4 H4 a4 b4 g5 => ?_⟩
  refine ⟨_, _, rfl, rfl, _, _, rfl, rfl, ?_⟩
  refine k _ _ ?_ ((g3.trans g4).trans g5)
  have e18 : (10 : Int) ^ (18 : Int).toNat = 1000000000000000000 := by decide
  have e30 : (10 : Int) ^ (30 : Int).toNat = 1000000000000000000000000000000 := by decide
  have e40 : (10 : Int) ^ (40 : Int).toNat = 10000000000000000000000000000000000000000 := by decide
  have e45 : 10 ^ 45 = 1000000000000000000000000000000000000000000000 := by decide
  rw [e40] at b1 b2
  rw [e45]
  simp only [List.mem_cons, List.not_mem_nil, or_false, e18, e30] at hz
  rcases hz with h | h | h | h | h | h <;> subst h <;> omega

abbrev s__law_brokers : Stmt := top 17
abbrev sc__law_brokers_N : List Str := ["_law_bag_here", "_law_size", "_law_found", "_law_at", "_law_way", "_law_broker"]
theorem sc__law_brokers : FnScope sc__law_brokers_N ["_law_bag_here", "_law_size"] (defScope s__law_brokers) := ⟨rfl, rfl, rfl, by decide +kernel, rfl, by decide +kernel, by decide +kernel⟩
theorem ok__law_brokers (D : Def K mg "_law_brokers" s__law_brokers ["_law_bag_here", "_law_size"]) (B : Blt mg) (c__law_take : Cal P w K mg base CX0 1 "_law_take" ["_law_bag_here", "_law_many"] sp_take) (c__law_odd : Cal P w K mg base CX0 2 "_law_odd" ["_law_bag_here"] (sp_odd K)) : Cal P w K mg base CX0 3 "_law_brokers" ["_law_bag_here", "_law_size"] (sp_brokers K) := by
  refine D.ok sc__law_brokers (fun vs H Q E h => by obtain ⟨b, n, rfl, _⟩ := h; rfl) (fun f cdv A out s H vs Q E hr h => ?_)
  obtain ⟨b, n, rfl, hb, n0, n1, k⟩ := h
  refine ⟨_, (pss_cons (ps_setLc (i := 2) (own := [("_law_broker", 5)]) (g := (gName 5)) rfl sc__law_brokers.nd rfl rfl (sw_true rfl rfl rfl (by decide +kernel)) (pi_range1 rfl B.range (pa_cons (pv 1) pa_nil)) (blkOk_by (own := [("_law_broker", 5)]) (N := sc__law_brokers_N) (sc := defScope s__law_brokers) (by decide +kernel)) (fun _ _ _ _ _ => (pg_name (i := 5) sc__law_brokers.nd rfl (Or.inl rfl))) (fun _ _ _ _ _ => (pts_one (pt_cmpR op_eq (pe_c c__law_take (hr.mono (by decide)) pass0 (pa_cons (pv 0) (pa_cons pe_int pa_nil))) pe_int (nomark _)))) (fun _ _ _ _ _ => (pv 5)))
      (pss_cons (ps_par (i := 3) (j := 4) (by rfl) sc__law_brokers.nd rfl rfl (by decide) rfl rfl (pa_cons (pe_c c__law_take (hr.mono (by decide)) pass0 (pa_cons (pv 0) (pa_cons (pe_op op_add (pe_callB (klen K) (by rfl) B.len (by decide +kernel) (pa_cons (pv 2) pa_nil)) pe_int) pa_nil))) (pa_cons (pe_c c__law_take (hr.mono (by decide)) pass0 (pa_cons (pv 0) (pa_cons pe_int pa_nil))) pa_nil)) (by rfl))
      (pss_cons (ps_if (pt_cmpR op_eq (pv 4) pe_int (nomark _))
      (pss_one (ps_ret (pe_op op_cat (pe_op op_cat (pe_slice (kslL K) (pv 2) po_none (po_some (pv 3))) (pe_lst (pa_cons (pe_c c__law_odd (hr.mono (by decide)) pass0 (pa_cons (pv 0) pa_nil)) pa_nil))) (pe_slice (kslL K) (pv 2) (po_some (pv 3)) po_none))))
      pss_nil)
      (pss_cons (ps_if (pt_cmpR op_eq (pv 4) pe_int (nomark _))
      (pss_one (ps_ret (pe_op op_cat (pe_op op_cat (pe_slice (kslL K) (pv 2) po_none (po_some (pv 3))) (pe_slice (kslL K) (pv 2) (po_some (pv 3)) (po_some (pe_op op_add (pv 3) pe_int)))) (pe_slice (kslL K) (pv 2) (po_some (pv 3)) po_none))))
      pss_nil)
      (pss_cons (ps_if (pt_cmpR op_eq (pv 4) pe_int (nomark _))
      (pss_one (ps_ret (pe_ix (kixL K) (pe_lst (pa_cons (pe_revL (pv 2)) (pa_cons (pe_callTy (ktup K) (by rfl) B.tuple (by decide +kernel) (pa_cons (pv 2) pa_nil)) (pa_cons (pe_op op_cat (pv 2) (pe_lst (pa_cons (pv 1) pa_nil))) (pa_cons (pe_op op_cat (pe_lst (pa_cons (pe_un un_neg pe_int) pa_nil)) (pv 2)) pa_nil))))) (pe_c c__law_take (hr.mono (by decide)) pass0 (pa_cons (pv 0) (pa_cons pe_int pa_nil))) (fun _ _ => rfl))))
      pss_nil)
      (pss_one (ps_ret (pe_ifExp (pt_cmpR op_eq (pv 4) pe_int (nomark _)) (pe_op op_cat (pe_slice (kslL K) (pv 2) po_none (po_some (pv 3))) (pe_slice (kslL K) (pv 2) (po_some (pe_op op_add (pv 3) pe_int)) po_none)) (pv 2))))))))), ?_⟩
  refine ⟨_, rfl, n, rfl, by omega, by omega, fun L hL => ?_⟩
  refine lc_range (lo := 0) (n := n.toNat) (fun i H' => Go b H H' ∧ ∃ ns : List Int, H' L = some (.lst (ns.map V.int)) ∧ ns.length ≤ i ∧ ∀ z ∈ ns, 0 ≤ z ∧ z < 10) ⟨(Go.refl hb).new hL, [], upd_same, Nat.le_refl _, fun z hz => nomatch hz⟩ ?_ ?_
  · rintro i H' hi ⟨g, ns, hD, hl, hz⟩
    refine ⟨rfl, _, rfl, b, _, rfl, g.bag, by decide, by decide, fun v H3 v0 v1 g3 => ⟨rfl, _, rfl, ?_⟩⟩
    have nL : L ≠ b := hb.ne hL
    have hD3 := g3.get hD nL
    refine ite2 (fun _ => ?_) (fun _ => ⟨g.trans g3, ns, hD3, by omega, hz⟩)
    refine ⟨_, rfl, _, hD3, ?_, (g.trans g3).mut hL, ns ++ [(0 : Int) + (i : Int)], ?_, ?_, ?_⟩
    · rw [List.length_map, sizeLine_eq]
      omega
    · rw [upd_same, List.map_append]
      rfl
    · rw [List.length_append, List.length_singleton]
      omega
    · intro z hz'
      rcases List.mem_append.mp hz' with h | h
      · exact hz z h
      · rw [List.mem_singleton.mp h]
        omega
  rintro H1 ⟨g1, ns, hD, hl, hz⟩
  have nL : L ≠ b := hb.ne hL
  have hI : SmI 10 ns := ⟨by omega, fun z h => by
    have q := hz z h
    have e45 : 10 ^ 45 = 1000000000000000000000000000000000000000000000 := by decide
    rw [e45]
    omega⟩
  have hlen := hI.1
  refine ⟨_, rfl, _, rfl, _, _, rfl, Or.inl ⟨_, SqL.of hD, rfl⟩, _, _, rfl, rfl, b, _, rfl, g1.bag, by omega, ?_, fun at_ H2 a0 a1 g2 => ?_⟩
  · rw [List.length_map]
    have e : (2 : Int) ^ 200 = 1606938044258990275541962092341162602522202993782792835301376 := by decide
    rw [e]
    omega
  refine ⟨_, rfl, b, _, rfl, g2.bag, by decide, by decide, fun way H3 w0 w1 g3 => ?_⟩
  refine ⟨_, _, rfl, ?_⟩
  have g13 := (g1.trans g2).trans g3
  have hD3 := (g2.trans g3).get hD nL
  refine ⟨_, rfl, rfl, _, rfl, ite2 (fun _ => ?_) (fun _ => ?_)⟩
  · refine ⟨_, rfl, _, rfl, _, rfl, L, _, rfl, SqL.of hD3, fun p1 h1 => ?_⟩
    obtain ⟨m1, e1, i1⟩ := cutI hI none (some at_)
    rw [e1]
    have t1 := Go.of g13.bag (same_new (o := .lst (m1.map V.int)) h1)
    have n1 := g13.bag.ne h1
    refine ⟨_, rfl, b, rfl, t1.bag, fun x d H4 g4 hx hs hld => ?_⟩
    refine ⟨by show 1 ≤ sizeLine; decide, fun p2 h2 => ?_⟩
    have n2 := g4.bag.ne h2
    have t2 := Go.of g4.bag (same_new (o := .lst [x]) h2)
    refine ⟨p1, p2, _, _, rfl, rfl, (g4.trans t2).get upd_same n1, upd_same, sz60 (by rw [List.length_map]; show m1.length + 1 ≤ 100000; have := i1.1; omega), fun p3 h3 => ?_⟩
    have n3 := t2.bag.ne h3
    have t3 := Go.of t2.bag (same_new (o := .lst (m1.map V.int ++ [x])) h3)
    have g14 := ((t1.trans g4).trans t2).trans t3
    refine ⟨_, rfl, _, rfl, _, rfl, L, _, rfl, SqL.of (g14.get hD3 nL), fun p4 h4 => ?_⟩
    obtain ⟨m2, e2, i2⟩ := cutI hI (some at_) none
    rw [e2]
    have t4 := Go.of t3.bag (same_new (o := .lst (m2.map V.int)) h4)
    refine ⟨p3, p4, _, _, rfl, rfl, t4.get upd_same n3, upd_same, sz60 (by simp only [List.length_append, List.length_map, List.length_singleton]; have := i1.1; have := i2.1; omega), fun p5 h5 => ?_⟩
    have dd : DaL K (hid b _) (m1.map V.int ++ [x] ++ m2.map V.int) (m1.map PyData.int ++ [d] ++ m2.map PyData.int) := ((DaL.ints m1).app (.cons (((t2.trans t3).trans t4).da hx) .nil)).app (DaL.ints m2)
    have hlen3 : (m1.map PyData.int ++ [d] ++ m2.map PyData.int).length ≤ 30 := by
      simp only [List.length_append, List.length_map, List.length_singleton]
      have := i1.1
      have := i2.1
      omega
    refine k _ _ _ ((g13.trans (g14.trans t4)).new h5) (da_newL t4.bag dd h5) ((Sm.list (n := 4) (B := 100000) (m := 30) (fun y hy => ?_) hlen3).up (by decide) (by decide)) ?_
    · rcases List.mem_append.mp hy with hy | hy
      · rcases List.mem_append.mp hy with hy | hy
        · exact (i1.sm y hy).up (by decide) (by decide)
        · rw [List.mem_singleton.mp hy]
          exact hs
      · exact (i2.sm y hy).up (by decide) (by decide)
    · show (m1.map PyData.int ++ [d] ++ m2.map PyData.int).length ≤ 100
      omega
  refine ⟨_, rfl, rfl, _, rfl, ite2 (fun _ => ?_) (fun _ => ?_)⟩
  · refine ⟨_, rfl, _, rfl, _, rfl, L, _, rfl, SqL.of hD3, fun p1 h1 => ?_⟩
    obtain ⟨m1, e1, i1⟩ := cutI hI none (some at_)
    rw [e1]
    have t1 := Go.of g13.bag (same_new (o := .lst (m1.map V.int)) h1)
    have n1 := g13.bag.ne h1
    refine ⟨_, rfl, _, rfl, _, rfl, _, rfl, _, _, rfl, rfl, _, rfl, L, _, rfl, SqL.of (t1.get hD3 nL), fun p2 h2 => ?_⟩
    obtain ⟨m2, e2, i2⟩ := cutI hI (some at_) (some (at_ + 1))
    rw [e2]
    have t2 := Go.of t1.bag (same_new (o := .lst (m2.map V.int)) h2)
    refine ⟨p1, p2, _, _, rfl, rfl, t2.get upd_same n1, upd_same, sz60 (by simp only [List.length_map]; have := i1.1; have := i2.1; omega), fun p3 h3 => ?_⟩
    rw [← List.map_append]
    have n3 := t2.bag.ne h3
    have t3 := Go.of t2.bag (same_new (o := .lst ((m1 ++ m2).map V.int)) h3)
    refine ⟨_, rfl, _, rfl, _, rfl, L, _, rfl, SqL.of (((t1.trans t2).trans t3).get hD3 nL), fun p4 h4 => ?_⟩
    obtain ⟨m3, e3, i3⟩ := cutI hI (some at_) none
    rw [e3]
    have t4 := Go.of t3.bag (same_new (o := .lst (m3.map V.int)) h4)
    refine ⟨p3, p4, _, _, rfl, rfl, t4.get upd_same n3, upd_same, sz60 (by simp only [List.length_map, List.length_append]; have := i1.1; have := i2.1; have := i3.1; omega), fun p5 h5 => ?_⟩
    rw [← List.map_append]
    obtain ⟨s1, s2⟩ := ((i1.app i2).app i3).lst (by decide)
    exact k _ _ _ ((g13.trans (((t1.trans t2).trans t3).trans t4)).new h5) (da_newL t4.bag (DaL.ints _) h5) s1 s2
  refine ⟨_, rfl, rfl, _, rfl, ite2 (fun _ => ?_) (fun _ => ?_)⟩
  · refine ⟨_, rfl, L, _, rfl, SqL.of hD3, fun p1 h1 => ?_⟩
    rw [← List.map_reverse]
    have t1 := Go.of g13.bag (same_new (o := .lst (ns.reverse.map V.int)) h1)
    have d1 := da_newL (K := K) g13.bag (DaL.ints ns.reverse) h1
    refine ⟨_, rfl, L, _, rfl, Or.inl ⟨SqL.of (t1.get hD3 nL), fun p2 h2 => ?_⟩⟩
    have t2 := Go.of t1.bag (same_new (o := .tup (ns.map V.int)) h2)
    have d2 := da_newT (K := K) t1.bag (DaL.ints ns) h2
    refine ⟨_, rfl, _, rfl, by show 1 ≤ sizeLine; decide, fun p3 h3 => ?_⟩
    have t3 := Go.of t2.bag (same_new (o := .lst [V.int n]) h3)
    refine ⟨L, p3, _, _, rfl, rfl, ((t1.trans t2).trans t3).get hD3 nL, upd_same, sz60 (by simp only [List.length_map, List.length_singleton]; omega), fun p4 h4 => ?_⟩
    have ea : ns.map V.int ++ [V.int n] = (ns ++ [n]).map V.int := by rw [List.map_append]; rfl
    rw [ea]
    have t4 := Go.of t3.bag (same_new (o := .lst ((ns ++ [n]).map V.int)) h4)
    have d4 := da_newL (K := K) t3.bag (DaL.ints (ns ++ [n])) h4
    refine ⟨_, rfl, by show 1 ≤ sizeLine; decide, fun p5 h5 => ?_⟩
    have t5 := Go.of t4.bag (same_new (o := .lst [V.int (-1)]) h5)
    have g35 := (((t1.trans t2).trans t3).trans t4).trans t5
    refine ⟨_, rfl, p5, L, _, _, rfl, rfl, upd_same, g35.get hD3 nL, sz60 (by simp only [List.length_map, List.length_singleton]; omega), fun p6 h6 => ?_⟩
    have eb : [V.int (-1)] ++ ns.map V.int = ([-1] ++ ns).map V.int := by rw [List.map_append]; rfl
    rw [eb]
    have t6 := Go.of t5.bag (same_new (o := .lst (([-1] ++ ns).map V.int)) h6)
    have d6 := da_newL (K := K) t5.bag (DaL.ints ([-1] ++ ns)) h6
    refine ⟨by show 4 ≤ sizeLine; decide, fun p7 h7 => ?_⟩
    have n7 := t6.bag.ne h7
    have t7 := Go.of t6.bag (same_new (o := .lst [.ref p1, .ref p2, .ref p4, .ref p6]) h7)
    have dl : DaL K (hid b _) [V.ref p1, .ref p2, .ref p4, .ref p6] [.list (ns.reverse.map PyData.int), .tuple (ns.map PyData.int), .list ((ns ++ [n]).map PyData.int), .list (([-1] ++ ns).map PyData.int)] :=
      .cons (((((t2.trans t3).trans t4).trans t5).trans t6).da d1) (.cons ((((t3.trans t4).trans t5).trans t6).da d2) (.cons ((t5.trans t6).da d4) (.cons d6 .nil)))
    refine ⟨_, rfl, b, _, rfl, t7.bag, by decide, by decide, fun v H8 v0 v1 g8 => ?_⟩
    obtain ⟨x, d, ex, hm, _, hx⟩ := (g8.dal (t7.dal dl)).pick v0 (by simpa using v1)
    refine ⟨p7, _, _, _, rfl, rfl, SqL.of (g8.get upd_same n7), ex, ?_⟩
    have hn45 : n.natAbs < 10 ^ 45 := by
      have e45 : 10 ^ 45 = 1000000000000000000000000000000000000000000000 := by decide
      rw [e45]
      omega
    have hq : Sm 5 4000000 d ∧ lenD d ≤ 100 := by
      simp only [List.mem_cons, List.not_mem_nil, or_false] at hm
      rcases hm with h | h | h | h
      · rw [h]; exact hI.rev.lst (by decide)
      · rw [h]; exact hI.tup (by decide)
      · rw [h]; exact (hI.app (SmI.one hn45)).lst (by decide)
      · rw [h]; exact ((SmI.one (z := -1) (by decide)).app hI).lst (by decide)
    exact k x d H8 ((g13.trans (g35.trans (t6.trans t7))).trans g8) hx hq.1 hq.2
  refine ⟨_, rfl, rfl, _, rfl, ite2 (fun _ => ?_) (fun _ => ?_)⟩
  · refine ⟨_, rfl, _, rfl, _, rfl, L, _, rfl, SqL.of hD3, fun p1 h1 => ?_⟩
    obtain ⟨m1, e1, i1⟩ := cutI hI none (some at_)
    rw [e1]
    have t1 := Go.of g13.bag (same_new (o := .lst (m1.map V.int)) h1)
    have n1 := g13.bag.ne h1
    refine ⟨_, rfl, _, rfl, _, _, rfl, rfl, _, rfl, L, _, rfl, SqL.of (t1.get hD3 nL), fun p2 h2 => ?_⟩
    obtain ⟨m2, e2, i2⟩ := cutI hI (some (at_ + 1)) none
    rw [e2]
    have t2 := Go.of t1.bag (same_new (o := .lst (m2.map V.int)) h2)
    refine ⟨p1, p2, _, _, rfl, rfl, t2.get upd_same n1, upd_same, sz60 (by simp only [List.length_map]; have := i1.1; have := i2.1; omega), fun p3 h3 => ?_⟩
    rw [← List.map_append]
    obtain ⟨s1, s2⟩ := (i1.app i2).lst (by decide)
    exact k _ _ _ ((g13.trans (t1.trans t2)).new h3) (da_newL t2.bag (DaL.ints _) h3) s1 s2
  · obtain ⟨s1, s2⟩ := hI.lst (by decide)
    exact ⟨_, rfl, k _ _ _ g13 (.lst (SqL.of (by rw [hid_ne nL]; exact hD3)) (DaL.ints _)) s1 s2⟩

abbrev s_law : Stmt := top 18
abbrev sc_law_N : List Str := ["_law_script", "_law_bag_here", "_law_turn", "_law_size", "_law_thing", "_law_shown", "_law_due", "_law_again", "_law_found"]
theorem sc_law : FnScope sc_law_N ["_law_script"] (defScope s_law) := ⟨rfl, rfl, rfl, by decide +kernel, rfl, by decide +kernel, by decide +kernel⟩
theorem ok_law (D : Def K mg "law" s_law ["_law_script"]) (B : Blt mg) (c__law_bag : Cal P w K mg base CX0 1 "_law_bag" ["_law_script"] (sp_bag K)) (c__law_take : Cal P w K mg base CX0 1 "_law_take" ["_law_bag_here", "_law_many"] sp_take) (c_is_integer : Cal P w K mg base CX0 1 "is_integer" ["thing"] (sp_is_integer K)) (c_is_amount : Cal P w K mg base CX0 3 "is_amount" ["thing"] (sp_is_amount K)) (c_is_count : Cal P w K mg base CX0 3 "is_count" ["thing"] (sp_is_count K)) (c_is_set : Cal P w K mg base CX0 4 "is_set" ["thing", "size"] (sp_is_set K)) (c__law_number : Cal P w K mg base CX0 2 "_law_number" ["_law_bag_here"] sp_number) (c__law_odd : Cal P w K mg base CX0 2 "_law_odd" ["_law_bag_here"] (sp_odd K)) (c__law_brokers : Cal P w K mg base CX0 3 "_law_brokers" ["_law_bag_here", "_law_size"] (sp_brokers K)) (c__law_whole : Cal P w K mg base CX0 1 "_law_whole" ["_law_thing", "_law_least", "_law_most"] (sp_is_between K)) (c__law_is_set : Cal P w K mg base CX0 2 "_law_is_set" ["_law_thing", "_law_size"] (sp_is_set K)) (c__law_alike : CalG P w K mg base CX0 1 "_law_alike" ["_law_found", "_law_due"] (sp_alike K)) : CalG P w K mg base CX0 5 "law" ["_law_script"] (sp_law K) := by
  refine D.okG sc_law (fun vs H Q E h => by obtain ⟨a, ns, rfl, _⟩ := h; rfl) (fun f cdv A out s H vs Q E hgu hr h => ?_)
  obtain ⟨a, ns, rfl, hS, hl, k⟩ := h
  refine ⟨_, (pss_cons (ps_set (i := 1) sc_law.nd rfl (Or.inl rfl) (pe_c c__law_bag (hr.mono (by decide)) pass0 (pa_cons (pv 0) pa_nil)))
      (pss_cons (ps_for PassesOwn.never rfl (pi_range1 rfl B.range (pa_cons pe_int pa_nil)) (pg_name (i := 2) sc_law.nd rfl (Or.inl rfl))
      (pss_cons (ps_set (i := 3) sc_law.nd rfl (Or.inl rfl) (pe_op op_add pe_int (pe_c c__law_take (hr.mono (by decide)) pass0 (pa_cons (pv 1) (pa_cons pe_int pa_nil)))))
      (pss_cons (ps_set (i := 4) sc_law.nd rfl (Or.inl rfl) (pe_ix (kixL K) (pe_lst (pa_cons (pe_c c__law_number (hr.mono (by decide)) pass0 (pa_cons (pv 1) pa_nil)) (pa_cons (pe_c c__law_odd (hr.mono (by decide)) pass0 (pa_cons (pv 1) pa_nil)) (pa_cons (pe_c c__law_brokers (hr.mono (by decide)) pass0 (pa_cons (pv 1) (pa_cons (pv 3) pa_nil))) pa_nil)))) (pe_c c__law_take (hr.mono (by decide)) pass0 (pa_cons (pv 1) (pa_cons pe_int pa_nil))) (fun _ _ => rfl)))
      (pss_cons (ps_set (i := 5) sc_law.nd rfl (Or.inl rfl) (pe_callB (krepr K hgu hr.units) (by rfl) B.repr (by decide +kernel) (pa_cons (pv 4) pa_nil)))
      (Evl.pss_cut (ps_set (i := 6) sc_law.nd rfl (Or.inl rfl) (pe_lst (pa_cons (pe_and (pe_callB (kisi K) (by rfl) B.isinstance (by decide +kernel) (pa_cons (pv 4) (pa_cons (pe_ty (n := "int") B.int (by decide +kernel)) pa_nil))) (pe_one (pe_not (pe_callB (kisi K) (by rfl) B.isinstance (by decide +kernel) (pa_cons (pv 4) (pa_cons (pe_ty (n := "bool") B.bool (by decide +kernel)) pa_nil)))))) pa_nil)))
      (pss_cons (ps_set (i := 6) sc_law.nd rfl (Or.inl rfl) (pe_op op_cat (pv 6) (pe_lst (pa_cons (pe_c c__law_whole (hr.mono (by decide)) pass0 (pa_cons (pv 4) (pa_cons pe_int (pa_cons (pe_op op_pow pe_int pe_int) pa_nil)))) (pa_cons (pe_c c__law_whole (hr.mono (by decide)) pass0 (pa_cons (pv 4) (pa_cons pe_int (pa_cons (pe_op op_pow pe_int pe_int) pa_nil)))) (pa_cons (pe_c c__law_is_set (hr.mono (by decide)) pass0 (pa_cons (pv 4) (pa_cons (pv 3) pa_nil))) pa_nil))))))
      (pss_one (ps_for PassesOwn.never rfl (pi_range1 rfl B.range (pa_cons pe_int pa_nil)) (pg_name (i := 7) sc_law.nd rfl (Or.inl rfl))
      (pss_cons (ps_set (i := 8) sc_law.nd rfl (Or.inl rfl) (pe_lst (pa_cons (pe_c c_is_integer (hr.mono (by decide)) pass0 (pa_cons (pv 4) pa_nil)) (pa_cons (pe_c c_is_amount (hr.mono (by decide)) pass0 (pa_cons (pv 4) pa_nil)) (pa_cons (pe_c c_is_count (hr.mono (by decide)) pass0 (pa_cons (pv 4) pa_nil)) (pa_cons (pe_c c_is_set (hr.mono (by decide)) pass0 (pa_cons (pv 4) (pa_cons (pv 3) pa_nil))) pa_nil))))))
      (pss_one (ps_if (PW.pt (pw_or (pt_not (pt_val (pe_cG c__law_alike hgu (hr.mono (by decide)) pass0 (pa_cons (pv 8) (pa_cons (pv 6) pa_nil))))) (pw_or1 (pt_cmpR op_ne (pe_callB (krepr K hgu hr.units) (by rfl) B.repr (by decide +kernel) (pa_cons (pv 4) pa_nil)) (pv 5) (nomark _)))))
      (pss_one (ps_ret pe_bl))
      pss_nil)))))))))))
      (pss_one (ps_ret (pe_and (pe_c c_is_integer (hr.mono (by decide)) pass0 (pa_cons (pe_op op_pow pe_int pe_int) pa_nil)) (pe_and (pe_not (pe_c c_is_amount (hr.mono (by decide)) pass0 (pa_cons (pe_op op_pow pe_int pe_int) pa_nil))) (pe_and (pe_not (pe_c c_is_set (hr.mono (by decide)) pass0 (pa_cons (pe_lst (pa_cons pe_bl pa_nil)) (pa_cons pe_int pa_nil)))) (pe_one (pe_c c_is_set (hr.mono (by decide)) pass0 (pa_cons (pe_lst pa_nil) (pa_cons pe_int pa_nil))))))))))), ?_⟩
  refine ⟨_, rfl, a, ns, rfl, hS, by omega, fun b H1 _ _ hb => ?_⟩
  refine ⟨10, rfl, by decide, by decide, for_range (lo := 0) (n := 10) (fun _ σ H' => ∃ x2 x3 x4 x5 x6 x7 x8, σ = [some (.ref a), some (.ref b), x2, x3, x4, x5, x6, x7, x8] ∧ BagOk b H') ⟨_, _, _, _, _, _, _, rfl, hb⟩ ?_ ?_⟩
  · rintro i σ H2 _ ⟨x2, x3, x4, x5, x6, x7, x8, rfl, hb2⟩
    refine ⟨_, rfl, b, _, rfl, hb2, by decide, by decide, fun sz H3 z0 z1 g3 => ?_⟩
    refine ⟨_, _, rfl, rfl, ?_⟩
    refine ⟨_, rfl, b, rfl, g3.bag, fun nv H4 hn g4 => ?_⟩
    refine ⟨_, rfl, b, rfl, g4.bag, fun ov od H5 g5 hod sod lod => ?_⟩
    refine ⟨_, rfl, _, rfl, b, _, rfl, g5.bag, by omega, by omega, fun bv bd H6 g6 hbd sbd lbd => ?_⟩
    refine ⟨by show 3 ≤ sizeLine; decide, fun p hp => ?_⟩
    have np := g6.bag.ne hp
    have t7 := Go.of g6.bag (same_new (o := .lst [.int nv, ov, bv]) hp)
    have dl : DaL K (hid b H6) [V.int nv, ov, bv] [.int nv, od, bd] := .cons (.int nv) (.cons (g6.da hod) (.cons hbd .nil))
    refine ⟨_, rfl, b, _, rfl, t7.bag, by decide, by decide, fun v H8 v0 v1 g8 => ?_⟩
    obtain ⟨x, d, ex, hm, _, hx⟩ := (g8.dal (t7.dal dl)).pick v0 (by simpa using v1)
    refine ⟨p, _, _, _, rfl, rfl, SqL.of (g8.get upd_same np), ex, ?_⟩
    have hd : Sm 5 4000000 d ∧ lenD d ≤ 2000 := by
      simp only [List.mem_cons, List.not_mem_nil, or_false] at hm
      rcases hm with h | h | h
      · rw [h]; exact ⟨(Sm.int hn).up (by decide) (by decide), by simp [lenD]⟩
      · rw [h]; exact ⟨sod.up (by decide) (by decide), lod⟩
      · rw [h]; exact ⟨sbd, by omega⟩
    have hb8 := g8.bag
    have hxH := da_of hx
    clear hx dl ex hm
    have dep : d.depth ≤ 60 := Nat.le_trans hd.1.dp (by decide)
    refine ⟨_, rfl, x, d, rfl, hxH, hd.1.sh, dep, hd.1.fits (by decide), ?_⟩
    refine ⟨fun σ H' => ∃ q, σ = [some (.ref a), some (.ref b), some (.int (0 + (i : Int))), some (.int (2 + sz)), some x, some (.str d.shown), some (.ref q), x7, x8] ∧ Same H8 H' ∧ H' q = some (.lst ([isInt d].map V.bl)), ?_, ?_⟩
    · refine ⟨_, rfl, _, _, _, _, _, rfl, .ty "int", hxH.ty, kit_int d, _, rfl, ?_⟩
      have e := isInt_eq d
      cases hi : isI d with
      | false =>
        rw [hi] at e
        refine iteF ⟨by show 1 ≤ sizeLine; decide, fun q hq => ⟨q, rfl, same_new hq, ?_⟩⟩
        rw [e]
        exact upd_same
      | true =>
        rw [hi] at e
        refine iteT ⟨_, rfl, _, _, _, _, _, rfl, .ty "bool", hxH.ty, kit_bool d, _, rfl, by show 1 ≤ sizeLine; decide, fun q hq => ⟨q, rfl, same_new hq, ?_⟩⟩
        rw [e]
        exact upd_same
    rintro σ H9 ⟨q, rfl, e9, hq⟩
    have hx9 := hxH.mono e9
    refine ⟨_, rfl, _, rfl, _, _, rfl, rfl, cp10 (by decide) (by decide), x, d, _, _, rfl, hx9, ?_⟩
    refine ⟨_, rfl, _, _, rfl, rfl, cp10 (by decide) (by decide), x, d, _, _, rfl, hx9, ?_⟩
    refine ⟨_, rfl, _, rfl, x, d, _, rfl, hx9, by omega, fun H10 e10 => ?_⟩
    refine ⟨by show 3 ≤ sizeLine; decide, fun r hr' => ?_⟩
    have er := same_new (o := .lst ([betw d 0 (10 ^ (30 : Int).toNat), betw d 1 (10 ^ (18 : Int).toNat), isSetD d (2 + sz)].map V.bl)) hr'
    refine ⟨q, r, _, _, rfl, rfl, (e10.trans er) _ _ hq, upd_same, by show 1 + 3 ≤ sizeLine; decide, fun u hu => ?_⟩
    have eu := same_new (o := .lst ([isInt d, betw d 0 (10 ^ (30 : Int).toNat), betw d 1 (10 ^ (18 : Int).toNat), isSetD d (2 + sz)].map V.bl)) hu
    have e11 := ((e9.trans e10).trans er).trans eu
    have hu11 := @upd_same (upd H10 r (.lst ([betw d 0 (10 ^ (30 : Int).toNat), betw d 1 (10 ^ (18 : Int).toNat), isSetD d (2 + sz)].map V.bl))) u (.lst ([isInt d, betw d 0 (10 ^ (30 : Int).toNat), betw d 1 (10 ^ (18 : Int).toNat), isSetD d (2 + sz)].map V.bl))
    refine ⟨2, rfl, by decide, by decide, for_range (lo := 0) (n := 2) (fun _ σ H' => ∃ y7 y8, σ = [some (.ref a), some (.ref b), some (.int (0 + (i : Int))), some (.int (2 + sz)), some x, some (.str d.shown), some (.ref u), y7, y8] ∧ Same H8 H' ∧ H' u = some (.lst ([isInt d, betw d 0 (10 ^ (30 : Int).toNat), betw d 1 (10 ^ (18 : Int).toNat), isSetD d (2 + sz)].map V.bl))) ⟨_, _, rfl, e11, hu11⟩ ?_ ?_⟩
    · rintro j σ H12 _ ⟨y7, y8, rfl, e12, hu12⟩
      have hx12 := hxH.mono e12
      refine ⟨_, rfl, x, d, rfl, hx12, _, rfl, x, d, rfl, hx12, _, rfl, x, d, rfl, hx12, _, rfl, _, rfl, x, d, _, rfl, hx12, by omega, fun H13 e13 => ?_⟩
      refine ⟨by show 4 ≤ sizeLine; decide, fun w hw => ?_⟩
      have ew := same_new (o := .lst ([isInt d, betw d 0 1000000000000000000000000000000, betw d 1 1000000000000000000, isSetD d (2 + sz)].map V.bl)) hw
      have e14 := (e12.trans e13).trans ew
      refine ⟨_, rfl, _, rfl, .ref w, .ref u, .list ([isInt d, betw d 0 1000000000000000000000000000000, betw d 1 1000000000000000000, isSetD d (2 + sz)].map PyData.bool), rfl, .lst (SqL.of upd_same) (DaL.bls [isInt d, betw d 0 1000000000000000000000000000000, betw d 1 1000000000000000000, isSetD d (2 + sz)]), .lst (SqL.of ((e13.trans ew) _ _ hu12)) (DaL.bls [isInt d, betw d 0 1000000000000000000000000000000, betw d 1 1000000000000000000, isSetD d (2 + sz)]), canLay_bools _, sm_bools (by show 4 ≤ 1000; decide), fun H15 e15 => ?_⟩
      refine ⟨_, rfl, iteF ?_⟩
      refine ⟨_, rfl, x, d, rfl, hxH.mono (e14.trans e15), hd.1.sh, dep, hd.1.fits (by decide), _, rfl, rfl, _, rfl, ?_⟩
      refine iteNS rfl ?_
      exact ⟨_, _, rfl, e14.trans e15, ((e13.trans ew).trans e15) _ _ hu12⟩
    · rintro σ H12 ⟨y7, y8, rfl, e12, hu12⟩
      exact ⟨_, _, _, _, _, _, _, rfl, hb8.up e12⟩
  · rintro σ H2 ⟨x2, x3, x4, x5, x6, x7, x8, rfl, hb2⟩
    refine ⟨_, _, rfl, rfl, cp10 (by decide) (by decide), _, _, rfl, .int _, _, rfl, iteT ?_⟩
    refine ⟨_, _, rfl, rfl, cp10 (by decide) (by decide), _, _, rfl, .int _, _, rfl, _, rfl, ?_⟩
    have eb : betw (.int (10 ^ (45 : Int).toNat)) 0 1000000000000000000000000000000 = false := by decide
    rw [eb]
    refine iteT ⟨by show 1 ≤ sizeLine; decide, fun p hp => ?_⟩
    refine ⟨.ref p, .list [.bool true], 2, rfl, .lst (SqL.of upd_same) (.cons (.bl true) .nil), by decide, fun H3 _ => ?_⟩
    have es : isSetD (.list [.bool true]) 2 = false := by decide
    rw [es]
    refine ⟨_, rfl, _, rfl, iteT ⟨by show 0 ≤ sizeLine; decide, fun q hq => ?_⟩⟩
    exact ⟨.ref q, .list [], 2, rfl, .lst (SqL.of upd_same) .nil, by decide, fun H4 _ => k H4⟩

end
theorem all_mk {l : PySem.W.OpenLaw} {w : World} {K : PySem.W.Frag} {h : Heap} {mg : Str → Option Value} {fa : Addr} (X : K.In h) (G : h.Ns mainGlobals mg) (hfa : mg "law" = some (.ref fa))
    {f1 : Addr} {od1 an1 : Option Addr} {sl1 : Array (Option Value)} {oc1 kV1 dc1 pm1 cd1 ct1 : Value}
    {f2 : Addr} {od2 an2 : Option Addr} {sl2 : Array (Option Value)} {oc2 kV2 dc2 pm2 cd2 ct2 : Value}
    {f3 : Addr} {od3 an3 : Option Addr} {sl3 : Array (Option Value)} {oc3 kV3 dc3 pm3 cd3 ct3 : Value}
    {f4 : Addr} {od4 an4 : Option Addr} {sl4 : Array (Option Value)} {oc4 kV4 dc4 pm4 cd4 ct4 : Value}
    {f5 : Addr} {od5 an5 : Option Addr} {sl5 : Array (Option Value)} {oc5 kV5 dc5 pm5 cd5 ct5 : Value}
    {f6 : Addr} {od6 an6 : Option Addr} {sl6 : Array (Option Value)} {oc6 kV6 dc6 pm6 cd6 ct6 : Value}
    {f7 : Addr} {od7 an7 : Option Addr} {sl7 : Array (Option Value)} {oc7 kV7 dc7 pm7 cd7 ct7 : Value}
    {f8 : Addr} {od8 an8 : Option Addr} {sl8 : Array (Option Value)} {oc8 kV8 dc8 pm8 cd8 ct8 : Value}
    {f9 : Addr} {od9 an9 : Option Addr} {sl9 : Array (Option Value)} {oc9 kV9 dc9 pm9 cd9 ct9 : Value}
    {f10 : Addr} {od10 an10 : Option Addr} {sl10 : Array (Option Value)} {oc10 kV10 dc10 pm10 cd10 ct10 : Value}
    {f11 : Addr} {od11 an11 : Option Addr} {sl11 : Array (Option Value)} {oc11 kV11 dc11 pm11 cd11 ct11 : Value}
    {f12 : Addr} {od12 an12 : Option Addr} {sl12 : Array (Option Value)} {oc12 kV12 dc12 pm12 cd12 ct12 : Value}
    {f13 : Addr} {od13 an13 : Option Addr} {sl13 : Array (Option Value)} {oc13 kV13 dc13 pm13 cd13 ct13 : Value}
    {f14 : Addr} {od14 an14 : Option Addr} {sl14 : Array (Option Value)} {oc14 kV14 dc14 pm14 cd14 ct14 : Value}
    {f15 : Addr} {od15 an15 : Option Addr} {sl15 : Array (Option Value)} {oc15 kV15 dc15 pm15 cd15 ct15 : Value}
    {t_MOST_AMOUNT : Tok}
    {t_MOST_COUNT : Tok}
    (a1 : PySem.W.nsIn K mainGlobals "is_integer" = some (some (.ref f1))) (l1 : K.lookup f1 = some ⟨oc1, od1, .func (PySem.W.fnOf "is_integer" "is_integer" (defArgs s_is_integer) (defBody s_is_integer) (defScope s_is_integer) .none kV1 dc1 pm1 an1 cd1 ct1), sl1⟩) (c1 : PySem.W.codeIn K cd1 "is_integer" = true) (k1 : PySem.W.keepIn K (.ref f1) = true)
    (a2 : PySem.W.nsIn K mainGlobals "is_between" = some (some (.ref f2))) (l2 : K.lookup f2 = some ⟨oc2, od2, .func (PySem.W.fnOf "is_between" "is_between" (defArgs s_is_between) (defBody s_is_between) (defScope s_is_between) .none kV2 dc2 pm2 an2 cd2 ct2), sl2⟩) (c2 : PySem.W.codeIn K cd2 "is_between" = true) (k2 : PySem.W.keepIn K (.ref f2) = true)
    (a3 : PySem.W.nsIn K mainGlobals "is_amount" = some (some (.ref f3))) (l3 : K.lookup f3 = some ⟨oc3, od3, .func (PySem.W.fnOf "is_amount" "is_amount" (defArgs s_is_amount) (defBody s_is_amount) (defScope s_is_amount) .none kV3 dc3 pm3 an3 cd3 ct3), sl3⟩) (c3 : PySem.W.codeIn K cd3 "is_amount" = true) (k3 : PySem.W.keepIn K (.ref f3) = true)
    (a4 : PySem.W.nsIn K mainGlobals "is_count" = some (some (.ref f4))) (l4 : K.lookup f4 = some ⟨oc4, od4, .func (PySem.W.fnOf "is_count" "is_count" (defArgs s_is_count) (defBody s_is_count) (defScope s_is_count) .none kV4 dc4 pm4 an4 cd4 ct4), sl4⟩) (c4 : PySem.W.codeIn K cd4 "is_count" = true) (k4 : PySem.W.keepIn K (.ref f4) = true)
    (a5 : PySem.W.nsIn K mainGlobals "is_broker" = some (some (.ref f5))) (l5 : K.lookup f5 = some ⟨oc5, od5, .func (PySem.W.fnOf "is_broker" "is_broker" (defArgs s_is_broker) (defBody s_is_broker) (defScope s_is_broker) .none kV5 dc5 pm5 an5 cd5 ct5), sl5⟩) (c5 : PySem.W.codeIn K cd5 "is_broker" = true) (k5 : PySem.W.keepIn K (.ref f5) = true)
    (a6 : PySem.W.nsIn K mainGlobals "is_set" = some (some (.ref f6))) (l6 : K.lookup f6 = some ⟨oc6, od6, .func (PySem.W.fnOf "is_set" "is_set" (defArgs s_is_set) (defBody s_is_set) (defScope s_is_set) .none kV6 dc6 pm6 an6 cd6 ct6), sl6⟩) (c6 : PySem.W.codeIn K cd6 "is_set" = true) (k6 : PySem.W.keepIn K (.ref f6) = true)
    (a7 : PySem.W.nsIn K mainGlobals "_law_bag" = some (some (.ref f7))) (l7 : K.lookup f7 = some ⟨oc7, od7, .func (PySem.W.fnOf "_law_bag" "_law_bag" (defArgs s__law_bag) (defBody s__law_bag) (defScope s__law_bag) .none kV7 dc7 pm7 an7 cd7 ct7), sl7⟩) (c7 : PySem.W.codeIn K cd7 "_law_bag" = true) (k7 : PySem.W.keepIn K (.ref f7) = true)
    (a8 : PySem.W.nsIn K mainGlobals "_law_take" = some (some (.ref f8))) (l8 : K.lookup f8 = some ⟨oc8, od8, .func (PySem.W.fnOf "_law_take" "_law_take" (defArgs s__law_take) (defBody s__law_take) (defScope s__law_take) .none kV8 dc8 pm8 an8 cd8 ct8), sl8⟩) (c8 : PySem.W.codeIn K cd8 "_law_take" = true) (k8 : PySem.W.keepIn K (.ref f8) = true)
    (a9 : PySem.W.nsIn K mainGlobals "_law_alike" = some (some (.ref f9))) (l9 : K.lookup f9 = some ⟨oc9, od9, .func (PySem.W.fnOf "_law_alike" "_law_alike" (defArgs s__law_alike) (defBody s__law_alike) (defScope s__law_alike) .none kV9 dc9 pm9 an9 cd9 ct9), sl9⟩) (c9 : PySem.W.codeIn K cd9 "_law_alike" = true) (k9 : PySem.W.keepIn K (.ref f9) = true)
    (a10 : PySem.W.nsIn K mainGlobals "_law_odd" = some (some (.ref f10))) (l10 : K.lookup f10 = some ⟨oc10, od10, .func (PySem.W.fnOf "_law_odd" "_law_odd" (defArgs s__law_odd) (defBody s__law_odd) (defScope s__law_odd) .none kV10 dc10 pm10 an10 cd10 ct10), sl10⟩) (c10 : PySem.W.codeIn K cd10 "_law_odd" = true) (k10 : PySem.W.keepIn K (.ref f10) = true)
    (a11 : PySem.W.nsIn K mainGlobals "_law_whole" = some (some (.ref f11))) (l11 : K.lookup f11 = some ⟨oc11, od11, .func (PySem.W.fnOf "_law_whole" "_law_whole" (defArgs s__law_whole) (defBody s__law_whole) (defScope s__law_whole) .none kV11 dc11 pm11 an11 cd11 ct11), sl11⟩) (c11 : PySem.W.codeIn K cd11 "_law_whole" = true) (k11 : PySem.W.keepIn K (.ref f11) = true)
    (a12 : PySem.W.nsIn K mainGlobals "_law_is_set" = some (some (.ref f12))) (l12 : K.lookup f12 = some ⟨oc12, od12, .func (PySem.W.fnOf "_law_is_set" "_law_is_set" (defArgs s__law_is_set) (defBody s__law_is_set) (defScope s__law_is_set) .none kV12 dc12 pm12 an12 cd12 ct12), sl12⟩) (c12 : PySem.W.codeIn K cd12 "_law_is_set" = true) (k12 : PySem.W.keepIn K (.ref f12) = true)
    (a13 : PySem.W.nsIn K mainGlobals "_law_number" = some (some (.ref f13))) (l13 : K.lookup f13 = some ⟨oc13, od13, .func (PySem.W.fnOf "_law_number" "_law_number" (defArgs s__law_number) (defBody s__law_number) (defScope s__law_number) .none kV13 dc13 pm13 an13 cd13 ct13), sl13⟩) (c13 : PySem.W.codeIn K cd13 "_law_number" = true) (k13 : PySem.W.keepIn K (.ref f13) = true)
    (a14 : PySem.W.nsIn K mainGlobals "_law_brokers" = some (some (.ref f14))) (l14 : K.lookup f14 = some ⟨oc14, od14, .func (PySem.W.fnOf "_law_brokers" "_law_brokers" (defArgs s__law_brokers) (defBody s__law_brokers) (defScope s__law_brokers) .none kV14 dc14 pm14 an14 cd14 ct14), sl14⟩) (c14 : PySem.W.codeIn K cd14 "_law_brokers" = true) (k14 : PySem.W.keepIn K (.ref f14) = true)
    (a15 : PySem.W.nsIn K mainGlobals "law" = some (some (.ref f15))) (l15 : K.lookup f15 = some ⟨oc15, od15, .func (PySem.W.fnOf "law" "law" (defArgs s_law) (defBody s_law) (defScope s_law) .none kV15 dc15 pm15 an15 cd15 ct15), sl15⟩) (c15 : PySem.W.codeIn K cd15 "law" = true) (k15 : PySem.W.keepIn K (.ref f15) = true)
    (g_MOST_AMOUNT : PySem.W.nsIn K mainGlobals "MOST_AMOUNT" = some (some (.int 1000000000000000000000000000000 t_MOST_AMOUNT)))
    (g_MOST_COUNT : PySem.W.nsIn K mainGlobals "MOST_COUNT" = some (some (.int 1000000000000000000 t_MOST_COUNT)))
    (z_len : PySem.W.nsIn K mainGlobals "len" = some none)
    (z_isinstance : PySem.W.nsIn K mainGlobals "isinstance" = some none)
    (z_int : PySem.W.nsIn K mainGlobals "int" = some none)
    (z_bool : PySem.W.nsIn K mainGlobals "bool" = some none)
    (z_list : PySem.W.nsIn K mainGlobals "list" = some none)
    (z_tuple : PySem.W.nsIn K mainGlobals "tuple" = some none)
    (z_str : PySem.W.nsIn K mainGlobals "str" = some none)
    (z_all : PySem.W.nsIn K mainGlobals "all" = some none)
    (z_any : PySem.W.nsIn K mainGlobals "any" = some none)
    (z_zip : PySem.W.nsIn K mainGlobals "zip" = some none)
    (z_range : PySem.W.nsIn K mainGlobals "range" = some none)
    (z_abs : PySem.W.nsIn K mainGlobals "abs" = some none)
    (z_repr : PySem.W.nsIn K mainGlobals "repr" = some none)
    (z_min : PySem.W.nsIn K mainGlobals "min" = some none)
    (z_max : PySem.W.nsIn K mainGlobals "max" = some none)
    (z_sum : PySem.W.nsIn K mainGlobals "sum" = some none)
    (z_sorted : PySem.W.nsIn K mainGlobals "sorted" = some none)
    (z_enumerate : PySem.W.nsIn K mainGlobals "enumerate" = some none)
    (z_reversed : PySem.W.nsIn K mainGlobals "reversed" = some none)
    (z_set : PySem.W.nsIn K mainGlobals "set" = some none)
    (z_dict : PySem.W.nsIn K mainGlobals "dict" = some none)
    (z_ValueError : PySem.W.nsIn K mainGlobals "ValueError" = some none) :
    ∃ fd : FuncData, (∀ (s : Shared) (v : Value), BindsTo s fd ⟨[v], []⟩ [("_law_script", v)]) ∧ ∀ base : Heap, K.In base → base.Ns mainGlobals mg → FnG l.prog w K mg base CX0 5 fa fd ["_law_script"] (sp_law K) := by
  have D_is_integer : Def K mg "is_integer" s_is_integer ["thing"] := def_mk X G a1 l1 c1 k1 (fun _ _ _ _ _ _ us hl => match us, hl with | [_], _ => rfl)
  have D_is_between : Def K mg "is_between" s_is_between ["thing", "least", "most"] := def_mk X G a2 l2 c2 k2 (fun _ _ _ _ _ _ us hl => match us, hl with | [_, _, _], _ => rfl)
  have D_is_amount : Def K mg "is_amount" s_is_amount ["thing"] := def_mk X G a3 l3 c3 k3 (fun _ _ _ _ _ _ us hl => match us, hl with | [_], _ => rfl)
  have D_is_count : Def K mg "is_count" s_is_count ["thing"] := def_mk X G a4 l4 c4 k4 (fun _ _ _ _ _ _ us hl => match us, hl with | [_], _ => rfl)
  have D_is_broker : Def K mg "is_broker" s_is_broker ["thing", "size"] := def_mk X G a5 l5 c5 k5 (fun _ _ _ _ _ _ us hl => match us, hl with | [_, _], _ => rfl)
  have D_is_set : Def K mg "is_set" s_is_set ["thing", "size"] := def_mk X G a6 l6 c6 k6 (fun _ _ _ _ _ _ us hl => match us, hl with | [_, _], _ => rfl)
  have D__law_bag : Def K mg "_law_bag" s__law_bag ["_law_script"] := def_mk X G a7 l7 c7 k7 (fun _ _ _ _ _ _ us hl => match us, hl with | [_], _ => rfl)
  have D__law_take : Def K mg "_law_take" s__law_take ["_law_bag_here", "_law_many"] := def_mk X G a8 l8 c8 k8 (fun _ _ _ _ _ _ us hl => match us, hl with | [_, _], _ => rfl)
  have D__law_alike : Def K mg "_law_alike" s__law_alike ["_law_found", "_law_due"] := def_mk X G a9 l9 c9 k9 (fun _ _ _ _ _ _ us hl => match us, hl with | [_, _], _ => rfl)
  have D__law_odd : Def K mg "_law_odd" s__law_odd ["_law_bag_here"] := def_mk X G a10 l10 c10 k10 (fun _ _ _ _ _ _ us hl => match us, hl with | [_], _ => rfl)
  have D__law_whole : Def K mg "_law_whole" s__law_whole ["_law_thing", "_law_least", "_law_most"] := def_mk X G a11 l11 c11 k11 (fun _ _ _ _ _ _ us hl => match us, hl with | [_, _, _], _ => rfl)
  have D__law_is_set : Def K mg "_law_is_set" s__law_is_set ["_law_thing", "_law_size"] := def_mk X G a12 l12 c12 k12 (fun _ _ _ _ _ _ us hl => match us, hl with | [_, _], _ => rfl)
  have D__law_number : Def K mg "_law_number" s__law_number ["_law_bag_here"] := def_mk X G a13 l13 c13 k13 (fun _ _ _ _ _ _ us hl => match us, hl with | [_], _ => rfl)
  have D__law_brokers : Def K mg "_law_brokers" s__law_brokers ["_law_bag_here", "_law_size"] := def_mk X G a14 l14 c14 k14 (fun _ _ _ _ _ _ us hl => match us, hl with | [_, _], _ => rfl)
  have D_law : Def K mg "law" s_law ["_law_script"] := def_mk X G a15 l15 c15 k15 (fun _ _ _ _ _ _ us hl => match us, hl with | [_], _ => rfl)
  have m_MOST_AMOUNT := PySem.W.mg_of X G g_MOST_AMOUNT
  have m_MOST_COUNT := PySem.W.mg_of X G g_MOST_COUNT
  have B : Blt mg := ⟨PySem.W.mg_none_of X G z_len, PySem.W.mg_none_of X G z_isinstance, PySem.W.mg_none_of X G z_int, PySem.W.mg_none_of X G z_bool, PySem.W.mg_none_of X G z_list, PySem.W.mg_none_of X G z_tuple, PySem.W.mg_none_of X G z_str, PySem.W.mg_none_of X G z_all, PySem.W.mg_none_of X G z_any, PySem.W.mg_none_of X G z_zip, PySem.W.mg_none_of X G z_range, PySem.W.mg_none_of X G z_abs, PySem.W.mg_none_of X G z_repr, PySem.W.mg_none_of X G z_min, PySem.W.mg_none_of X G z_max, PySem.W.mg_none_of X G z_sum, PySem.W.mg_none_of X G z_sorted, PySem.W.mg_none_of X G z_enumerate, PySem.W.mg_none_of X G z_reversed, PySem.W.mg_none_of X G z_set, PySem.W.mg_none_of X G z_dict, PySem.W.mg_none_of X G z_ValueError⟩
  refine law_end D_law hfa (fun _ _ _ _ _ _ _ => rfl) (fun base _ _ => ?_)
  have c_is_integer := ok_is_integer (P := l.prog) (w := w) (base := base) D_is_integer B
  have c_is_between := ok_is_between (P := l.prog) (w := w) (base := base) D_is_between c_is_integer
  have c_is_amount := ok_is_amount (P := l.prog) (w := w) (base := base) D_is_amount c_is_between m_MOST_AMOUNT
  have c_is_count := ok_is_count (P := l.prog) (w := w) (base := base) D_is_count c_is_between m_MOST_COUNT
  have c_is_broker := ok_is_broker (P := l.prog) (w := w) (base := base) D_is_broker c_is_between
  have c_is_set := ok_is_set (P := l.prog) (w := w) (base := base) D_is_set B c_is_broker
  have c__law_bag := ok__law_bag (P := l.prog) (w := w) (base := base) D__law_bag B
  have c__law_take := ok__law_take (P := l.prog) (w := w) (base := base) D__law_take B
  have c__law_alike := ok__law_alike (P := l.prog) (w := w) (base := base) D__law_alike B
  have c__law_odd := ok__law_odd (P := l.prog) (w := w) (base := base) D__law_odd B c__law_take
  have c__law_whole := ok__law_whole (P := l.prog) (w := w) (base := base) D__law_whole B
  have c__law_is_set := ok__law_is_set (P := l.prog) (w := w) (base := base) D__law_is_set B c__law_whole
  have c__law_number := ok__law_number (P := l.prog) (w := w) (base := base) D__law_number c__law_take
  have c__law_brokers := ok__law_brokers (P := l.prog) (w := w) (base := base) D__law_brokers B c__law_take c__law_odd
  exact ok_law D_law B c__law_bag c__law_take c_is_integer c_is_amount c_is_count c_is_set c__law_number c__law_odd c__law_brokers c__law_whole c__law_is_set c__law_alike
theorem walk_law {l : PySem.W.OpenLaw} {q : Program} {loose : List Str} {XP : (Str → Option Value) → Heap → Prop} {YP : World → Heap → Prop} {d : DefRec} {K : Params → PySem.W.Frag} (hn : l.most = some 63) (hdf : d.params.defaults = [])
    (hY : ∀ (w : World) (h : Heap), YP w h → (K w.params).In h)
    (F : ∀ (w : World) (mg : Str → Option Value) (fa : Addr) (h : Heap), (K w.params).In h → h.Ns mainGlobals mg → mg d.name = some (.ref fa) →
      ∃ fd : FuncData, (∀ (s : Shared) (u : Value), BindsTo s fd ⟨[u], []⟩ [("_law_script", u)]) ∧ ∀ base : Heap, (K w.params).In base → base.Ns mainGlobals mg → FnG l.prog w (K w.params) mg base CX0 5 fa fd ["_law_script"] (sp_law (K w.params))) :
    PySem.W.WalkO q loose XP YP l.row.toRowW d [] (fun f vs => PySem.call f vs) :=
  walk_ofG (n := 63) (k := 5) (x := "_law_script") (cx := fun _ => CX0) (sp := fun w => (sp_law (K w.params))) hn (by decide) hdf ⟨rfl, by decide, by decide⟩ hY F (fun _ _ a ns hl _ hS => ⟨a, ns, rfl, hS, hl, fun _ => rfl⟩) fun _ _ _ _ _ z => z
end G

open PySem PySem.W PyProof.Rows in
set_option maxRecDepth 100000 in
set_option maxHeartbeats 0 in
theorem PySem.Challenge.cw_leadswitch_k11_kinds_holds : PySem.Challenge.rw_leadswitch_k11_kinds.Holds := by
  w_on; o_law; k_head; (case hw => w_witness2)
  k_fill
  refine G.walk_law (l := PySem.Challenge.rw_leadswitch_k11_kinds) rfl rfl (fun w h Y => PySem.W.kIn_of Y) ?F
  case F =>
    intro w mg fa h KX gn hmg
    refine' G.all_mk KX gn hmg ?a1 ?l1 ?c1 ?k1 ?a2 ?l2 ?c2 ?k2 ?a3 ?l3 ?c3 ?k3 ?a4 ?l4 ?c4 ?k4 ?a5 ?l5 ?c5 ?k5 ?a6 ?l6 ?c6 ?k6 ?a7 ?l7 ?c7 ?k7 ?a8 ?l8 ?c8 ?k8 ?a9 ?l9 ?c9 ?k9 ?a10 ?l10 ?c10 ?k10 ?a11 ?l11 ?c11 ?k11 ?a12 ?l12 ?c12 ?k12 ?a13 ?l13 ?c13 ?k13 ?a14 ?l14 ?c14 ?k14 ?a15 ?l15 ?c15 ?k15 ?g_MOST_AMOUNT ?g_MOST_COUNT ?z_len ?z_isinstance ?z_int ?z_bool ?z_list ?z_tuple ?z_str ?z_all ?z_any ?z_zip ?z_range ?z_abs ?z_repr ?z_min ?z_max ?z_sum ?z_sorted ?z_enumerate ?z_reversed ?z_set ?z_dict ?z_ValueError
    (case a1 => k_is)
    (case l1 => k_is)
    (case c1 => k_is)
    (case k1 => k_is)
    (case a2 => k_is)
    (case l2 => k_is)
    (case c2 => k_is)
    (case k2 => k_is)
    (case a3 => k_is)
    (case l3 => k_is)
    (case c3 => k_is)
    (case k3 => k_is)
    (case a4 => k_is)
    (case l4 => k_is)
    (case c4 => k_is)
    (case k4 => k_is)
    (case a5 => k_is)
    (case l5 => k_is)
    (case c5 => k_is)
    (case k5 => k_is)
    (case a6 => k_is)
    (case l6 => k_is)
    (case c6 => k_is)
    (case k6 => k_is)
    (case a7 => k_is)
    (case l7 => k_is)
    (case c7 => k_is)
    (case k7 => k_is)
    (case a8 => k_is)
    (case l8 => k_is)
    (case c8 => k_is)
    (case k8 => k_is)
    (case a9 => k_is)
    (case l9 => k_is)
    (case c9 => k_is)
    (case k9 => k_is)
    (case a10 => k_is)
    (case l10 => k_is)
    (case c10 => k_is)
    (case k10 => k_is)
    (case a11 => k_is)
    (case l11 => k_is)
    (case c11 => k_is)
    (case k11 => k_is)
    (case a12 => k_is)
    (case l12 => k_is)
    (case c12 => k_is)
    (case k12 => k_is)
    (case a13 => k_is)
    (case l13 => k_is)
    (case c13 => k_is)
    (case k13 => k_is)
    (case a14 => k_is)
    (case l14 => k_is)
    (case c14 => k_is)
    (case k14 => k_is)
    (case a15 => k_is)
    (case l15 => k_is)
    (case c15 => k_is)
    (case k15 => k_is)
    (case g_MOST_AMOUNT => k_is)
    (case g_MOST_COUNT => k_is)
    (case z_len => k_is)
    (case z_isinstance => k_is)
    (case z_int => k_is)
    (case z_bool => k_is)
    (case z_list => k_is)
    (case z_tuple => k_is)
    (case z_str => k_is)
    (case z_all => k_is)
    (case z_any => k_is)
    (case z_zip => k_is)
    (case z_range => k_is)
    (case z_abs => k_is)
    (case z_repr => k_is)
    (case z_min => k_is)
    (case z_max => k_is)
    (case z_sum => k_is)
    (case z_sorted => k_is)
    (case z_enumerate => k_is)
    (case z_reversed => k_is)
    (case z_set => k_is)
    (case z_dict => k_is)
    (case z_ValueError => k_is)
