import PyProof.Rows.All
import Wide.All
import OpenK.AllK
import Wide.FinOn
import PyProof.EqAt
import PyProof.EqKinds
import PyProof.TupleCall
import HandS.ForMost
import HandS.ForExc
import HandS.Wide
import HandS.IsInst
import HandS.Evl
import HandS.Zip
import HandS.Flow
import HandS.TupAny
import HandS.Walk
import HandS.Style
import PyProof.StrBlock2
import PyProof.ReprLen
import PyProof.FitsInt
import HandS.SetBool
import HandS.TupSets
import HandS.Deep
import KE.GoesMore
import KE.GoesZip
import KE.GoesEnum
import HandS.DictComp
import HandS.ForDict
import PySem.Challenge.RW_leadswitch_k17_leads_known
set_option Elab.async false
set_option linter.all false
set_option maxRecDepth 100000
set_option maxHeartbeats 4000000
/-! ## G1: calls of defs that want to know that no repr runs around them -/
namespace G
open PySem PySem.Spec PyProof.Rows L2
/-- FnOk for callers around which no repr is running -/
structure FnG (P : Program) (w : World) (K : PySem.W.Frag) (mg : Str → Option Value) (base : Heap) (cx : CXT) (k : Nat) (f : Addr) (fd : FuncData) (ps : List Str) (sp : Sp) : Prop where
  lenG : ∀ vs H Q E, sp vs H Q E → vs.length = ps.length
  runG : ∀ (A : Around) (out : List Env) (st : Shared) (H : Hp) (as : Args) (us : List Value) (vs : List V) (Q : VK) (E : XK), A.guards = some [] → Room k A → Env0 P w K mg base A out st H →
    BindsTo st fd as (ps.zip us) → Vals vs us → sp vs H Q E → codeAny (model P w) A (.call (.ref f) as) (CR cx out P w H st Q E) st
section
variable {P : Program} {w : World} {K : PySem.W.Frag} {mg : Str → Option Value} {base : Heap} {cx : CXT} {k : Nat} {f : Addr} {fd : FuncData} {ps : List Str} {sp : Sp}
theorem FnG.of (F : FnOk P w K mg base cx k f fd ps sp) : FnG P w K mg base cx k f fd ps sp :=
  ⟨F.len, fun A out st H as us vs Q E _ hr => F.run A out st H as us vs Q E hr⟩
theorem FnG.up {j : Nat} (F : FnG P w K mg base cx j f fd ps sp) (h : j ≤ k) : FnG P w K mg base cx k f fd ps sp :=
  ⟨F.lenG, fun A out st H as us vs Q E hg hr => F.runG A out st H as us vs Q E hg (hr.mono h)⟩
theorem fnG_of {name qual : Str} {params : Arguments} {body : List Stmt} {scope : Scope} {dV kV doc pm cdv ct oc : Value} {an od : Option Addr} {osl : Array (Option Value)} {N : List Str}
    (lk : K.lookup f = some ⟨oc, od, .func (PySem.W.fnOf name qual params body scope dV kV doc pm an cdv ct), osl⟩) (hcd : PySem.W.codeIn K cdv qual = true) (S : FnScope N ps scope)
    (ln : ∀ vs H Q E, sp vs H Q E → vs.length = ps.length)
    (bd : ∀ (A : Around) (out : List Env) (st : Shared) (H : Hp) (vs : List V) (Q : VK) (E : XK), A.guards = some [] → Room k (A.deeper (envOfC qual scope st.heap.objs.size f cdv)) → sp vs H Q E →
      ∃ t, PSs (cxOf cx P w K mg base N qual scope f cdv A out st H E) body t ∧ t { nx := fun _ H' => Q .non H', rt := Q } (start N vs) H) :
    FnG P w K mg base cx (k + 1) f (PySem.W.fnOf name qual params body scope dV kV doc pm an cdv ct) ps sp := by
  refine ⟨ln, fun A out st H as us vs Q E hg hr e0 hb r hsp => ?_⟩
  have hkeep : ∀ b o, base.get? b = some o → st.heap.get? b = some o := fun b o e => (e0.bs b o e).1
  have KX : K.In st.heap := e0.mod.kin.keeps hkeep
  have hkind : ∀ y ∈ ps.zip us, scope.names.lookup y.1 = some .local ∨ (scope.names.lookup y.1 = some .cell ∧ ((cellsFrom (st.heap.objs.size + 1) scope.names []).lookup y.1).isSome = true) := by
    rintro ⟨n, v⟩ hy
    rcases S.par n (List.of_mem_zip hy).1 with q | q
    · exact Or.inl q
    · exact Or.inr ⟨q, PySem.W.cellsFrom_some _ _ _ (Or.inl q)⟩
  refine codeAny_call_function hr.depth (KX _ _ lk) rfl S.co S.gen rfl (PySem.W.codeRec_of KX hcd) (hb _ _ _ _ ?_)
  refine wpAny_newFunctionEnv_cells S.kind hkind fun env he st1 x => ?_
  subst he
  refine ⟨(e0.mod.nolimit.keeps hkeep).keeps x.toInCall.keep, codeAny_func ?_⟩
  obtain ⟨t, ht, hq⟩ := bd A out st H vs Q E hg (hr.deeper _) hsp
  have I0 := inv_start (CX := cx) (E := E) S hr.hd e0 (ln _ _ _ _ hsp) r x
  refine wpAny_mono (ht.run [] st1 (start N vs) H _ I0 hq) (fun fl s' hs => ?_) fun _ _ z => z
  match fl, hs with
  | .ret u, ⟨v, σ', H', J, rv, q⟩ => exact ⟨v, H', J.os, J.bare, J.base, J.hok, rv, q⟩
  | .next, ⟨σ', H', J, q⟩ => exact ⟨V.non, H', J.os, J.bare, J.base, J.hok, rfl, q⟩
  | .brk, ⟨_, _, _, q⟩ => exact False.elim q
  | .cont, ⟨_, _, _, q⟩ => exact False.elim q
/-- a def without errors that leave it -/
theorem okG {x qual : Str} {st : Stmt} {N : List Str} (F : Fun K x qual st f fd) (S : FnScope N ps (defScope st)) (ln : ∀ vs H Q E, sp vs H Q E → vs.length = ps.length)
    (bd : ∀ (cdv : Value) (A : Around) (out : List Env) (s : Shared) (H : Hp) (vs : List V) (Q : VK) (E : XK), A.guards = some [] → Room k (A.deeper (envOfC qual (defScope st) s.heap.objs.size f cdv)) → sp vs H Q E →
      ∃ t, PSs (cxOf CX0 P w K mg base N qual (defScope st) f cdv A out s H E).nox (defBody st) t ∧ t { nx := fun _ H' => Q .non H', rt := Q } (start N vs) H) : FnG P w K mg base CX0 (k + 1) f fd ps sp := by
  obtain ⟨oc, od, kV, doc, pm, an, cdv, ct, osl, rfl, lk, hcd⟩ := F.ex
  refine fnG_of lk hcd S ln fun A out s H vs Q E hg hr hsp => ?_
  obtain ⟨t, ht, q⟩ := bd cdv A out s H vs Q E hg hr hsp
  exact ⟨t, ht.nox, q⟩
/-- .. with such errors -/
theorem okGX {x qual : Str} {st : Stmt} {N : List Str} (F : Fun K x qual st f fd) (S : FnScope N ps (defScope st)) (ln : ∀ vs H Q E, sp vs H Q E → vs.length = ps.length)
    (bd : ∀ (cdv : Value) (A : Around) (out : List Env) (s : Shared) (H : Hp) (vs : List V) (Q : VK) (E : XK), A.guards = some [] → Room k (A.deeper (envOfC qual (defScope st) s.heap.objs.size f cdv)) → sp vs H Q E →
      ∃ t, PSs (cxOf (L2.CX P w) P w K mg base N qual (defScope st) f cdv A out s H E) (defBody st) t ∧ t { nx := fun _ H' => Q .non H', rt := Q } (start N vs) H) : FnG P w K mg base (L2.CX P w) (k + 1) f fd ps sp := by
  obtain ⟨oc, od, kV, doc, pm, an, cdv, ct, osl, rfl, lk, hcd⟩ := F.ex
  exact fnG_of lk hcd S ln fun A out s H vs Q E hg hr hsp => bd cdv A out s H vs Q E hg hr hsp
end
section
variable {X : Cx} {cx : CXT} {k : Nat} {f : Addr} {fd : FuncData} {ps : List Str} {sp : Sp} {dvs : List V} {ds : List Value} {E : XK} {x : Str} {p pos : Pos} {e : Expr} {es : List Expr} {t : TA}
theorem run_fnG {pins : List (Addr × Obj)} {σ : L2.St} {H : Hp} {s : Shared} {Q : VK} {us : List Value} {vs : List V} (F : FnG X.prog X.w X.K X.mg X.base cx k f fd ps sp) (hgu : X.A.guards = some []) (hr : Room k X.A) (hb : Binds X.K fd ps ds) (hd : Vals dvs ds)
    (hx : Passes cx X E) (I : Inv X pins σ H s) (r : Vals vs us) (h : sp (vs ++ dvs) H Q E) : wpAny (model X.prog X.w) X.A (call (.ref f) us) (EP X pins σ Q) X.xe s := by
  have r2 := r.append hd
  have hl := F.lenG _ _ _ _ h
  rw [r2.length] at hl
  have go := F.runG X.A X.stack s H ⟨us, []⟩ (us ++ ds) (vs ++ dvs) Q E hgu hr I.env0 (hb s us I.kIn hl) r2 h
  refine wpAny_call (codeAny_mono go fun res s' hq => ?_)
  match res, hq with
  | .error e, hq => exact hx pins σ H s e s' I hq
  | .ok (.ret u), hq => exact I.after hq
  | .ok .next, hq => exact False.elim hq
  | .ok .brk, hq => exact False.elim hq
  | .ok .cont, hq => exact False.elim hq
theorem pe_callG (F : FnG X.prog X.w X.K X.mg X.base cx k f fd ps sp) (hgu : X.A.guards = some []) (hr : Room k X.A) (hg : Gl X x) (hm : X.mg x = some (.ref f)) (hk : PySem.W.keepIn X.K (.ref f) = true) (hb : Binds X.K fd ps ds) (hd : Vals dvs ds)
    (hx : Passes cx X E) (ha : PA X (e :: es) t) (hdb : (x == ("__debug__" : Str)) = false := by decide) (he : starEach (e :: es) X.env = (false, eval e X.env) :: starEach es X.env := by rfl)
    (hpl : (backTo pos (starEach es X.env)).any (·.1) = false := by rfl) : PE X (.Call (.Name x p) (e :: es) [] pos) (tCall sp dvs E t) := by
  refine ⟨fun pins s σ H Q I h => wpAny_Call_Name_kw (ld_glob I hg hm ?_ hdb)⟩
  refine PySem.W.callWith_K (h₀ := X.base) I.ok.mod.kin hk (thn (ha.run pos pins s σ H _ I h) fun us s1 hh => ?_) he hpl
  obtain ⟨vs, H1, I1, r, q⟩ := hh
  exact ⟨I1.kIn, run_fnG F hgu hr hb hd hx I1 r q⟩
theorem pe_callG0 (F : FnG X.prog X.w X.K X.mg X.base cx k f fd ps sp) (hgu : X.A.guards = some []) (hr : Room k X.A) (hg : Gl X x) (hm : X.mg x = some (.ref f)) (hk : PySem.W.keepIn X.K (.ref f) = true) (hb : Binds X.K fd ps ds) (hd : Vals dvs ds)
    (hx : Passes cx X E) (hdb : (x == ("__debug__" : Str)) = false := by decide) : PE X (.Call (.Name x p) [] [] pos) (tCall sp dvs E tNil) :=
  ⟨fun pins s σ H Q I h => wpAny_Call_Name_kw (ld_glob I hg hm (PySem.W.callWith_K0 I.kIn hk (run_fnG (us := []) F hgu hr hb hd hx I .nil h)) hdb)⟩
end
/-- the law's call, from a promise that holds where no repr runs around -/
theorem law_callG {P : Program} {w : World} {K : PySem.W.Frag} {mg mb : Str → Option Value} {cx : CXT} {k : Nat} {fa a : Addr} {fd : FuncData} {x : Str} {sp : Sp} {s₁ : Shared} {vs : List Value} {ns : List Int}
    (KX : K.In s₁.heap) (hns : s₁.heap.Ns mainGlobals mg) (hb : s₁.heap.Ns builtinsNs mb) (hbb : ∀ x : Str, x ≠ "__name__" → mb x = bootBuiltins x) (hlim : s₁.heap.NoLimit) (hg : s₁.gens = #[])
    (ha : s₁.heap.get? a = some { cls := .type "list", data := .seq vs.toArray }) (hi : IntsAre vs ns) (hl : ns.length ≤ sizeLine) (hr : Room k callerA)
    (F : ∀ base : Heap, K.In base → base.Ns mainGlobals mg → FnG P w K mg base cx k fa fd [x] sp) (hbind : ∀ (s : Shared) (u : Value), BindsTo s fd ⟨[u], []⟩ [(x, u)])
    (hsp : ∀ H : Hp, Only H → SqL K H a (ns.map V.int) → sp [.ref a] H (fun v _ => v = .bl true) fun _ _ _ => False)
    (hcx : ∀ H e s', cx [] H s₁ (fun _ _ _ => False) e s' → False) :
    codeAny (model P w) callerA (.call (.ref fa) ⟨[.ref a], []⟩) (fun r s' => r = .ok (.ret (.bool true)) ∧ OldK s₁.heap s'.heap ∧ s'.os = s₁.os ∧ AllBare s'.gens) s₁ := by
  have rv := vals_ints hi
  have lenV := hi.length
  have core : ∀ H : Hp, Only H → SqL K H a (ns.map V.int) → HOk P w H s₁.heap → (∀ b, H b ≠ none → b = a) → (H a ≠ none → K.lookup a = none) →
      codeAny (model P w) callerA (.call (.ref fa) ⟨[.ref a], []⟩) (fun r s' => r = .ok (.ret (.bool true)) ∧ OldK s₁.heap s'.heap ∧ s'.os = s₁.os ∧ AllBare s'.gens) s₁ := by
    intro H only hS hok hA hK
    have nodict : ∀ {b : Addr} {o : Obj} {es : Array DictEntry} {ep : Nat}, s₁.heap.get? b = some o → o.data = .dict es ep → H b = none := by
      intro b o es ep e d
      refine Classical.byContradiction fun q => ?_
      have eb := hA b q
      subst eb
      rw [ha] at e
      cases e
      exact nomatch d
    have nsK : ∀ {b : Addr} {m : Str → Option Value}, s₁.heap.Ns b m → (hidT s₁.heap H).Ns b m := by
      rintro b m ⟨o, es, ep, e, d, r⟩
      exact ⟨o, es, ep, hidT_get e (nodict e d), d, r⟩
    have hKb : K.In (hidT s₁.heap H) := by
      intro b o e
      refine hidT_get (KX b o e) (Classical.byContradiction fun q => ?_)
      have eb := hA b q
      subst eb
      rw [hK q] at e
      cases e
    obtain ⟨mc, hm1, hm2⟩ := hlim
    have md : Mod K mg (hidT s₁.heap H) := ⟨hKb, nsK hns, ⟨mb, nsK hb, hbb⟩, ⟨mc, nsK hm1, hm2⟩⟩
    have e0 : Env0 P w K mg (hidT s₁.heap H) callerA [] s₁ H :=
      ⟨rfl, md, fun b o e => of_hidT e, Nat.le_of_eq (hidT_size _ _), trivial, fun b z => absurd (show b ∈ ([] : List Addr) from z) (by simp), hok, .of_eq hg⟩
    have go := (F _ hKb (nsK hns)).runG callerA [] s₁ H ⟨[.ref a], []⟩ [.ref a] [.ref a] _ _ rfl hr e0 (hbind s₁ (.ref a)) (.cons rfl .nil) (hsp H only hS)
    refine codeAny_mono go fun res s' h => ?_
    match res, h with
    | .error e, h => exact (hcx H e s' h).elim
    | .ok .next, h => exact False.elim h
    | .ok .brk, h => exact False.elim h
    | .ok .cont, h => exact False.elim h
    | .ok (.ret u), ⟨v, H', os, bare, un, hok', r', q⟩ =>
      have q' : v = .bl true := q
      subst q'
      have r'' : u = Value.bool true := r'
      subst r''
      refine ⟨rfl, OldK.of_keep fun b o e => ?_, os, bare⟩
      rcases only b with z | ⟨ob, xs, z⟩
      · exact un.keep b o e z (fun z => absurd (show b ∈ ([] : List Addr) from z) (by simp)) (by simp)
      · have e1 := (hok b _ z).1
        have e2 := (hok' b _ (un.frzs b ob _ z)).1
        rw [e] at e1
        cases e1
        exact e2
  cases hk : K.lookup a with
  | some o =>
    have e := KX a o hk
    rw [ha] at e
    cases e
    exact core (fun _ => none) (fun _ => Or.inl rfl) (Or.inr ⟨_, vs.toArray, _, hk, rfl, rfl, rfl, by rw [List.size_toArray, lenV]; exact hl, by simpa using rv⟩) (fun _ _ z => nomatch z) (fun _ z => absurd rfl z) fun z => absurd rfl z
  | none =>
    refine core (fun b => if b = a then some (.frz { cls := .type "list", data := .seq vs.toArray } (.lst (ns.map V.int))) else none) (fun b => ?_) (Or.inl (Or.inr ⟨{ cls := .type "list", data := .seq vs.toArray }, if_pos rfl⟩)) (fun b u z => ?_) (fun b z => ?_) fun _ => hk
    · by_cases hb : b = a
      · exact Or.inr ⟨_, _, if_pos hb⟩
      · exact Or.inl (if_neg hb)
    · by_cases hb : b = a
      · dsimp only at z
        rw [if_pos hb] at z
        cases z
        subst hb
        exact ⟨ha, by rw [List.length_map]; exact hl, vs, _, rv, ha⟩
      · dsimp only at z
        rw [if_neg hb] at z
        cases z
    · exact Classical.byContradiction fun hb => z (if_neg hb)
theorem walk_ofG {l : PySem.W.OpenLaw} {n k : Nat} {q : Program} {loose : List Str} {XP : (Str → Option Value) → Heap → Prop} {YP : World → Heap → Prop} {d : DefRec} {K : Params → PySem.W.Frag} {cx : World → CXT} {sp : World → Sp} {x : Str}
    (hn : l.most = some n) (hn2 : n ≤ sizeLine) (hdf : d.params.defaults = []) (hr : Room k callerA)
    (hY : ∀ (w : World) (h : Heap), YP w h → (K w.params).In h)
    (F : ∀ (w : World) (mg : Str → Option Value) (fa : Addr) (h : Heap), (K w.params).In h → h.Ns mainGlobals mg → mg d.name = some (.ref fa) →
      ∃ fd : FuncData, (∀ (s : Shared) (u : Value), BindsTo s fd ⟨[u], []⟩ [(x, u)]) ∧
        ∀ base : Heap, (K w.params).In base → base.Ns mainGlobals mg → FnG l.prog w (K w.params) mg base (cx w) k fa fd [x] (sp w))
    (hsp : ∀ (w : World) (H : Hp) (a : Addr) (ns : List Int), ns.length ≤ n → Only H → SqL (K w.params) H a (ns.map V.int) → sp w [.ref a] H (fun v _ => v = .bl true) fun _ _ _ => False)
    (hcx : ∀ (w : World) (H : Hp) (s : Shared) (e : Value) (s' : Shared), cx w [] H s (fun _ _ _ => False) e s' → False) :
    PySem.W.WalkO q loose XP YP l.row.toRowW d [] (fun f vs => PySem.call f vs) := by
  refine Att.attach_call hn hdf fun w s₀ s₁ mg mb fa o pm cd doc a vs ns gr y ho hd hcd hmg hobj hints hlen hg => ?_
  obtain ⟨fd, hb, hF⟩ := F w mg fa _ (hY w _ y) gr.T.g hmg
  exact law_callG (hY w _ y) gr.T.g gr.T.b gr.T.builtins gr.T.nolimit hg hobj hints (Nat.le_trans hlen hn2) hr hF hb (fun H only hS => hsp w H a ns hlen only hS) fun H e s' => hcx w H s₁ e s'
end G

/-! ## G2: data (None, bools, ints, texts, lists, tuples, dicts) over the abstract heap: what a value stands for; its type; repr; == -/
namespace G
open PySem PySem.Spec PyProof.Rows L2
def kD : Key → PyData
  | .inl i => .int i
  | .inr x => .str x
mutual
/-- in H the value stands for the datum -/
inductive Da (K : PySem.W.Frag) (H : Hp) : V → PyData → Prop
  | non : Da K H .non .none
  | bl (b : Bool) : Da K H (.bl b) (.bool b)
  | int (i : Int) : Da K H (.int i) (.int i)
  | str (x : Str) : Da K H (.str x) (.str x)
  | lst {a : Addr} {xs : List V} {ds : List PyData} : SqL K H a xs → DaL K H xs ds → Da K H (.ref a) (.list ds)
  | tup {a : Addr} {xs : List V} {ds : List PyData} : SqT K H a xs → DaL K H xs ds → Da K H (.ref a) (.tuple ds)
  | dct {a : Addr} {kvs : List (Key × V)} {es : List (PyData × PyData)} : H a = some (.dK kvs) → DaE K H kvs es → Da K H (.ref a) (.dict es)
inductive DaL (K : PySem.W.Frag) (H : Hp) : List V → List PyData → Prop
  | nil : DaL K H [] []
  | cons {v : V} {vs : List V} {d : PyData} {ds : List PyData} : Da K H v d → DaL K H vs ds → DaL K H (v :: vs) (d :: ds)
inductive DaE (K : PySem.W.Frag) (H : Hp) : List (Key × V) → List (PyData × PyData) → Prop
  | nil : DaE K H [] []
  | cons {k : Key} {v : V} {kvs : List (Key × V)} {d : PyData} {es : List (PyData × PyData)} : Da K H v d → DaE K H kvs es → DaE K H ((k, v) :: kvs) ((kD k, d) :: es)
end
section
variable {K : PySem.W.Frag} {H H' : Hp}
theorem sql_up {a : Addr} {xs : List V} (e : Same H H') (h : SqL K H a xs) : SqL K H' a xs := e.seq h
theorem sqt_up {a : Addr} {xs : List V} (e : Same H H') (h : SqT K H a xs) : SqT K H' a xs := Evl.ex_t e h
mutual
theorem Da.up (e : Same H H') : ∀ (d : PyData) (v : V), Da K H v d → Da K H' v d
  | .none, _, h => by cases h; exact .non
  | .bool b, _, h => by cases h; exact .bl b
  | .int i, _, h => by cases h; exact .int i
  | .str x, _, h => by cases h; exact .str x
  | .list ds, _, h => by cases h with | lst a b => exact .lst (sql_up e a) (DaL.up e ds _ b)
  | .tuple ds, _, h => by cases h with | tup a b => exact .tup (sqt_up e a) (DaL.up e ds _ b)
  | .dict es, _, h => by cases h with | dct a b => exact .dct (e _ _ a) (DaE.up e es _ b)
theorem DaL.up (e : Same H H') : ∀ (ds : List PyData) (vs : List V), DaL K H vs ds → DaL K H' vs ds
  | [], _, h => by cases h; exact .nil
  | d :: ds, _, h => by cases h with | cons a b => exact .cons (Da.up e d _ a) (DaL.up e ds _ b)
theorem DaE.up (e : Same H H') : ∀ (es : List (PyData × PyData)) (kvs : List (Key × V)), DaE K H kvs es → DaE K H' kvs es
  | [], _, h => by cases h; exact .nil
  | (k, d) :: es, _, h => by cases h with | cons a b => exact .cons (Da.up e d _ a) (DaE.up e es _ b)
end
theorem Da.mono {d : PyData} {v : V} (h : Da K H v d) (e : Same H H') : Da K H' v d := Da.up e d v h
theorem DaL.mono {ds : List PyData} {vs : List V} (h : DaL K H vs ds) (e : Same H H') : DaL K H' vs ds := DaL.up e ds vs h
theorem DaL.len {ds : List PyData} : ∀ {vs : List V}, DaL K H vs ds → vs.length = ds.length := by
  induction ds with
  | nil => intro vs h; cases h; rfl
  | cons d ds ih => intro vs h; cases h with | cons a b => simp [ih b]
theorem DaL.get {ds : List PyData} : ∀ {vs : List V} {i : Nat} {d : PyData}, DaL K H vs ds → ds[i]? = some d → ∃ v, vs[i]? = some v ∧ Da K H v d := by
  induction ds with
  | nil => intro vs i d h e; simp at e
  | cons x ds ih =>
    intro vs i d h e
    cases h with
    | cons a b =>
      cases i with
      | zero => simp at e; subst e; exact ⟨_, rfl, a⟩
      | succ i =>
        obtain ⟨v, q, r⟩ := ih (i := i) b (by simpa using e)
        exact ⟨v, by simpa using q, r⟩
theorem DaL.getV {ds : List PyData} : ∀ {vs : List V} {i : Nat} {v : V}, DaL K H vs ds → vs[i]? = some v → ∃ d, ds[i]? = some d ∧ Da K H v d := by
  induction ds with
  | nil => intro vs i d h e; cases h; simp at e
  | cons x ds ih =>
    intro vs i d h e
    cases h with
    | cons a b =>
      cases i with
      | zero => simp at e; subst e; exact ⟨_, rfl, a⟩
      | succ i =>
        obtain ⟨v, q, r⟩ := ih (i := i) b (by simpa using e)
        exact ⟨v, by simpa using q, r⟩
theorem DaL.app {xs ys : List PyData} : ∀ {us vs : List V}, DaL K H us xs → DaL K H vs ys → DaL K H (us ++ vs) (xs ++ ys) := by
  induction xs with
  | nil => intro us vs h k; cases h; exact k
  | cons x xs ih => intro us vs h k; cases h with | cons a b => exact .cons a (ih b k)
theorem DaL.take {xs : List PyData} : ∀ {us : List V} (n : Nat), DaL K H us xs → DaL K H (us.take n) (xs.take n) := by
  induction xs with
  | nil => intro us n h; cases h; simp; exact .nil
  | cons x xs ih =>
    intro us n h
    cases h with
    | cons a b =>
      cases n with
      | zero => exact .nil
      | succ n => exact .cons a (ih n b)
theorem DaL.drop {xs : List PyData} : ∀ {us : List V} (n : Nat), DaL K H us xs → DaL K H (us.drop n) (xs.drop n) := by
  induction xs with
  | nil => intro us n h; cases h; simp; exact .nil
  | cons x xs ih =>
    intro us n h
    cases h with
    | cons a b =>
      cases n with
      | zero => exact .cons a b
      | succ n => exact ih n b
theorem DaL.rev {xs : List PyData} : ∀ {us : List V}, DaL K H us xs → DaL K H us.reverse xs.reverse := by
  induction xs with
  | nil => intro us h; cases h; exact .nil
  | cons x xs ih =>
    intro us h
    cases h with
    | cons a b =>
      rw [List.reverse_cons, List.reverse_cons]
      exact (ih b).app (.cons a .nil)
theorem DaL.ints : ∀ (ns : List Int), DaL K H (ns.map V.int) (ns.map PyData.int)
  | [] => .nil
  | n :: ns => .cons (.int n) (DaL.ints ns)
theorem DaL.bls : ∀ (ns : List Bool), DaL K H (ns.map V.bl) (ns.map PyData.bool)
  | [] => .nil
  | n :: ns => .cons (.bl n) (DaL.bls ns)
theorem DaL.rep {v : V} {d : PyData} (h : Da K H v d) : ∀ n, DaL K H (List.replicate n v) (List.replicate n d)
  | 0 => .nil
  | n + 1 => .cons h (DaL.rep h n)
theorem DaL.unints : ∀ {ns : List Int} {vs : List V}, DaL K H vs (ns.map PyData.int) → vs = ns.map V.int
  | [], _, h => by cases h; rfl
  | n :: ns, _, h => by
    cases h with
    | cons a b =>
      cases a
      rw [DaL.unints b]
      rfl
/-- the name of a datum's class -/
def tyN : PyData → String
  | .none => "NoneType"
  | .bool _ => "bool"
  | .int _ => "int"
  | .str _ => "str"
  | .list _ => "list"
  | .tuple _ => "tuple"
  | .dict _ => "dict"
theorem Da.ty {d : PyData} {v : V} (h : Da K H v d) : TyX K H v (.type (tyN d)) := by
  cases h with
  | non => exact .base .non
  | bl b => exact .base (.bl b)
  | int i => exact .base (.int i)
  | str x => exact .base (.str x)
  | lst a _ =>
    rcases a with (a | ⟨o, a⟩) | ⟨o, _, _, a, c, _⟩
    · exact .base (.lst a)
    · exact .base (.frz a)
    · exact .kList a c
  | tup a _ =>
    rcases a with (a | ⟨o, a⟩) | ⟨o, _, _, a, c, _⟩
    · exact .base (.tup a)
    · exact .fTuple a
    · exact .kTuple a c
  | dct a _ => exact .base (.dK a)
def isI : PyData → Bool
  | .int _ => true
  | .bool _ => true
  | _ => false
def isB : PyData → Bool
  | .bool _ => true
  | _ => false
def isL : PyData → Bool
  | .list _ => true
  | _ => false
def isT : PyData → Bool
  | .tuple _ => true
  | _ => false
theorem kit_int (d : PyData) : PySem.W.kitOne K (.type (tyN d)) (.type "int") = some (isI d) := by
  cases d
  · exact kit_ty (show kitB "NoneType" "int" = some false by decide +kernel)
  · exact kit_ty (show kitB "bool" "int" = some true by decide +kernel)
  · exact kit_ty (show kitB "int" "int" = some true by decide +kernel)
  · exact kit_ty (show kitB "str" "int" = some false by decide +kernel)
  · exact kit_ty (show kitB "list" "int" = some false by decide +kernel)
  · exact kit_ty (show kitB "tuple" "int" = some false by decide +kernel)
  · exact kit_ty (show kitB "dict" "int" = some false by decide +kernel)
theorem kit_bool (d : PyData) : PySem.W.kitOne K (.type (tyN d)) (.type "bool") = some (isB d) := by
  cases d
  · exact kit_ty (show kitB "NoneType" "bool" = some false by decide +kernel)
  · exact kit_ty (show kitB "bool" "bool" = some true by decide +kernel)
  · exact kit_ty (show kitB "int" "bool" = some false by decide +kernel)
  · exact kit_ty (show kitB "str" "bool" = some false by decide +kernel)
  · exact kit_ty (show kitB "list" "bool" = some false by decide +kernel)
  · exact kit_ty (show kitB "tuple" "bool" = some false by decide +kernel)
  · exact kit_ty (show kitB "dict" "bool" = some false by decide +kernel)
theorem kit_list (d : PyData) : PySem.W.kitOne K (.type (tyN d)) (.type "list") = some (isL d) := by
  cases d
  · exact kit_ty (show kitB "NoneType" "list" = some false by decide +kernel)
  · exact kit_ty (show kitB "bool" "list" = some false by decide +kernel)
  · exact kit_ty (show kitB "int" "list" = some false by decide +kernel)
  · exact kit_ty (show kitB "str" "list" = some false by decide +kernel)
  · exact kit_ty (show kitB "list" "list" = some true by decide +kernel)
  · exact kit_ty (show kitB "tuple" "list" = some false by decide +kernel)
  · exact kit_ty (show kitB "dict" "list" = some false by decide +kernel)
theorem kit_tuple (d : PyData) : PySem.W.kitOne K (.type (tyN d)) (.type "tuple") = some (isT d) := by
  cases d
  · exact kit_ty (show kitB "NoneType" "tuple" = some false by decide +kernel)
  · exact kit_ty (show kitB "bool" "tuple" = some false by decide +kernel)
  · exact kit_ty (show kitB "int" "tuple" = some false by decide +kernel)
  · exact kit_ty (show kitB "str" "tuple" = some false by decide +kernel)
  · exact kit_ty (show kitB "list" "tuple" = some false by decide +kernel)
  · exact kit_ty (show kitB "tuple" "tuple" = some true by decide +kernel)
  · exact kit_ty (show kitB "dict" "tuple" = some false by decide +kernel)
mutual
theorem Da.dp : ∀ (d : PyData) (v : V), d.canLay0 = true → Da K H v d → Dp K H v d
  | .none, _, _, h => by cases h; exact .non
  | .bool b, _, _, h => by cases h; exact .bl b
  | .int i, _, _, h => by cases h; exact .int i
  | .str x, _, _, h => by cases h; exact .str x
  | .list ds, _, c, h => by cases h with | lst a b => exact .lst a (DaL.dp ds _ (by simpa only [PyData.canLay0] using c) b)
  | .tuple ds, _, c, h => by cases h with | tup a b => exact .tup a (DaL.dp ds _ (by simpa only [PyData.canLay0] using c) b)
  | .dict es, _, c, _ => by simp only [PyData.canLay0] at c; cases c
theorem DaL.dp : ∀ (ds : List PyData) (vs : List V), PyData.canLayAll0 ds = true → DaL K H vs ds → DpAll K H vs ds
  | [], _, _, h => by cases h; exact .nil
  | d :: ds, _, c, h => by
    cases h with
    | cons a b =>
      have c' : PyData.canLay0 d = true ∧ PyData.canLayAll0 ds = true := by simpa only [PyData.canLayAll0, Bool.and_eq_true] using c
      exact .cons (Da.dp d _ c'.1 a) (DaL.dp ds _ c'.2 b)
end
end
section
variable {X : Cx} {pins : List (Addr × Obj)} {σ : L2.St} {H : Hp} {s : Shared}
theorem key_read {P : Program} {w : World} {k : Key} {u : Value} (h : (mixKind P w).is k u = true) (hp : Heap) (hs : (kD k).showable = true) (hz : (kD k).shown.length ≤ sizeLine) :
    Reads hp u (kD k) [] ∧ ReprIs P w u (kD k).shown := by
  rcases keyIs_shape (show keyIs k u = true from h) with ⟨i, t, rfl, rfl⟩ | ⟨x, t, rfl, rfl⟩
  · refine ⟨Reads.int i t, ?_⟩
    show ReprIs P w _ (PyData.int i).shown
    simp only [PyData.shown]
    exact ReprIs.int t (by simpa [kD, PyData.showable] using hs)
  · refine ⟨Reads.str x t, ?_⟩
    show ReprIs P w _ (PyData.str x).shown
    simp only [PyData.shown]
    exact ReprIs.str x t (by simpa only [kD, PyData.shown] using hz)
/-- the texts of all items, and what they read -/
structure Rk (P : Program) (w : World) (h : Heap) (u : Value) (d : PyData) : Prop where
  rd : ∃ as, Reads h u d as
  rp : ∃ bs, ReadAtMost h d.depth bs ∧ ReprK P w bs h d.depth u d.shown
structure RkL (P : Program) (w : World) (h : Heap) (us : List Value) (ds : List PyData) : Prop where
  rd : ∃ as, ReadsAll h us ds as
  rp : ∃ bs, ReadAtMost h (PyData.depthAll ds) bs ∧ ReprAllK P w bs h (PyData.depthAll ds) us (PyData.shownAll ds)
structure RkE (P : Program) (w : World) (h : Heap) (ents : List DictEntry) (es : List (PyData × PyData)) : Prop where
  rk : ∃ as, ReadsAll h (ents.map (·.key)) (es.map (·.1)) as
  rv : ∃ as, ReadsAll h (ents.map (·.val)) (es.map (·.2)) as
  rp : ∃ bs, ReadAtMost h (PyData.depthKv es) bs ∧ ReprEntriesK P w bs h (PyData.depthKv es) ents (PyData.shownKv es)
theorem rAM_mono {h : Heap} {n m : Nat} {bs : List Addr} (a : ReadAtMost h n bs) (l : n ≤ m) : ReadAtMost h m bs := a.mono l
theorem reK_more {P : Program} {w : World} {h : Heap} {as as' : List Addr} {n m : Nat} (hs : ∀ b ∈ as, b ∈ as') (l : n ≤ m) : ∀ {en : List DictEntry} {ts : List Str}, ReprEntriesK P w as h n en ts → ReprEntriesK P w as' h m en ts
  | _, _, .nil => .nil
  | _, _, .cons a b c => .cons ((a.more hs).level_le l) ((b.more hs).level_le l) (reK_more hs l c)
mutual
theorem rk_of (I : Inv X pins σ H s) : ∀ (d : PyData) (v : V) (u : Value), Da X.K H v d → RelV v u → d.showable = true → d.shown.length ≤ sizeLine → Rk X.prog X.w s.heap u d
  | .none, _, _, h, r, _, _ => by
    cases h
    cases r
    exact ⟨⟨_, Reads.none⟩, [], (fun _ z => nomatch z), by simp only [PyData.shown]; exact .of_is ReprIs.none _ _ _⟩
  | .bool b, _, _, h, r, _, _ => by
    cases h
    cases r
    exact ⟨⟨_, Reads.bool b⟩, [], (fun _ z => nomatch z), by simp only [PyData.shown]; exact .of_is (ReprIs.bool b) _ _ _⟩
  | .int i, _, _, h, r, hs, _ => by
    cases h
    obtain ⟨t, rfl⟩ := r
    exact ⟨⟨_, Reads.int i t⟩, [], (fun _ z => nomatch z), by simp only [PyData.shown]; exact .of_is (ReprIs.int t (by simpa [PyData.showable] using hs)) _ _ _⟩
  | .str x, _, _, h, r, _, hz => by
    cases h
    obtain ⟨t, rfl⟩ := r
    exact ⟨⟨_, Reads.str x t⟩, [], (fun _ z => nomatch z), by simp only [PyData.shown]; exact .of_is (ReprIs.str x t (by simpa only [PyData.shown] using hz)) _ _ _⟩
  | .list ds, _, _, h, r, hs, hz => by
    cases h with
    | lst hq ha =>
      cases r
      obtain ⟨its, rv, ⟨o, n, ho, hc, _, hd⟩, _⟩ := I.list hq
      have hz' : (listText (PyData.shownAll ds)).length ≤ sizeLine := by simpa only [PyData.shown] using hz
      obtain ⟨⟨as, hr⟩, bs, hb, hk⟩ := rkL_of I ds _ its ha rv (by simpa only [PyData.showable] using hs) (fun t ht => Nat.le_trans (listText_mem_le ht) hz')
      have rr := Reads.list ho hc hd hr
      refine ⟨⟨_, rr⟩, _ :: bs, ReadAtMost.cons rr (by simp only [PyData.depth]; omega) hb, ?_⟩
      have hna := not_mem_of_deeper rr (n := PyData.depthAll ds) (by simp only [PyData.depth]; omega) hb
      simp only [PyData.depth, PyData.shown]
      cases its with
      | nil =>
        cases hr
        simp only [PyData.shownAll, listText_nil]
        exact ReprK.listEmpty ho hc hd
      | cons x l => exact ReprK.list ho hc hd hna (by simpa using hk.length_eq) (fun i y e => hk.item i y (by simpa using e))
  | .tuple ds, _, _, h, r, hs, hz => by
    cases h with
    | tup hq ha =>
      cases r
      obtain ⟨its, rv, ⟨o, ho, hc, n, hd⟩, _⟩ := I.tuple hq
      have hz' : (tupleText (PyData.shownAll ds)).length ≤ sizeLine := by simpa only [PyData.shown] using hz
      obtain ⟨⟨as, hr⟩, bs, hb, hk⟩ := rkL_of I ds _ its ha rv (by simpa only [PyData.showable] using hs) (fun t ht => Nat.le_trans (tupleText_mem_le ht) hz')
      have rr := Reads.tuple ho hc hd hr
      refine ⟨⟨_, rr⟩, _ :: bs, ReadAtMost.cons rr (by simp only [PyData.depth]; omega) hb, ?_⟩
      have hna := not_mem_of_deeper rr (n := PyData.depthAll ds) (by simp only [PyData.depth]; omega) hb
      simp only [PyData.depth, PyData.shown]
      exact ReprK.tuple ho hc hd hna hk
  | .dict es, _, _, h, r, hs, hz => by
    cases h with
    | @dct a kvs _ hq ha =>
      cases r
      obtain ⟨_, hsy, vs, rv, o, ents, ep, ho, hc, hd, _, pr, _⟩ := (show ObjOk X.prog X.w H s.heap a (.dK kvs) from I.hok a _ hq)
      have hz' : (dictText (PyData.shownKv es)).length ≤ sizeLine := by simpa only [PyData.shown] using hz
      obtain ⟨⟨as, hrk⟩, ⟨as', hrv⟩, bs, hb, hk⟩ := rkE_of I es kvs vs ents.toList ha rv pr (by simpa only [PyData.showable] using hs) (fun t ht => Nat.le_trans (dictText_mem_le ht) hz')
      have rr := Reads.dict ho hc.1 hd hrk hrv
      refine ⟨⟨_, rr⟩, _ :: bs, ReadAtMost.cons rr (by simp only [PyData.depth]; omega) hb, ?_⟩
      have hna := not_mem_of_deeper rr (n := PyData.depthKv es) (by simp only [PyData.depth]; omega) hb
      simp only [PyData.depth, PyData.shown]
      exact ReprK.dict ho hc.1 hd hsy hna hk
theorem rkL_of (I : Inv X pins σ H s) : ∀ (ds : List PyData) (vs : List V) (us : List Value), DaL X.K H vs ds → Vals vs us → PyData.showableAll ds = true → (∀ t ∈ PyData.shownAll ds, t.length ≤ sizeLine) → RkL X.prog X.w s.heap us ds
  | [], _, _, h, r, _, _ => by
    cases h
    cases r
    exact ⟨⟨_, ReadsAll.nil⟩, [], (fun _ z => nomatch z), by simp only [PyData.shownAll]; exact .nil⟩
  | d :: ds, _, _, h, r, hs, hz => by
    cases h with
    | cons h1 h2 =>
      cases r with
      | cons r1 r2 =>
        have hs' : d.showable = true ∧ PyData.showableAll ds = true := by simpa only [PyData.showableAll, Bool.and_eq_true] using hs
        simp only [PyData.shownAll, List.mem_cons] at hz
        obtain ⟨⟨as, ra⟩, b1, hb1, k1⟩ := rk_of I d _ _ h1 r1 hs'.1 (hz _ (Or.inl rfl))
        obtain ⟨⟨bs, rb⟩, b2, hb2, k2⟩ := rkL_of I ds _ _ h2 r2 hs'.2 fun t ht => hz t (Or.inr ht)
        refine ⟨⟨_, ReadsAll.cons ra rb⟩, b1 ++ b2, ?_, ?_⟩
        · simp only [PyData.depthAll]
          exact (hb1.mono (Nat.le_max_left _ _)).append (hb2.mono (Nat.le_max_right _ _))
        · simp only [PyData.depthAll, PyData.shownAll]
          exact .cons ((k1.more fun b hb => List.mem_append_left _ hb).level_le (Nat.le_max_left _ _)) (k2.more_le (fun b hb => List.mem_append_right _ hb) (Nat.le_max_right _ _))
theorem rkE_of (I : Inv X pins σ H s) : ∀ (es : List (PyData × PyData)) (kvs : List (Key × V)) (vs : List (Key × Value)) (ents : List DictEntry), DaE X.K H kvs es → KV kvs vs → Pairs (mixKind X.prog X.w) ents vs → PyData.showableKv es = true →
    (∀ t ∈ PyData.shownKv es, t.length ≤ sizeLine) → RkE X.prog X.w s.heap ents es
  | [], _, _, _, h, r, p, _, _ => by
    cases h
    cases r
    cases p
    exact ⟨⟨_, ReadsAll.nil⟩, ⟨_, ReadsAll.nil⟩, [], (fun _ z => nomatch z), by simp only [PyData.shownKv]; exact .nil⟩
  | (k, d) :: es, _, _, _, h, r, p, hs, hz => by
    cases h with
    | @cons ky v kvs' _ _ h1 h2 =>
      cases r with
      | @cons _ q _ qs r1 r2 =>
        obtain ⟨kq, uq⟩ := q
        cases p with
        | @cons en _ ens _ p1 p2 p3 =>
          have hs' : ((kD ky).showable = true ∧ d.showable = true) ∧ PyData.showableKv es = true := by simpa only [PyData.showableKv, Bool.and_eq_true] using hs
          simp only [PyData.shownKv, List.mem_cons] at hz
          have hz0 := hz _ (Or.inl rfl)
          rw [strLen_append, strLen_append] at hz0
          have e1 : ky = kq := r1.1
          have p1' : (mixKind X.prog X.w).is ky en.key = true := by rw [e1]; exact p1
          have p2' : en.val = uq := p2
          obtain ⟨ka, kb⟩ := key_read p1' s.heap hs'.1.1 (by omega)
          obtain ⟨⟨as, ra⟩, b1, hb1, k1⟩ := rk_of I d v uq h1 r1.2 hs'.1.2 (by omega)
          obtain ⟨⟨as2, ra2⟩, ⟨as3, ra3⟩, b2, hb2, k2⟩ := rkE_of I es _ _ ens h2 r2 p3 hs'.2 fun t ht => hz t (Or.inr ht)
          refine ⟨⟨_, ReadsAll.cons ka ra2⟩, ⟨_, ReadsAll.cons (show Reads s.heap en.val d as by rw [p2']; exact ra) ra3⟩, b1 ++ b2, ?_, ?_⟩
          · simp only [PyData.depthKv]
            exact (hb1.mono (by omega)).append (hb2.mono (by omega))
          · simp only [PyData.depthKv, PyData.shownKv]
            refine .cons (.of_is kb _ _ _) ?_ (reK_more (fun b hb => List.mem_append_right _ hb) (by omega) k2)
            rw [p2']
            exact (k1.more fun b hb => List.mem_append_left _ hb).level_le (by omega)
end
/-- repr(x) -/
def rRepr (K : PySem.W.Frag) : List V → Hp → VK → Prop := fun xs H Q => ∃ v d, xs = [v] ∧ Da K H v d ∧ d.showable = true ∧ d.depth ≤ 60 ∧ d.shown.length ≤ sizeLine ∧ Q (.str d.shown) H
theorem call_repr (hgu : X.A.guards = some []) (hu : X.A.units + 64 < cLine) : CallR X (.builtin "repr") (rRepr X.K) := by
  intro pins s σ H xs us Q I r h
  obtain ⟨v, d, rfl, hD, hs, hdp, hz, q⟩ := h
  obtain ⟨u, rfl, rv⟩ := vals1 r
  have fin : ∀ (h' : Heap) (t : Tok) (tk : Nat), (∀ b o, s.heap.get? b = some o → h'.get? b = some o) → EP X pins σ Q (.str d.shown t) { s with heap := h', toks := tk } := fun h' t tk k => ⟨.str d.shown, H, I.kept (t' := tk) k, ⟨_, rfl⟩, q⟩
  have fin0 : ∀ (t : Tok) (tk : Nat), EP X pins σ Q (.str d.shown t) { s with toks := tk } := fun t tk => ⟨.str d.shown, H, I.tok tk, ⟨_, rfl⟩, q⟩
  cases d with
  | none =>
    cases hD
    cases rv
    have f := fin0 s.toks (s.toks + 1)
    simp only [PyData.shown] at f
    exact PySem.P.repr_of_none f
  | bool b =>
    cases hD
    cases rv
    have f := fin0 s.toks (s.toks + 1)
    simp only [PyData.shown] at f
    exact PySem.P.repr_of_bool f
  | int i =>
    cases hD
    obtain ⟨t, rfl⟩ := rv
    have f := fin0 s.toks (s.toks + 1)
    simp only [PyData.shown] at f
    exact PySem.P.repr_of_int (by simpa [PyData.showable] using hs) f
  | str x =>
    cases hD
    obtain ⟨t, rfl⟩ := rv
    have f := fin0 s.toks (s.toks + 1)
    simp only [PyData.shown] at f
    exact PySem.P.repr_of_str f (by simpa only [PyData.shown] using hz)
  | list ds =>
    cases hD with
    | lst hq ha =>
      cases rv
      obtain ⟨its, rv, ⟨o, n, ho, hc, _, hd⟩, _⟩ := I.list hq
      have hz' : (listText (PyData.shownAll ds)).length ≤ sizeLine := by simpa only [PyData.shown] using hz
      obtain ⟨⟨as, hr⟩, bs, hb, hk⟩ := rkL_of I ds _ its ha rv (by simpa only [PyData.showable] using hs) (fun t ht => Nat.le_trans (listText_mem_le ht) hz')
      have rr := Reads.list ho hc hd hr
      have hna := not_mem_of_deeper rr (n := PyData.depthAll ds) (by simp only [PyData.depth]; omega) hb
      simp only [PyData.depth] at hdp
      simp only [PyData.shown] at fin
      refine call_repr_slot (by omega) ⟨o, ho, hc⟩ F.slot_list_repr.toG ?_
      cases its with
      | nil =>
        cases hr
        simp only [PyData.shownAll, listText_nil] at fin
        exact call_list_repr_empty ⟨o, ho, hc⟩ ho hd ⟨_, _, rfl, fin s.heap _ _ fun _ _ e => e⟩
      | cons x l =>
        exact call_list_reprK ho hc hd hna (by simpa using hk.length_eq) (fun i y e => hk.item i y (by simpa using e)) hgu (fun b _ => Clear.nil b) (by show X.A.units + 1 + _ < cLine; omega) (fun _ _ e => e) (fun h' u tk k => ⟨_, _, rfl, fin h' u tk k⟩) hz'
  | tuple ds =>
    cases hD with
    | tup hq ha =>
      cases rv
      obtain ⟨its, rv, ⟨o, ho, hc, n, hd⟩, _⟩ := I.tuple hq
      have hz' : (tupleText (PyData.shownAll ds)).length ≤ sizeLine := by simpa only [PyData.shown] using hz
      obtain ⟨⟨as, hr⟩, bs, hb, hk⟩ := rkL_of I ds _ its ha rv (by simpa only [PyData.showable] using hs) (fun t ht => Nat.le_trans (tupleText_mem_le ht) hz')
      have rr := Reads.tuple ho hc hd hr
      have hna := not_mem_of_deeper rr (n := PyData.depthAll ds) (by simp only [PyData.depth]; omega) hb
      simp only [PyData.depth] at hdp
      simp only [PyData.shown] at fin
      refine call_repr_slot (by omega) ⟨o, ho, hc⟩ F.slot_tuple_repr ?_
      exact call_tuple_reprK ho hc hd hna hk hgu (fun b _ => Clear.nil b) (by show X.A.units + 1 + _ < cLine; omega) (fun _ _ e => e) (fun h' u tk k => ⟨_, _, rfl, fin h' u tk k⟩) hz'
  | dict es =>
    cases hD with
    | @dct a kvs _ hq ha =>
      cases rv
      obtain ⟨_, hsy, vs, rv, o, ents, ep, ho, hc, hd, _, pr, _⟩ := (show ObjOk X.prog X.w H s.heap a (.dK kvs) from I.hok a _ hq)
      have hz' : (dictText (PyData.shownKv es)).length ≤ sizeLine := by simpa only [PyData.shown] using hz
      obtain ⟨⟨as, hrk⟩, ⟨as', hrv⟩, bs, hb, hk⟩ := rkE_of I es kvs vs ents.toList ha rv pr (by simpa only [PyData.showable] using hs) (fun t ht => Nat.le_trans (dictText_mem_le ht) hz')
      have rr := Reads.dict ho hc.1 hd hrk hrv
      have hna := not_mem_of_deeper rr (n := PyData.depthKv es) (by simp only [PyData.depth]; omega) hb
      simp only [PyData.depth] at hdp
      simp only [PyData.shown] at fin
      refine call_repr_slot (by omega) ⟨o, ho, hc.1⟩ F.slot_dict_repr ?_
      exact call_dict_reprK ho hc.1 hd hsy hna hk hgu (fun b _ => Clear.nil b) (by show X.A.units + 1 + _ < cLine; omega) (fun _ _ e => e) (fun h' u tk k => ⟨_, _, rfl, fin h' u tk k⟩) hz'
end
end G

/-! ## G3: defs of the text as callable things; the bag of draws -/
namespace G
open PySem PySem.Spec PyProof.Rows L2
/-- at f stands the def fd -/
def Has (K : PySem.W.Frag) (f : Addr) (fd : FuncData) : Prop := ∃ o, K.lookup f = some o ∧ o.data = .func fd
theorem has_of {K : PySem.W.Frag} {x q : Str} {st : Stmt} {f : Addr} {fd : FuncData} (F : Fun K x q st f fd) : Has K f fd := by
  obtain ⟨oc, od, kV, doc, pm, an, cdv, ct, osl, rfl, lk, hcd⟩ := F.ex
  exact ⟨_, lk, rfl⟩
theorem Has.uniq {K : PySem.W.Frag} {f : Addr} {fd fd' : FuncData} (h : Has K f fd) (h' : Has K f fd') : fd = fd' := by
  obtain ⟨o, a, b⟩ := h
  obtain ⟨o', a', b'⟩ := h'
  rw [a] at a'
  cases a'
  rw [b] at b'
  cases b'
  rfl
/-- the def st stands under the name x of the module -/
def Def (K : PySem.W.Frag) (mg : Str → Option Value) (x : Str) (st : Stmt) (ps : List Str) : Prop := ∃ f fd, Fun K x x st f fd ∧ mg x = some (.ref f) ∧ Binds K fd ps []
/-- what stands under the name x keeps the promise -/
def Cal (P : Program) (w : World) (K : PySem.W.Frag) (mg : Str → Option Value) (base : Heap) (cx : CXT) (k : Nat) (x : Str) (ps : List Str) (sp : Sp) : Prop :=
  ∃ f fd, FnOk P w K mg base cx k f fd ps sp ∧ mg x = some (.ref f) ∧ PySem.W.keepIn K (.ref f) = true ∧ Binds K fd ps [] ∧ Has K f fd
def CalG (P : Program) (w : World) (K : PySem.W.Frag) (mg : Str → Option Value) (base : Heap) (cx : CXT) (k : Nat) (x : Str) (ps : List Str) (sp : Sp) : Prop :=
  ∃ f fd, FnG P w K mg base cx k f fd ps sp ∧ mg x = some (.ref f) ∧ PySem.W.keepIn K (.ref f) = true ∧ Binds K fd ps [] ∧ Has K f fd
section
variable {P : Program} {w : World} {K : PySem.W.Frag} {mg : Str → Option Value} {base : Heap} {cx : CXT} {k : Nat} {x : Str} {ps N : List Str} {sp : Sp} {st : Stmt}
theorem Cal.up {j : Nat} (c : Cal P w K mg base cx j x ps sp) (h : j ≤ k) : Cal P w K mg base cx k x ps sp := let ⟨f, fd, F, r⟩ := c; ⟨f, fd, F.mono h, r⟩
theorem CalG.up {j : Nat} (c : CalG P w K mg base cx j x ps sp) (h : j ≤ k) : CalG P w K mg base cx k x ps sp := let ⟨f, fd, F, r⟩ := c; ⟨f, fd, F.up h, r⟩
theorem Cal.g (c : Cal P w K mg base cx k x ps sp) : CalG P w K mg base cx k x ps sp := let ⟨f, fd, F, r⟩ := c; ⟨f, fd, FnG.of F, r⟩
theorem Def.ok (D : Def K mg x st ps) (S : FnScope N ps (defScope st)) (ln : ∀ vs H Q E, sp vs H Q E → vs.length = ps.length)
    (bd : ∀ (f : Addr) (cdv : Value) (A : Around) (out : List Env) (s : Shared) (H : Hp) (vs : List V) (Q : VK) (E : XK), Room k (A.deeper (envOfC x (defScope st) s.heap.objs.size f cdv)) → sp vs H Q E →
      ∃ t, PSs (cxOf CX0 P w K mg base N x (defScope st) f cdv A out s H E).nox (defBody st) t ∧ t { nx := fun _ H' => Q .non H', rt := Q } (start N vs) H) : Cal P w K mg base CX0 (k + 1) x ps sp := by
  obtain ⟨f, fd, F, m, b⟩ := D
  exact ⟨f, fd, F.ok S ln fun cdv A out s H vs Q E hr h => bd f cdv A out s H vs Q E hr h, m, F.kp, b, has_of F⟩
theorem Def.okX (D : Def K mg x st ps) (S : FnScope N ps (defScope st)) (ln : ∀ vs H Q E, sp vs H Q E → vs.length = ps.length)
    (bd : ∀ (f : Addr) (cdv : Value) (A : Around) (out : List Env) (s : Shared) (H : Hp) (vs : List V) (Q : VK) (E : XK), Room k (A.deeper (envOfC x (defScope st) s.heap.objs.size f cdv)) → sp vs H Q E →
      ∃ t, PSs (cxOf (L2.CX P w) P w K mg base N x (defScope st) f cdv A out s H E) (defBody st) t ∧ t { nx := fun _ H' => Q .non H', rt := Q } (start N vs) H) : Cal P w K mg base (L2.CX P w) (k + 1) x ps sp := by
  obtain ⟨f, fd, F, m, b⟩ := D
  exact ⟨f, fd, F.okX S ln fun cdv A out s H vs Q E hr h => bd f cdv A out s H vs Q E hr h, m, F.kp, b, has_of F⟩
theorem Def.okG (D : Def K mg x st ps) (S : FnScope N ps (defScope st)) (ln : ∀ vs H Q E, sp vs H Q E → vs.length = ps.length)
    (bd : ∀ (f : Addr) (cdv : Value) (A : Around) (out : List Env) (s : Shared) (H : Hp) (vs : List V) (Q : VK) (E : XK), A.guards = some [] → Room k (A.deeper (envOfC x (defScope st) s.heap.objs.size f cdv)) → sp vs H Q E →
      ∃ t, PSs (cxOf CX0 P w K mg base N x (defScope st) f cdv A out s H E).nox (defBody st) t ∧ t { nx := fun _ H' => Q .non H', rt := Q } (start N vs) H) : CalG P w K mg base CX0 (k + 1) x ps sp := by
  obtain ⟨f, fd, F, m, b⟩ := D
  exact ⟨f, fd, G.okG F S ln fun cdv A out s H vs Q E hg hr h => bd f cdv A out s H vs Q E hg hr h, m, F.kp, b, has_of F⟩
end
/-- from what the head has written out -/
theorem def_mk {K : PySem.W.Frag} {mg : Str → Option Value} {h : Heap} {x : Str} {st : Stmt} {ps : List Str} {f : Addr} {oc : Value} {od an : Option Addr} {osl : Array (Option Value)} {kV doc pm cdv ct : Value} (X : K.In h) (G : h.Ns mainGlobals mg)
    (a : PySem.W.nsIn K mainGlobals x = some (some (.ref f))) (l : K.lookup f = some ⟨oc, od, .func (PySem.W.fnOf x x (defArgs st) (defBody st) (defScope st) .none kV doc pm an cdv ct), osl⟩) (c : PySem.W.codeIn K cdv x = true) (k : PySem.W.keepIn K (.ref f) = true)
    (hb : ∀ (kV doc pm : Value) (an : Option Addr) (cdv ct : Value) (us : List Value), us.length = ps.length → bindArgs (PySem.W.fnOf x x (defArgs st) (defBody st) (defScope st) .none kV doc pm an cdv ct) ⟨us, []⟩ = pure (ps.zip us)) : Def K mg x st ps :=
  have F := fun_mk (st := st) l c k
  ⟨f, _, F, PySem.W.mg_of X G a, F.binds hb⟩
/-- the law's def, as its end wants it -/
theorem law_end {P : Program} {w : World} {K : PySem.W.Frag} {mg : Str → Option Value} {x p : Str} {st : Stmt} {k : Nat} {sp : Sp} {fa : Addr} {cx : CXT} (D : Def K mg x st [p]) (hfa : mg x = some (.ref fa))
    (hb : ∀ (kV doc pm : Value) (an : Option Addr) (cdv ct v : Value), bindArgs (PySem.W.fnOf x x (defArgs st) (defBody st) (defScope st) .none kV doc pm an cdv ct) ⟨[v], []⟩ = pure [(p, v)]) (F : ∀ base : Heap, K.In base → base.Ns mainGlobals mg → CalG P w K mg base cx k x [p] sp) :
    ∃ fd : FuncData, (∀ (s : Shared) (v : Value), BindsTo s fd ⟨[v], []⟩ [(p, v)]) ∧ ∀ base : Heap, K.In base → base.Ns mainGlobals mg → FnG P w K mg base cx k fa fd [p] sp := by
  obtain ⟨f, fd, fn, m, b⟩ := D
  rw [hfa] at m
  cases m
  refine ⟨fd, fun s v => ?_, fun base kb nb => ?_⟩
  · obtain ⟨oc, od, kV, doc, pm, an, cdv, ct, osl, rfl, lk, hcd⟩ := fn.ex
    exact .of_eq (hb kV doc pm an cdv ct v)
  obtain ⟨f', fd', G', m', _, _, hs⟩ := F base kb nb
  rw [hfa] at m'
  cases m'
  have e := hs.uniq (has_of fn)
  subst e
  exact G'
section
variable {X : Cx} {cx : CXT} {k : Nat} {ps : List Str} {sp : Sp} {E : XK} {x : Str} {p pos : Pos} {e : Expr} {es : List Expr} {t : TA}
theorem pe_c (c : Cal X.prog X.w X.K X.mg X.base cx k x ps sp) (hr : Room k X.A) (hx : Passes cx X E) (ha : PA X (e :: es) t) (hg : Gl X x := by rfl) (hdb : (x == ("__debug__" : Str)) = false := by decide)
    (he : starEach (e :: es) X.env = (false, eval e X.env) :: starEach es X.env := by rfl) (hpl : (backTo pos (starEach es X.env)).any (·.1) = false := by rfl) : PE X (.Call (.Name x p) (e :: es) [] pos) (tCall sp [] E t) := by
  obtain ⟨f, fd, F, m, kp, b, _⟩ := c
  exact pe_call F hr hg m kp b .nil hx ha hdb he hpl
theorem pe_cG (c : CalG X.prog X.w X.K X.mg X.base cx k x ps sp) (hgu : X.A.guards = some []) (hr : Room k X.A) (hx : Passes cx X E) (ha : PA X (e :: es) t) (hg : Gl X x := by rfl) (hdb : (x == ("__debug__" : Str)) = false := by decide)
    (he : starEach (e :: es) X.env = (false, eval e X.env) :: starEach es X.env := by rfl) (hpl : (backTo pos (starEach es X.env)).any (·.1) = false := by rfl) : PE X (.Call (.Name x p) (e :: es) [] pos) (tCall sp [] E t) := by
  obtain ⟨f, fd, F, m, kp, b, _⟩ := c
  exact pe_callG F hgu hr hg m kp b .nil hx ha hdb he hpl
/-- a built-in class by its name, as a value -/
theorem pe_ty {n : String} (hm : X.mg x = none) (hv : bootBuiltins x = some (.type n)) (hg : Gl X x := by rfl) (hn : x ≠ "__name__" := by decide) (hd : (x == ("__debug__" : Str)) = false := by decide) : PE X (.Name x pos) (tC (.ty n)) :=
  pe_bltn hg hm hv rfl hn hd
/-- a module's int -/
theorem pe_gi {i : Int} {tk : Tok} (hm : X.mg x = some (.int i tk)) (hg : Gl X x := by rfl) (hd : (x == ("__debug__" : Str)) = false := by decide) : PE X (.Name x pos) (tC (.int i)) := pe_glob hg hm ⟨_, rfl⟩ hd
/-- o[i] op= e of a list, i not negative: the read -/
def rGetN (K : PySem.W.Frag) : V → V → Hp → VK → Prop := fun o i H Q => ∃ (q : Addr) (xs : List V) (n : Nat) (v : V), o = .ref q ∧ i = .int (n : Int) ∧ SqL K H q xs ∧ xs[n]? = some v ∧ Q v H
theorem get_list : PGet X (rGetN X.K) := by
  intro pins s σ H o i ov iv Q I ro ri h
  obtain ⟨q, xs, n, z, rfl, rfl, hq, he, q⟩ := h
  cases ro
  obtain ⟨t, rfl⟩ := ri
  obtain ⟨its, r, pl, hz⟩ := I.list hq
  obtain ⟨u, eu, ru⟩ := r.get he
  have hn := line63
  have hlt := (List.getElem?_eq_some_iff.mp he).1
  exact wpAny_getItem_list pl.isList (by omega) (by omega) (by simpa using eu) ⟨z, H, I, ru, q⟩
end
/-- the built-in names that the module has not bound -/
structure Blt (mg : Str → Option Value) : Prop where
  len : mg "len" = Option.none
  isinstance : mg "isinstance" = Option.none
  int : mg "int" = Option.none
  bool : mg "bool" = Option.none
  list : mg "list" = Option.none
  tuple : mg "tuple" = Option.none
  str : mg "str" = Option.none
  all : mg "all" = Option.none
  any : mg "any" = Option.none
  zip : mg "zip" = Option.none
  range : mg "range" = Option.none
  abs : mg "abs" = Option.none
  repr : mg "repr" = Option.none
  min : mg "min" = Option.none
  max : mg "max" = Option.none
  sum : mg "sum" = Option.none
  sorted : mg "sorted" = Option.none
  enumerate : mg "enumerate" = Option.none
  reversed : mg "reversed" = Option.none
  set : mg "set" = Option.none
  dict : mg "dict" = Option.none
  ValueError : mg "ValueError" = Option.none
/-! ### rules with the written part as a letter (within comprehensions the context hangs on bound names) -/
section
variable (K : PySem.W.Frag) {X : Cx}
theorem kixL (h : X.K = K := by rfl) : IxR X (rIxL K) := by subst h; exact ix_list
theorem kixT (h : X.K = K := by rfl) : IxR X (rIxT K) := by subst h; exact ix_tup
theorem kixS (h : X.K = K := by rfl) : IxR X (rIx K) := by subst h; exact ix_seq
theorem kslL (h : X.K = K := by rfl) : SlR X (rSlL K) := by subst h; exact sl_list
theorem kslT (h : X.K = K := by rfl) : SlR X (rSlA K) := by subst h; exact sl_tupA
theorem kisi (h : X.K = K := by rfl) : CallR X (.builtin "isinstance") (rIsi K) := by subst h; exact call_isi
theorem klen (h : X.K = K := by rfl) : CallR X (.builtin "len") (fun xs H Q => ∃ x n, xs = [x] ∧ LenV K x H n ∧ Q (.int n) H) := by subst h; exact call_len
theorem kall (hc : X.calm = true := by rfl) (h : X.K = K := by rfl) : CallR X (.builtin "all") (rAll K) := by subst h; exact cr_all hc
theorem kany (hc : X.calm = true := by rfl) (h : X.K = K := by rfl) : CallR X (.builtin "any") (rAny K) := by subst h; exact cr_any hc
theorem ksum (hc : X.calm = true := by rfl) (h : X.K = K := by rfl) : CallR X (.builtin "sum") (rSum K) := by subst h; exact cr_sum hc
theorem krepr (hgu : X.A.guards = some []) (hu : X.A.units + 64 < cLine) (h : X.K = K := by rfl) : CallR X (.builtin "repr") (rRepr K) := by subst h; exact call_repr hgu hu
theorem keq (hu : X.A.units + 64 < cLine) (h : X.K = K := by rfl) : OpR X (compareOp .Eq) (rEqD K) := by subst h; exact op_eqD hu
theorem kne (hu : X.A.units + 64 < cLine) (h : X.K = K := by rfl) : OpR X (compareOp .NotEq) (rNeD K) := by subst h; exact op_neD hu
theorem kin (h : X.K = K := by rfl) : OpR X (compareOp .In) (rIn K false) := by subst h; exact op_in_seq
theorem knin (h : X.K = K := by rfl) : OpR X (compareOp .NotIn) (rIn K true) := by subst h; exact op_notIn_seq
theorem ktup (h : X.K = K := by rfl) : CallR X (.type "tuple") (fun xs H Q => ∃ p ys, xs = [.ref p] ∧ ((SqL K H p ys ∧ ∀ l, H l = none → Q (.ref l) (upd H l (.tup ys))) ∨ (SqT K H p ys ∧ Q (.ref p) H))) := by subst h; exact call_tuple_of
theorem klist (h : X.K = K := by rfl) : CallR X (.type "list") (fun xs H Q => ∃ p ys, xs = [.ref p] ∧ (SqL K H p ys ∨ SqT K H p ys) ∧ ∀ l, H l = none → Q (.ref l) (upd H l (.lst ys))) := by subst h; exact call_list_of
end
/-! ### the bag -/
/-- H without what stands at b -/
def hid (b : Addr) (H : Hp) : Hp := fun a => if a = b then none else H a
theorem hid_at {b : Addr} {H : Hp} : hid b H b = none := if_pos rfl
theorem hid_ne {b a : Addr} {H : Hp} (h : a ≠ b) : hid b H a = H a := if_neg h
theorem hid_le {b : Addr} {H : Hp} : Same (hid b H) H := fun a o e => by
  by_cases h : a = b
  · subst h; rw [hid_at] at e; cases e
  · rw [hid_ne h] at e; exact e
theorem hid_same {b : Addr} {H H' : Hp} (s : Same H H') : Same (hid b H) (hid b H') := fun a o e => by
  by_cases h : a = b
  · subst h; rw [hid_at] at e; cases e
  · rw [hid_ne h] at e ⊢; exact s _ _ e
theorem hid_upd {b : Addr} {H : Hp} {o : HO} : hid b (upd H b o) = hid b H := by
  funext a
  by_cases h : a = b
  · subst h; rw [hid_at, hid_at]
  · rw [hid_ne h, hid_ne h, upd_ne h]
theorem same_new {H : Hp} {p : Addr} {o : HO} (h : H p = none) : Same H (upd H p o) := fun a u e => by
  rw [upd_ne (ne_of_none e h)]
  exact e
/-- at b stands a bag, its cells at c -/
def BagC (b c : Addr) (H : Hp) : Prop := ∃ (a s k : Int) (cs : List Int), H b = some (.lst [.int a, .int s, .int k, .ref c]) ∧ H c = some (.lst (cs.map V.int)) ∧ c ≠ b ∧ 0 ≤ a ∧ (∀ z ∈ cs, 0 ≤ z) ∧ 0 ≤ s ∧ s < 2147483647 ∧ 0 ≤ k
def BagOk (b : Addr) (H : Hp) : Prop := ∃ c, BagC b c H
/-- on from H to H': the bag at b, with the same cells, all else kept -/
structure Go (b : Addr) (H H' : Hp) : Prop where
  bg : ∃ c, BagC b c H ∧ BagC b c H'
  sm : Same (hid b H) (hid b H')
theorem Go.bag {b : Addr} {H H' : Hp} (g : Go b H H') : BagOk b H' := let ⟨c, _, h⟩ := g.bg; ⟨c, h⟩
theorem BagC.up {b c : Addr} {H H' : Hp} (h : BagC b c H) (s : Same H H') : BagC b c H' := by
  obtain ⟨a, z, k, cs, h1, h2, r⟩ := h
  exact ⟨a, z, k, cs, s _ _ h1, s _ _ h2, r⟩
theorem BagC.uniq {b c c' : Addr} {H : Hp} (h : BagC b c H) (h' : BagC b c' H) : c = c' := by
  obtain ⟨a, z, k, cs, h1, _⟩ := h
  obtain ⟨a', z', k', cs', h1', _⟩ := h'
  rw [h1] at h1'
  cases h1'
  rfl
theorem BagOk.up {b : Addr} {H H' : Hp} (h : BagOk b H) (s : Same H H') : BagOk b H' := let ⟨c, q⟩ := h; ⟨c, q.up s⟩
theorem BagOk.ne {b p : Addr} {H : Hp} (h : BagOk b H) (e : H p = none) : p ≠ b := by
  obtain ⟨c, a, z, k, cs, h1, _⟩ := h
  exact fun q => by rw [q, h1] at e; cases e
theorem Go.refl {b : Addr} {H : Hp} (h : BagOk b H) : Go b H H := let ⟨c, q⟩ := h; ⟨⟨c, q, q⟩, Same.refl _⟩
theorem Go.of {b : Addr} {H H' : Hp} (h : BagOk b H) (s : Same H H') : Go b H H' := let ⟨c, q⟩ := h; ⟨⟨c, q, q.up s⟩, hid_same s⟩
theorem Go.trans {b : Addr} {H H1 H2 : Hp} (x : Go b H H1) (y : Go b H1 H2) : Go b H H2 := by
  obtain ⟨c, c1, c2⟩ := x.bg
  obtain ⟨d, d1, d2⟩ := y.bg
  have e := c2.uniq d1
  subst e
  exact ⟨⟨c, c1, d2⟩, x.sm.trans y.sm⟩
/-- a thing that H does not know may be changed -/
theorem Go.mut {b L : Addr} {o : HO} {H H' : Hp} (x : Go b H H') (h : H L = none) : Go b H (upd H' L o) := by
  obtain ⟨c, c1, c2⟩ := x.bg
  refine ⟨⟨c, c1, ?_⟩, fun a u e => ?_⟩
  · obtain ⟨a, z, k, cs, h1, h2, _⟩ := c1
    obtain ⟨a', z', k', cs', h1', h2', r⟩ := c2
    exact ⟨a', z', k', cs', by rw [upd_ne (ne_of_none h1 h)]; exact h1', by rw [upd_ne (ne_of_none h2 h)]; exact h2', r⟩
  · by_cases hb : a = b
    · subst hb; rw [hid_at] at e; cases e
    · have q := x.sm a u e
      rw [hid_ne hb] at e q ⊢
      rw [upd_ne (ne_of_none e h)]
      exact q
theorem Go.then {b : Addr} {H H1 H2 : Hp} (x : Go b H H1) (y : Same H1 H2) : Go b H H2 := x.trans (.of x.bag y)
theorem Go.new {b p : Addr} {o : HO} {H H1 : Hp} (x : Go b H H1) (h : H1 p = none) : Go b H (upd H1 p o) := x.then (same_new h)
theorem Go.da {K : PySem.W.Frag} {b : Addr} {H H' : Hp} {v : V} {d : PyData} (g : Go b H H') (h : Da K (hid b H) v d) : Da K (hid b H') v d := h.mono g.sm
theorem Go.dal {K : PySem.W.Frag} {b : Addr} {H H' : Hp} {v : List V} {d : List PyData} (g : Go b H H') (h : DaL K (hid b H) v d) : DaL K (hid b H') v d := h.mono g.sm
theorem da_of {K : PySem.W.Frag} {b : Addr} {H : Hp} {v : V} {d : PyData} (h : Da K (hid b H) v d) : Da K H v d := h.mono hid_le
theorem dal_of {K : PySem.W.Frag} {b : Addr} {H : Hp} {v : List V} {d : List PyData} (h : DaL K (hid b H) v d) : DaL K H v d := h.mono hid_le
/-- a new list, a new tuple of such data -/
theorem da_newL {K : PySem.W.Frag} {b p : Addr} {H : Hp} {vs : List V} {ds : List PyData} (hb : BagOk b H) (h : DaL K (hid b H) vs ds) (hp : H p = none) : Da K (hid b (upd H p (.lst vs))) (.ref p) (.list ds) :=
  .lst (.inl (.inl (by rw [hid_ne (hb.ne hp)]; exact upd_same))) (h.mono (hid_same (same_new hp)))
theorem da_newT {K : PySem.W.Frag} {b p : Addr} {H : Hp} {vs : List V} {ds : List PyData} (hb : BagOk b H) (h : DaL K (hid b H) vs ds) (hp : H p = none) : Da K (hid b (upd H p (.tup vs))) (.ref p) (.tuple ds) :=
  .tup (.inl (.inl (by rw [hid_ne (hb.ne hp)]; exact upd_same))) (h.mono (hid_same (same_new hp)))
theorem daL {K : PySem.W.Frag} {p : Addr} {H : Hp} {vs : List V} {ds : List PyData} (h : DaL K H vs ds) (hp : H p = none) : Da K (upd H p (.lst vs)) (.ref p) (.list ds) := .lst (.inl (.inl upd_same)) (h.mono (same_new hp))
theorem daT {K : PySem.W.Frag} {p : Addr} {H : Hp} {vs : List V} {ds : List PyData} (h : DaL K H vs ds) (hp : H p = none) : Da K (upd H p (.tup vs)) (.ref p) (.tuple ds) := .tup (.inl (.inl upd_same)) (h.mono (same_new hp))
/-- _law_take(bag, many): some int from 0 to many - 1 -/
def sp_take : Sp := fun vs H Q _ => ∃ (b : Addr) (m : Int), vs = [.ref b, .int m] ∧ BagOk b H ∧ 0 < m ∧ m < 2 ^ 200 ∧ ∀ (v : Int) (H' : Hp), 0 ≤ v → v < m → Go b H H' → Q (.int v) H'
/-- _law_bag(script) -/
def sp_bag (K : PySem.W.Frag) : Sp := fun vs H Q _ => ∃ (a : Addr) (ns : List Int), vs = [.ref a] ∧ SqL K H a (ns.map V.int) ∧ ns.length ≤ 1000 ∧ ∀ (b : Addr) (H' : Hp), H b = none → Same H H' → BagOk b H' → Q (.ref b) H'
end G

/-! ## G4: comprehensions whose items are values that hang on no heap; small things about data -/
namespace G
open PySem PySem.Spec PyProof.Rows L2
theorem cut_map {α : Type} (f : α → V) (ns : List α) (lo hi : Option Int) : ∃ a b, cutV (ns.map f) lo hi = ((ns.drop a).take b).map f := by
  have e : cutV (ns.map f) lo hi = ((ns.map f).drop _).take _ := rfl
  rw [← List.map_drop, ← List.map_take] at e
  exact ⟨_, _, e⟩
theorem same_free {H H' : Hp} {p : Addr} (s : Same H H') (h : H' p = none) : H p = none := s.free h
/-- [e for x in xs]: e a value that hangs on x alone -/
theorem lc_map {K : PySem.W.Frag} {a : Addr} {xs ys : List V} {j : Nat} {te : TE} {vs : List Nat} {σ : L2.St} {H1 : Hp} {D : Addr} {Qd : Hp → Prop} (hx : SqL K H1 a xs) (hD : H1 D = none) (hl : ys.length = xs.length) (hz : xs.length ≤ 100000)
    (hw : ∀ x, wipe ((wipe σ vs).set j (some x)) vs = wipe σ vs)
    (hs : ∀ (i : Nat) (x y : V), xs[i]? = some x → ys[i]? = some y → ∀ H, Same H1 H → ∀ Q : VK, (∀ H4, Same H H4 → Q y H4) → te ((wipe σ vs).set j (some x)) H Q)
    (hd : ∀ H, Same H1 H → H D = some (.lst ys) → Qd H) :
    ∃ W : Nat → Nat → Hp → Prop, (∃ m, W 0 m (upd H1 D (.lst []))) ∧ ∀ i m H, W i m H →
      ((Itl K a).stop i H ∧ Qd H) ∨ ((Itl K a).go i H ∧ ∃ Nx : Hp → Prop, (∀ H', Nx H' → ∃ m', m' < m ∧ W (i + 1) m' H') ∧ ∀ x H', (Itl K a).yld i H x H' → gName j x (wipe σ vs) H' fun σ2 H2 => wipe σ2 vs = wipe σ vs ∧ tYes σ2 H2 fun b H3 =>
        if b = true then te σ2 H3 fun y H4 => ∃ acc, H4 D = some (.lst acc) ∧ acc.length < sizeLine ∧ Nx (upd H4 D (.lst (acc ++ [y]))) else Nx H3) := by
  refine lc_list (K := K) (a := a) (xs := xs) (fun i H => Same H1 H ∧ H D = some (.lst (ys.take i))) ⟨same_new hD, upd_same⟩ (fun i H _ p => sql_up p.1 hx) (fun i x H hi p => ?_) (fun H p => hd H p.1 (by rw [p.2, ← hl, List.take_length]))
  have hlt := (List.getElem?_eq_some_iff.mp hi).1
  have hy : ys[i]? = some ys[i] := List.getElem?_eq_getElem (by omega)
  refine ⟨hw x, ?_⟩
  unfold tYes
  refine iteT (hs i x ys[i] hi hy H p.1 _ fun H4 e4 => ⟨ys.take i, e4 _ _ p.2, ?_, ?_, ?_⟩)
  · rw [List.length_take, sizeLine_eq]; omega
  · exact fun b o e => by
      rw [upd_ne (ne_of_none e hD)]
      exact e4 _ _ (p.1 _ _ e)
  · rw [upd_same, List.take_succ, hy]
    rfl
theorem boolAll {α : Type} (l : List α) (f : α → Bool) : ((l.map f).all id) = l.all f := by
  induction l with
  | nil => rfl
  | cons a l ih => simp
/-- what is true of each datum -/
theorem DaL.all2 {K : PySem.W.Frag} {H : Hp} {ds : List PyData} {vs : List V} {i : Nat} {v : V} (h : DaL K H vs ds) (e : vs[i]? = some v) : ∃ d, ds[i]? = some d ∧ Da K H v d := h.getV e
end G

/-! ## G5: kinds: what the predicates say of data; their promises -/
namespace G
open PySem PySem.Spec PyProof.Rows L2
def isInt : PyData → Bool
  | .int _ => true
  | _ => false
theorem isInt_eq (d : PyData) : isInt d = (isI d && !isB d) := by cases d <;> rfl
/-- an integer from lo to hi -/
def betw (d : PyData) (lo hi : Int) : Bool := match d with
  | .int i => decide (lo ≤ i) && decide (i ≤ hi)
  | _ => false
def sp_is_integer (K : PySem.W.Frag) : Sp := fun vs H Q _ => ∃ v d, vs = [v] ∧ Da K H v d ∧ Q (.bl (isInt d)) H
def sp_is_between (K : PySem.W.Frag) : Sp := fun vs H Q _ => ∃ v d lo hi, vs = [v, .int lo, .int hi] ∧ Da K H v d ∧ Q (.bl (betw d lo hi)) H
def sp_is_amount (K : PySem.W.Frag) : Sp := fun vs H Q _ => ∃ v d, vs = [v] ∧ Da K H v d ∧ Q (.bl (betw d 0 1000000000000000000000000000000)) H
def sp_is_count (K : PySem.W.Frag) : Sp := fun vs H Q _ => ∃ v d, vs = [v] ∧ Da K H v d ∧ Q (.bl (betw d 1 1000000000000000000)) H
def sp_is_broker (K : PySem.W.Frag) : Sp := fun vs H Q _ => ∃ v d n, vs = [v, .int n] ∧ Da K H v d ∧ Q (.bl (betw d 0 (n - 1))) H
end G
namespace G
open PySem PySem.Spec PyProof.Rows L2
def ltD : PyData → PyData → Bool
  | .int a, .int b => decide (a < b)
  | _, _ => false
/-- each less than the next -/
def ascD (ds : List PyData) : Bool := (List.zipWith ltD ds (ds.drop 1)).all id
def isSetD (d : PyData) (n : Int) : Bool := match d with
  | .list ds => ds.all (fun x => betw x 0 (n - 1)) && ascD ds
  | _ => false
end G

/-! ## G6: data that can be shown; alike; odd values; comprehensions by a walk -/
namespace G
open PySem PySem.Spec PyProof.Rows L2
/-- the datum can be shown, is nested at most n deep, and its text has at most B signs -/
structure Sm (n B : Nat) (d : PyData) : Prop where
  sh : d.showable = true
  dp : d.depth ≤ n
  ln : d.shown.length ≤ B
theorem Sm.up {n m A B : Nat} {d : PyData} (h : Sm n A d) (a : n ≤ m) (b : A ≤ B) : Sm m B d := ⟨h.sh, Nat.le_trans h.dp a, Nat.le_trans h.ln b⟩
theorem Sm.none : Sm 0 5 PyData.none := ⟨rfl, Nat.le_refl _, by decide +kernel⟩
theorem Sm.bool (b : Bool) : Sm 0 5 (PyData.bool b) := by cases b <;> exact ⟨rfl, Nat.le_refl _, by decide +kernel⟩
theorem Sm.int {i : Int} (h : i.natAbs < 10 ^ 45) : Sm 0 46 (PyData.int i) := by
  refine ⟨?_, Nat.le_refl _, ?_⟩
  · simp only [PyData.showable, decide_eq_true_eq]
    exact Nat.lt_trans (PySem.Flt.log2_lt_of (k := 200) (by decide) (Nat.lt_trans h (by decide))) (by decide)
  · simp only [PyData.shown]
    have e := int_text_length_le10 (a := i) (k := 45) (by decide) h
    rw [PySem.ofString_length]
    exact e
theorem sm_all {n B : Nat} : ∀ {ds : List PyData}, (∀ d ∈ ds, Sm n B d) → PyData.showableAll ds = true ∧ PyData.depthAll ds ≤ n ∧ ((PyData.shownAll ds).map (·.length)).sum ≤ B * ds.length ∧ (PyData.shownAll ds).length = ds.length
  | [], _ => by simp [PyData.showableAll, PyData.depthAll, PyData.shownAll]
  | d :: ds, h => by
    obtain ⟨a, b, c, e⟩ := sm_all (ds := ds) fun x hx => h x (List.mem_cons_of_mem _ hx)
    have hd := h d List.mem_cons_self
    have h1 := hd.dp
    have h2 := hd.ln
    refine ⟨?_, ?_, ?_, ?_⟩
    · simp only [PyData.showableAll, hd.sh, a, Bool.and_self]
    · simp only [PyData.depthAll]
      omega
    · simp only [PyData.shownAll, List.map_cons, List.sum_cons, List.length_cons, Nat.mul_add, Nat.mul_one]
      omega
    · simp only [PyData.shownAll, List.length_cons, e]
theorem Sm.list {n B m : Nat} {ds : List PyData} (h : ∀ d ∈ ds, Sm n B d) (hm : ds.length ≤ m) : Sm (n + 1) ((B + 2) * m + 3) (PyData.list ds) := by
  obtain ⟨a, b, c, e⟩ := sm_all h
  refine ⟨by simpa only [PyData.showable] using a, by simp only [PyData.depth]; omega, ?_⟩
  simp only [PyData.shown]
  have q := listText_len_le (PyData.shownAll ds)
  rw [e] at q
  have l1 : B * ds.length ≤ B * m := Nat.mul_le_mul_left _ hm
  have l2 : (B + 2) * m = B * m + 2 * m := Nat.add_mul _ _ _
  omega
theorem Sm.tuple {n B m : Nat} {ds : List PyData} (h : ∀ d ∈ ds, Sm n B d) (hm : ds.length ≤ m) : Sm (n + 1) ((B + 2) * m + 3) (PyData.tuple ds) := by
  obtain ⟨a, b, c, e⟩ := sm_all h
  refine ⟨by simpa only [PyData.showable] using a, by simp only [PyData.depth]; omega, ?_⟩
  simp only [PyData.shown]
  have q := tupleText_len_le (PyData.shownAll ds)
  rw [e] at q
  have l1 : B * ds.length ≤ B * m := Nat.mul_le_mul_left _ hm
  have l2 : (B + 2) * m = B * m + 2 * m := Nat.add_mul _ _ _
  omega
/-- how many items -/
def lenD : PyData → Nat
  | .list xs => xs.length
  | .tuple xs => xs.length
  | _ => 0
/-- found and due stand for the same: they are alike -/
def sp_alike (K : PySem.W.Frag) : Sp := fun vs H Q _ => ∃ v u d, vs = [v, u] ∧ Da K H v d ∧ Da K H u d ∧ d.canLay0 = true ∧ Sm 60 1000000 d ∧ ∀ H', Same H H' → Q (.bl true) H'
theorem shaped_of {d : PyData} {B : Nat} (h : Sm 60 B d) (c : d.canLay0 = true) : SeqAt.shaped d = true := by
  unfold SeqAt.shaped
  rw [c, Bool.true_and]
  exact decide_eq_true (Nat.le_trans h.dp (by decide))
section
variable {X : Cx}
/-- 'a' * 99 -/
theorem op_mulS : OpR X (binaryOp .Mult) (fun x y H Q => ∃ z n, x = .str z ∧ y = .int n ∧ MulOk z n ∧ Q (.str (Txt.mul z n)) H) := by
  intro pins s σ H x y v u Q I rx ry h
  obtain ⟨z, n, rfl, rfl, ok, q⟩ := h
  obtain ⟨t, rfl⟩ := rx
  obtain ⟨t', rfl⟩ := ry
  exact SB.mul ok fun t'' k => ⟨.str _, H, I.tok k, ⟨_, rfl⟩, q⟩
end
/-- a comprehension over anything that is walked: in turn i the item f i, or none -/
theorem lc_gen {J : It} {n : Nat} {Gd : Hp → Prop} {Y : Nat → Hp → V → Hp → Prop} (w : Walk J n Gd Y) {g : TG} {tt : TT} {te : TE} {vs : List Nat} {σ : L2.St} {H1 : Hp} {D : Addr} {Qd : Hp → Prop} (f : Nat → Option V) (hD : H1 D = none) (hz : n ≤ 100000)
    (hG : ∀ H, Same H1 H → Gd H)
    (hs : ∀ i x H H', i < n → Same H1 H → Y i H x H' → ∀ (R1 : VK) (R0 : Hp → Prop), (∀ y H4, f i = some y → Same H H4 → R1 y H4) → (f i = none → ∀ H4, Same H H4 → R0 H4) →
      g x (wipe σ vs) H' fun σ2 H2 => wipe σ2 vs = wipe σ vs ∧ tt σ2 H2 fun b H3 => if b = true then te σ2 H3 R1 else R0 H3)
    (hd : ∀ H, Same H1 H → H D = some (.lst ((List.range n).filterMap f)) → Qd H) :
    ∃ W : Nat → Nat → Hp → Prop, (∃ m, W 0 m (upd H1 D (.lst []))) ∧ ∀ i m H, W i m H →
      (J.stop i H ∧ Qd H) ∨ (J.go i H ∧ ∃ Nx : Hp → Prop, (∀ H', Nx H' → ∃ m', m' < m ∧ W (i + 1) m' H') ∧ ∀ x H', J.yld i H x H' → g x (wipe σ vs) H' fun σ2 H2 => wipe σ2 vs = wipe σ vs ∧ tt σ2 H2 fun b H3 =>
        if b = true then te σ2 H3 fun y H4 => ∃ acc, H4 D = some (.lst acc) ∧ acc.length < sizeLine ∧ Nx (upd H4 D (.lst (acc ++ [y]))) else Nx H3) := by
  refine lc_it w (fun i H => Same H1 H ∧ H D = some (.lst ((List.range i).filterMap f))) ⟨same_new hD, upd_same⟩ (fun i H _ p => hG H p.1) (fun i x H H' hi p y => ?_) (fun H p => hd H p.1 p.2)
  refine hs i x H H' hi p.1 y _ _ (fun y H4 hf e4 => ⟨_, e4 _ _ p.2, ?_, ?_, ?_⟩) (fun hf H4 e4 => ⟨p.1.trans e4, ?_⟩)
  · have q : ((List.range i).filterMap f).length ≤ (List.range i).length := List.length_filterMap_le f _
    rw [List.length_range] at q
    rw [sizeLine_eq]
    omega
  · exact fun b o e => by
      rw [upd_ne (ne_of_none e hD)]
      exact e4 _ _ (p.1 _ _ e)
  · rw [upd_same, List.range_succ, List.filterMap_append]
    simp [hf]
  · rw [e4 _ _ p.2, List.range_succ, List.filterMap_append]
    simp [hf]
theorem fm_take (ys : List V) : ∀ n, n ≤ ys.length → (List.range n).filterMap (fun i => ys[i]?) = ys.take n
  | 0, _ => by simp
  | n + 1, h => by
    rw [List.range_succ, List.filterMap_append, fm_take ys n (by omega), List.take_succ]
    have e : ys[n]? = some ys[n] := List.getElem?_eq_getElem (by omega)
    simp [e]
theorem fm_get (ys : List V) : (List.range ys.length).filterMap (fun i => ys[i]?) = ys := by
  rw [fm_take ys _ (Nat.le_refl _), List.take_length]
/-- the v-th of such values -/
theorem DaL.pick {K : PySem.W.Frag} {H : Hp} {vs : List V} {ds : List PyData} {v : Int} (h : DaL K H vs ds) (h0 : 0 ≤ v) (h1 : v < (ds.length : Int)) : ∃ x d, atI vs v = some x ∧ d ∈ ds ∧ ds[v.toNat]? = some d ∧ Da K H x d := by
  obtain ⟨n, rfl⟩ := Int.eq_ofNat_of_zero_le h0
  have hn : n < ds.length := by omega
  obtain ⟨x, e, hx⟩ := h.get (List.getElem?_eq_getElem hn)
  exact ⟨x, ds[n], atI_nat e, List.getElem_mem hn, by simpa using List.getElem?_eq_getElem hn, hx⟩
end G
namespace G
open PySem PySem.Spec PyProof.Rows L2
theorem cut_1 (xs : List V) : cutV xs (some 1) none = xs.drop 1 := by
  cases xs with
  | nil => rfl
  | cons x xs =>
    have e : cutV (x :: xs) (some 1) none = ((x :: xs).drop (min 1 (xs.length + 1))).take ((xs.length + 1) - min 1 (xs.length + 1)) := rfl
    rw [e, Nat.min_eq_left (by omega)]
    simp
theorem betw_int {d : PyData} {lo hi : Int} (h : betw d lo hi = true) : ∃ i, d = .int i := by
  cases d with
  | int i => exact ⟨i, rfl⟩
  | _ => cases h
def sp_is_set (K : PySem.W.Frag) : Sp := fun vs H Q _ => ∃ v d n, vs = [v, .int n] ∧ Da K H v d ∧ lenD d ≤ 100000 ∧ ∀ H', Same H H' → Q (.bl (isSetD d n)) H'
end G
namespace G
open PySem PySem.Spec PyProof.Rows L2
/-- the places (from 1) where the next is not greater -/
def notAsc (bs : List Bool) (i : Nat) : Option Int := if bs[i]? = some true then none else some (1 + (i : Int))
theorem fm_map {β : Type} (f : Nat → Option β) (g : β → V) (n : Nat) : (List.range n).filterMap (fun i => (f i).map g) = ((List.range n).filterMap f).map g := by
  induction n with
  | zero => rfl
  | succ n ih =>
    rw [List.range_succ, List.filterMap_append, List.filterMap_append, ih, List.map_append]
    cases h : f n <;> simp [h]
theorem canLay_ints : ∀ ns : List Int, PyData.canLayAll0 (ns.map PyData.int) = true
  | [] => rfl
  | n :: ns => by rw [List.map_cons, PyData.canLayAll0, canLay_ints ns]; rfl
theorem depth_ints : ∀ ns : List Int, PyData.depthAll (ns.map PyData.int) = 0
  | [] => rfl
  | n :: ns => by rw [List.map_cons, PyData.depthAll, depth_ints ns]; rfl
theorem shaped_ints (ns : List Int) : SeqAt.shaped (.list (ns.map PyData.int)) = true := by
  unfold SeqAt.shaped
  rw [PyData.canLay0, canLay_ints, PyData.depth, depth_ints]
  rfl
theorem eqv_nil (ns : List Int) : PyData.eqv (.list (ns.map PyData.int)) (.list []) = ns.isEmpty := by
  cases ns <;> simp [PyData.eqv, PyData.eqvAll]
theorem isE_app {α : Type} (a b : List α) : (a ++ b).isEmpty = (a.isEmpty && b.isEmpty) := by
  cases a <;> simp
theorem notAsc_go (bs : List Bool) : ∀ n, n ≤ bs.length → ((List.range n).filterMap (notAsc bs)).isEmpty = (bs.take n).all id
  | 0, _ => by simp
  | n + 1, h => by
    have e : bs[n]? = some bs[n] := List.getElem?_eq_getElem (by omega)
    rw [List.range_succ, List.filterMap_append, isE_app, notAsc_go bs n (by omega), List.take_succ, List.all_append, e]
    congr 1
    unfold notAsc
    cases hb : bs[n] <;> simp [e, hb]
theorem notAsc_all (ds : List PyData) : ((List.range (List.zipWith ltD ds (ds.drop 1)).length).filterMap (notAsc (List.zipWith ltD ds (ds.drop 1)))).isEmpty = (true && ascD ds) := by
  rw [notAsc_go _ _ (Nat.le_refl _), List.take_length]
  rfl
end G
namespace G
open PySem PySem.Spec PyProof.Rows L2
theorem Go.get {b p : Addr} {o : HO} {H H' : Hp} (g : Go b H H') (h : H p = some o) (n : p ≠ b) : H' p = some o := by
  have q := g.sm p o (by rw [hid_ne n]; exact h)
  rw [hid_ne n] at q
  exact q
theorem cp10 {j : Int} (h0 : 0 ≤ j) (h1 : j ≤ 1000000) : CPow 10 j := ⟨h0, h1, by decide⟩
theorem pickI {ns : List Int} {v : Int} (h0 : 0 ≤ v) (h1 : v < (ns.length : Int)) : ∃ z, z ∈ ns ∧ atI (ns.map V.int) v = some (.int z) := by
  obtain ⟨n, rfl⟩ := Int.eq_ofNat_of_zero_le h0
  have hn : n < ns.length := by omega
  exact ⟨ns[n], List.getElem_mem hn, atI_nat (by rw [List.getElem?_map, List.getElem?_eq_getElem hn]; rfl)⟩
def sp_number : Sp := fun vs H Q _ => ∃ b, vs = [.ref b] ∧ BagOk b H ∧ ∀ (v : Int) (H' : Hp), v.natAbs < 10 ^ 45 → Go b H H' → Q (.int v) H'
/-- some small datum -/
def sp_odd (K : PySem.W.Frag) : Sp := fun vs H Q _ => ∃ b, vs = [.ref b] ∧ BagOk b H ∧ ∀ (v : V) (d : PyData) (H' : Hp), Go b H H' → Da K (hid b H') v d → Sm 4 100000 d → lenD d ≤ 2000 → Q v H'
def sp_brokers (K : PySem.W.Frag) : Sp := fun vs H Q _ => ∃ b n, vs = [.ref b, .int n] ∧ BagOk b H ∧ 2 ≤ n ∧ n ≤ 10 ∧ ∀ (v : V) (d : PyData) (H' : Hp), Go b H H' → Da K (hid b H') v d → Sm 5 4000000 d → lenD d ≤ 100 → Q v H'
end G
namespace G
open PySem PySem.Spec PyProof.Rows L2
def nestL : Nat → PyData
  | 0 => .list []
  | n + 1 => .list [nestL n]
abbrev oddVA : List V := [V.int 0, V.int 1, V.int (-1), V.int 10, V.int 9, V.int (10 ^ (18 : Int).toNat), V.int (10 ^ (18 : Int).toNat + 1), V.int (10 ^ (30 : Int).toNat), V.int (10 ^ (30 : Int).toNat + 1), V.int (-10 ^ (39 : Int).toNat), V.bl true, V.bl false, V.non, V.str "", V.str "1"]
def oddA : List PyData := [.int 0, .int 1, .int (-1), .int 10, .int 9, .int (10 ^ (18 : Int).toNat), .int (10 ^ (18 : Int).toNat + 1), .int (10 ^ (30 : Int).toNat), .int (10 ^ (30 : Int).toNat + 1), .int (-10 ^ (39 : Int).toNat), .bool true, .bool false, .none, .str "", .str "1"]
def oddB0 : List PyData := [.tuple [], .tuple [.int 0], .tuple [.int 0, .int 1], .tuple [.int 0, .int 1, .int 2], .tuple [.int 1, .int 0], .list [], .list [.int 0], .list [.int 0, .int 1], .list [.list [.int 0, .int 1]], .dict [], .dict [(.int 0, .int 1)], nestL 3]
def oddB : List PyData := [.tuple [], .tuple [.int 0], .tuple [.int 0, .int 1], .tuple [.int 0, .int 1, .int 2], .tuple [.int 1, .int 0], .list [], .list [.int 0], .list [.int 0, .int 1], .list [.list [.int 0, .int 1]], .dict [], .dict [(.int 0, .int 1)], nestL 3, .list (List.replicate 2000 (.int 0))]
theorem flat_rep {α : Type} (a : α) : ∀ n : Nat, (List.replicate n [a]).flatten = List.replicate n a
  | 0 => rfl
  | n + 1 => by rw [List.replicate_succ, List.flatten_cons, flat_rep a n]; rfl
theorem mul99 : MulOk "a" 99 := ⟨by decide +kernel, fun _ _ => by decide +kernel, fun _ _ => by decide +kernel⟩
def smB (d : PyData) : Bool := d.showable && decide (d.depth ≤ 4) && decide (d.shown.length ≤ 100000) && decide (lenD d ≤ 2000)
theorem of_smB {d : PyData} (h : smB d = true) : Sm 4 100000 d ∧ lenD d ≤ 2000 := by
  unfold smB at h
  simp only [Bool.and_eq_true, decide_eq_true_eq] at h
  exact ⟨⟨h.1.1.1, h.1.1.2, h.1.2⟩, h.2⟩
theorem oddA_ok : oddA.all smB = true := by decide +kernel
theorem oddB_ok : oddB0.all smB = true := by decide +kernel
theorem oddC_ok : smB (.str (Txt.mul "a" 99)) = true := by decide +kernel
theorem odd_ok (d : PyData) (h : d ∈ (oddA ++ oddB) ++ [PyData.str (Txt.mul "a" 99)]) : Sm 4 100000 d ∧ lenD d ≤ 2000 := by
  rcases List.mem_append.mp h with h | h
  · rcases List.mem_append.mp h with h | h
    · exact of_smB (List.all_eq_true.mp oddA_ok d h)
    · have e : oddB = oddB0 ++ [.list (List.replicate 2000 (.int 0))] := rfl
      rw [e] at h
      rcases List.mem_append.mp h with h | h
      · exact of_smB (List.all_eq_true.mp oddB_ok d h)
      · rw [List.mem_singleton.mp h]
        refine ⟨(Sm.list (n := 0) (B := 46) (m := 2000) (fun d hd => ?_) (by simp)).up (by decide) (by decide), by simp [lenD]⟩
        rw [(List.mem_replicate.mp hd).2]
        exact Sm.int (by decide)
  · rw [List.mem_singleton.mp h]
    exact of_smB oddC_ok
end G
namespace G
open PySem PySem.Spec PyProof.Rows L2
/-- at most N ints, none of more than 45 digits -/
def SmI (N : Nat) (ms : List Int) : Prop := ms.length ≤ N ∧ ∀ z ∈ ms, z.natAbs < 10 ^ 45
theorem cutI {N : Nat} {ns : List Int} (h : SmI N ns) (lo hi : Option Int) : ∃ ms, cutV (ns.map V.int) lo hi = ms.map V.int ∧ SmI N ms := by
  obtain ⟨a, b, e⟩ := cut_map V.int ns lo hi
  refine ⟨_, e, ?_, fun z hz => h.2 z (List.mem_of_mem_drop (List.mem_of_mem_take hz))⟩
  have h1 := h.1
  rw [List.length_take, List.length_drop]
  omega
theorem SmI.sm {N : Nat} {ms : List Int} (h : SmI N ms) : ∀ d ∈ ms.map PyData.int, Sm 0 46 d := fun d hd => by
  obtain ⟨z, hz, rfl⟩ := List.mem_map.mp hd
  exact Sm.int (h.2 z hz)
theorem SmI.app {N M : Nat} {ms ns : List Int} (h : SmI N ms) (k : SmI M ns) : SmI (N + M) (ms ++ ns) := by
  refine ⟨?_, fun z hz => ?_⟩
  · rw [List.length_append]
    exact Nat.add_le_add h.1 k.1
  · rcases List.mem_append.mp hz with hz | hz
    · exact h.2 z hz
    · exact k.2 z hz
theorem SmI.rev {N : Nat} {ms : List Int} (h : SmI N ms) : SmI N ms.reverse := ⟨by rw [List.length_reverse]; exact h.1, fun z hz => h.2 z (List.mem_reverse.mp hz)⟩
theorem SmI.one {z : Int} (h : z.natAbs < 10 ^ 45) : SmI 1 [z] := ⟨Nat.le_refl _, fun y hy => by rw [List.mem_singleton.mp hy]; exact h⟩
/-- a list, a tuple of such ints -/
theorem SmI.lst {N : Nat} {ms : List Int} (h : SmI N ms) (hN : N ≤ 60) : Sm 5 4000000 (.list (ms.map PyData.int)) ∧ lenD (.list (ms.map PyData.int)) ≤ 100 := by
  have h1 := h.1
  refine ⟨(Sm.list (m := 60) h.sm (by rw [List.length_map]; omega)).up (by decide) (by decide), ?_⟩
  show (ms.map PyData.int).length ≤ 100
  rw [List.length_map]
  omega
theorem SmI.tup {N : Nat} {ms : List Int} (h : SmI N ms) (hN : N ≤ 60) : Sm 5 4000000 (.tuple (ms.map PyData.int)) ∧ lenD (.tuple (ms.map PyData.int)) ≤ 100 := by
  have h1 := h.1
  refine ⟨(Sm.tuple (m := 60) h.sm (by rw [List.length_map]; omega)).up (by decide) (by decide), ?_⟩
  show (ms.map PyData.int).length ≤ 100
  rw [List.length_map]
  omega
theorem sz60 {n : Nat} (h : n ≤ 100000) : n ≤ sizeLine := Nat.le_trans h (by rw [sizeLine_eq]; decide)
end G
namespace G
open PySem PySem.Spec PyProof.Rows L2
/-- the law's own promise -/
def sp_law (K : PySem.W.Frag) : Sp := fun vs H Q _ => ∃ (a : Addr) (ns : List Int), vs = [.ref a] ∧ SqL K H a (ns.map V.int) ∧ ns.length ≤ 63 ∧ ∀ H', Q (.bl true) H'
theorem canLay_bools : ∀ ns : List Bool, PyData.canLayAll0 (ns.map PyData.bool) = true
  | [] => rfl
  | n :: ns => by rw [List.map_cons, PyData.canLayAll0, canLay_bools ns]; rfl
theorem sm_bools {ns : List Bool} (h : ns.length ≤ 1000) : Sm 60 1000000 (.list (ns.map PyData.bool)) :=
  (Sm.list (n := 0) (B := 5) (m := 1000) (fun d hd => by obtain ⟨b, _, rfl⟩ := List.mem_map.mp hd; exact Sm.bool b) (by rw [List.length_map]; exact h)).up (by decide) (by decide)
theorem Sm.fits {n : Nat} {B : Nat} {d : PyData} (h : Sm n B d) (hB : B ≤ 16777216) : d.shown.length ≤ sizeLine := by
  rw [sizeLine_eq]
  exact Nat.le_trans h.ln hB
end G

/-! ## G7: {e for x in xs}, e a tuple of ints; the length of such a set -/
namespace G
open PySem PySem.Spec PyProof.Rows L2 PpSet
section
variable {P : Program} {w : World} {A : Around} {E : Value → Shared → Prop} {s : Shared}
/-- set.add of a tuple of ints -/
theorem setT_add {a x : Addr} {L : List (Addr × List Int)} {es : Array (Int × Value)} {ep : Nat} {t : SetTable} {k : List Int} {Q : Value → Shared → Prop} (R : SetTR P w s.heap a L es ep t) (hx : IsT P w s.heap k x) (hu : A.units + 8 < cLine) (few : L.length + 1 < 64)
    (hQ : ∀ h' tk L', Heap.SameBut a s.heap h' → SetT0 P w h' a L' → (k ∈ L.map (·.2) → L' = L) → (k ∉ L.map (·.2) → L'.Perm ((x, k) :: L)) → Q .none { s with heap := h', toks := tk }) :
    wpAny (model P w) A (call (.builtin "set.add") [.ref a, .ref x]) Q E s := by
  obtain ⟨o, ho, hex, hd⟩ := R.ob
  refine wpAny_call_entry F.slot_set_add (⟨o, ho, hex.1⟩ : s.TypeIs (.ref a) "set") F.entry_set_add ?_ (F.args_set_add_2 _ _)
  unfold Builtin.«set.add» Builtin.Frozenset.oneOther
  simp only [List.isEmpty_nil, bind_assoc]
  unfold Builtin.Frozenset.addrOf setAdd
  refine wpAny_bind (wpAny_pure ?_)
  try dsimp only
  refine wpAny_bind (wpAny_pure ?_)
  try dsimp only
  refine wpAny_bind (wpAny_holding ?_)
  refine wpAny_bind (wpAny_pyHash_tuple (by show A.units + 1 < cLine; omega) hx ?_)
  refine add_at (s := { s with toks := s.toks + (k.length + 1) }) R hx (by show A.units + 1 < cLine; omega) few fun b h' L' es' ep' t' sb r c1 c2 => ?_
  show wpAny _ _ (ret Value.none) _ _ _
  exact wpAny_pure ⟨_, rfl, hQ h' _ L' sb r.t0 c1 c2⟩
end
section
variable {X : Cx} {pins : List (Addr × Obj)} {σ : L2.St} {H : Hp} {s : Shared}
theorem setTO_at {D : Addr} {L : List (Addr × List Int)} (I : Inv X pins σ H s) (h : H D = some (SetTO X.prog X.w D L)) : SetT0 X.prog X.w s.heap D L := (I.hok D _ h).1
theorem addT_ok {E : Value → Shared → Prop} {D x : Addr} {L : List (Addr × List Int)} {k : List Int} {Q : Value → Shared → Prop} (I : Inv X pins σ H s) (hD : H D = some (SetTO X.prog X.w D L)) (hL : ∀ p ∈ L, SqT X.K H p.1 (p.2.map V.int)) (hx : SqT X.K H x (k.map V.int))
    (hu : X.A.units + 8 < cLine) (few : L.length + 1 < 64) (h : ∀ s' L', Inv X pins σ (upd H D (SetTO X.prog X.w D L')) s' → (k ∈ L.map (·.2) → L' = L) → (k ∉ L.map (·.2) → L'.Perm ((x, k) :: L)) → Q .none s') :
    wpAny (model X.prog X.w) X.A (call (.builtin "set.add") [.ref D, .ref x]) Q E s := by
  obtain ⟨es, ep, t, R⟩ := (setTO_at I hD).full fun p hp => I.isT (hL p hp)
  refine setT_add R (I.isT hx) hu few fun h' tk L' sb r c1 c2 => ?_
  obtain ⟨es', ep', t', ⟨o, ho, _⟩, _⟩ := r.ex
  exact h _ L' (I.write (e := D) (t' := tk) (by rw [hD]; trivial) (.inl rfl) (fun b u hb hu => (sb.2 b hb).trans hu) ⟨o, ho⟩ (setTO_new r)) c1 c2
/-- len of such a set -/
theorem call_lenT (K : PySem.W.Frag) (h : X.K = K := by rfl) : CallR X (.builtin "len") (fun xs H Q => ∃ (a : Addr) (L : List (Addr × List Int)), xs = [.ref a] ∧ H a = some (SetTO X.prog X.w a L) ∧ (∀ p ∈ L, SqT K H p.1 (p.2.map V.int)) ∧ Q (.int (L.length : Int)) H) := by
  subst h
  intro pins s σ H xs us Q I r h
  obtain ⟨a, L, rfl, hD, hL, q⟩ := h
  obtain ⟨u, rfl, ru⟩ := vals1 r
  cases (show u = Value.ref a from ru)
  obtain ⟨es, ep, t, R⟩ := (setTO_at I hD).full fun p hp => I.isT (hL p hp)
  obtain ⟨o, ho, hex, hd⟩ := R.ob
  have hs := R.size
  have hf := R.few
  refine call_len_set ho hex hd R.fits (by omega) ?_
  rw [hs]
  exact ⟨.int _, H, I.tok _, ⟨_, rfl⟩, q⟩
end
section
variable {X : Cx}
/-- {elt for target in iter if ..}, elt a tuple of ints; D the new set -/
def tScT (P : Program) (K : PySem.W.Frag) (w : World) (wi : TI) (g : TG) (tt : TT) (te : TE) (vs : List Nat) : TE := fun σ H Q => wi σ H fun J H1 => ∀ D, H1 D = none → ∃ W : Nat → Nat → Hp → Prop, (∃ m, W 0 m (upd H1 D (SetTO P w D []))) ∧ ∀ i m H, W i m H →
  (J.stop i H ∧ Q (.ref D) H) ∨ (J.go i H ∧ ∃ Nx : Hp → Prop, (∀ H', Nx H' → ∃ m', m' < m ∧ W (i + 1) m' H') ∧ ∀ x H', J.yld i H x H' → g x (wipe σ vs) H' fun σ2 H2 => wipe σ2 vs = wipe σ vs ∧ tt σ2 H2 fun b H3 =>
    if b = true then te σ2 H3 fun y H4 => ∃ (x : Addr) (k : List Int) (L : List (Addr × List Int)), y = .ref x ∧ SqT K H4 x (k.map V.int) ∧ H4 D = some (SetTO P w D L) ∧ (∀ p ∈ L, SqT K H4 p.1 (p.2.map V.int)) ∧ L.length + 1 < 64 ∧
      ∀ L', (k ∈ L.map (·.2) → L' = L) → (k ∉ L.map (·.2) → L'.Perm ((x, k) :: L)) → Nx (upd H4 D (SetTO P w D L')) else Nx H3)
theorem setT_new0 {P : Program} {w : World} {h : Heap} : SetT0 P w (h.push { cls := .type "set", dict := none, data := .set #[] 0 (.fresh 0 0 (!w.params.followText "set-order")) }) h.objs.size [] := (setTR_fresh (Heap.get?_push_size _ rfl)).t0
theorem scT_core {pins : List (Addr × Obj)} {s : Shared} {σ : L2.St} {H : Hp} {Q : VK} {elt tg iter : Expr} {ifs : List Expr} {scope : Scope} {own : List (PySem.Str × Nat)} {pos pos' : Pos} {wi : TI} {g : TG} {tt : TT} {te : TE} {use : Option (Value → Sem Unit)} {Qf : Value → Shared → Prop}
    (hu : X.A.units + 8 < cLine) (calm : X.calm = true) (nodup : X.N.Nodup) (I : Inv X pins σ H s) (hi : PI X tg iter wi) (ok : BlkOk X.N X.env.scope scope own)
    (hg : ∀ (z : Shared) (H : Hp) (C : Addr) (cl : List (PySem.Str × Addr)) (fp : List Addr), PG (X.blk z H scope (compEnvC scope cl C X.env) fp) tg g) (ht : ∀ (z : Shared) (H : Hp) (C : Addr) (cl : List (PySem.Str × Addr)) (fp : List Addr), PTs (X.blk z H scope (compEnvC scope cl C X.env) fp) ifs tt)
    (he : ∀ (z : Shared) (H : Hp) (C : Addr) (cl : List (PySem.Str × Addr)) (fp : List Addr), PE (X.blk z H scope (compEnvC scope cl C X.env) fp) elt te) (fold : ∀ x, foldedSetIterable iter X.env x = pure x)
    (h : tScT X.prog X.K X.w wi g tt te (own.map (·.2)) σ H Q)
    (after : ∀ D C s' m H', Inv X pins σ H' s' → Q (.ref D) H' → s'.heap.Ns C m → FpOk X pins H' C → compPost (model X.prog X.w) X.A X.xe use Qf (.ref D) C (.ok .next) s') :
    wpAny (model X.prog X.w) X.A (comprehension (.SetComp elt [⟨tg, iter, ifs, 0⟩] scope pos) scope X.env pos' (newSet (.type "set")) false (eval iter X.env) use) Qf X.xe s := by
  have captured : ∀ y ∈ scope.names, y.2 = .free → ∃ c, X.env.cells.lookup y.1 = some c := fun y hy e => by
    rcases ok.free y hy e with q | q
    · exact I.ok.has _ (.inl q)
    · exact I.ok.has _ (.inr q)
  refine wpAny_comprehension_free (use := use) rfl fold (closure_ok captured) ok.kind (fun y hy e => by rw [ok.uniq y hy, e])
    (thn (hi.run pins s σ H _ I h) fun xv r1 hx => thn hx fun itv r2 h2 => ?_)
  obtain ⟨it, fp, tn, J, H2, e, I2, T, st2, f2, q⟩ := h2
  subst e
  refine newSet_ok (newEnv_comp ?_)
  generalize eD : r2.heap.objs.size = D
  have fresh : H2 D = none := I2.hok.fresh (Nat.le_of_eq eD)
  obtain ⟨W, ⟨m0, w0⟩, turn⟩ := q D fresh
  generalize e3 : ({ r2 with heap := r2.heap.push { cls := .type "set", dict := none, data := .set #[] 0 (.fresh 0 0 (!X.w.params.followText "set-order")) } } : Shared) = r3
  have I3 : Inv X pins σ (upd H2 D (SetTO X.prog X.w D [])) r3 := by
    rw [← e3]
    refine I2.laid (t' := r2.toks) (fun b o e => Heap.get?_push_of_some _ e) (Nat.le_of_eq eD) ?_
    rw [← eD]
    exact setTO_new setT_new0
  have hp3 : r3.heap = r2.heap.push { cls := .type "set", dict := none, data := .set #[] 0 (.fresh 0 0 (!X.w.params.followText "set-order")) } := by rw [← e3]
  have below : ∀ b ∈ fp, b < r2.heap.objs.size := fun b hb => by
    obtain ⟨o, e, _⟩ := T.obj _ _ st2 b hb
    exact Heap.lt_size e
  have f3 : ∀ b ∈ fp, FpOk X pins (upd H2 D (SetTO X.prog X.w D [])) b ∧ b < r3.heap.objs.size := fun b hb => by
    have lt := below b hb
    refine ⟨⟨?_, (f2 b hb).2⟩, by rw [hp3, Heap.size_push]; exact Nat.lt_succ_of_lt lt⟩
    rw [upd_ne (by rw [← eD]; exact Nat.ne_of_lt lt)]
    exact (f2 b hb).1
  have st3 : tn 0 r3.heap := T.keep _ _ _ st2 fun b _ o e => by rw [hp3]; exact Heap.get?_push_of_some _ e
  have I4 := block_start I3 ok nodup f3
  have pgo := hg r3 (upd H2 D (SetTO X.prog X.w D [])) r3.heap.objs.size (cellsFrom (r3.heap.objs.size + 1) scope.names (cloFrom X.env.cells scope.names [])) fp
  have pte := ht r3 (upd H2 D (SetTO X.prog X.w D [])) r3.heap.objs.size (cellsFrom (r3.heap.objs.size + 1) scope.names (cloFrom X.env.cells scope.names [])) fp
  have pel := he r3 (upd H2 D (SetTO X.prog X.w D [])) r3.heap.objs.size (cellsFrom (r3.heap.objs.size + 1) scope.names (cloFrom X.env.cells scope.names [])) fp
  show codeAny _ _ (.compStart (.SetComp elt [⟨tg, iter, ifs, 0⟩] scope pos) 0 (.ref it) (.ref D) (compEnvC scope (cellsFrom (r3.heap.objs.size + 1) scope.names (cloFrom X.env.cells scope.names [])) r3.heap.objs.size X.env)) (compPost (model X.prog X.w) X.A X.xe use Qf (.ref D) r3.heap.objs.size) { r3 with heap := pushCells (r3.heap.push { cls := .type "dict", data := .dict #[] }) scope.names }
  have nfp : ∀ b ∈ fp, (upd H2 D (SetTO X.prog X.w D [])) b = none := fun b hb => (f3 b hb).1.1
  generalize ece : compEnvC scope (cellsFrom (r3.heap.objs.size + 1) scope.names (cloFrom X.env.cells scope.names [])) r3.heap.objs.size X.env = ce at I4 pgo pte pel ⊢
  have eL : ce.locals = r3.heap.objs.size := by subst ece; rfl
  generalize eH3 : upd H2 D (SetTO X.prog X.w D []) = H3 at I3 I4 pgo pte pel w0 nfp f3
  generalize e4 : ({ r3 with heap := pushCells (r3.heap.push { cls := .type "dict", data := .dict #[] }) scope.names } : Shared) = r4 at I4 ⊢
  have st4 : tn 0 r4.heap := T.keep _ _ _ st3 fun b _ o e => by rw [← e4]; exact pushCells_keeps _ _ _ _ (Heap.get?_push_of_some _ e)
  have stat : ∀ {σ' : L2.St} {H' : Hp} {s' : Shared}, Inv (X.blk r3 H3 scope ce fp) [] σ' H' s' → (∀ b ∈ fp, H' b = none) → ∀ b ∈ fp, FpOk (X.blk r3 H3 scope ce fp) [] H' b := by
    intro σ' H' s' I' hn b hb
    exact ⟨hn b hb, (I'.ok.exf b hb).1, I'.ok.exfs b hb, .inl hb, fun x c e => (I'.ok.exf b hb).2 x c e, fun p hp => absurd (show p ∈ ([] : List (Addr × Obj)) ++ [] from hp) (by simp)⟩
  have loop : codeAny (model X.prog X.w) X.A (.compLoop (.SetComp elt [⟨tg, iter, ifs, 0⟩] scope pos) 0 (.ref it) (.ref D) ce) (compPost (model X.prog X.w) X.A X.xe use Qf (.ref D) r3.heap.objs.size) r4 := by
    refine compLoopS_any (fun n s' => ∃ i H', Inv (X.blk r3 H3 scope ce fp) [] (wipe σ (own.map (·.2))) H' s' ∧ tn i s'.heap ∧ (∀ b ∈ fp, H' b = none) ∧ W i n H') ?_ m0 ⟨0, H3, I4, st4, nfp, w0⟩
    rintro n r5 ⟨i, H5, I5, st5, n5, w5⟩
    rcases turn i n H5 w5 with ⟨stop, qq⟩ | ⟨go, Nx, hNx, step⟩
    · have td := T.done (X.blk r3 H3 scope ce fp) rfl rfl rfl calm i [] r5 _ H5 (fun _ _ => False) I5 (stat I5 n5) st5 stop
      refine thnF td fun r r6 ⟨hr, I6⟩ => ?_
      subst hr
      have I7 : Inv X pins σ H5 r6 := I3.call' (ch := fp) I6.os I6.base I6.hok I6.bare fun b hb => ⟨(f3 b hb).1.2.2.2.1, (f3 b hb).1.2.1, (f3 b hb).1.2.2.2.2.1, (f3 b hb).1.2.2.2.2.2⟩
      have nC : H5 r3.heap.objs.size = none := by
        have z : H5 ce.locals = none := I6.free
        rwa [eL] at z
      obtain ⟨m, hn, _⟩ := I6.loc
      have hn' : r6.heap.Ns ce.locals m := hn
      rw [eL] at hn'
      exact after D r3.heap.objs.size r6 m H5 I7 qq hn' (I3.fpOk (Nat.le_refl _) nC)
    · have ti := T.item (X.blk r3 H3 scope ce fp) rfl rfl rfl calm i [] r5 _ H5 (fun _ _ => False) I5 (stat I5 n5) st5 go
      refine thnF ti fun r r6 ⟨u, hr, h6⟩ => ?_
      subst hr
      refine thnF h6 fun _ r7 ⟨x, H7, I7, rl7, y7, st7, n7⟩ => ?_
      have I7' := I7.pinned (stat I7 n7) (T.obj _ _ st7)
      refine thnF (pgo.run _ r7 _ H7 x u _ I7' rl7 (step x H7 y7)) fun _ r8 ⟨σ8, H8, I8, hw8, q8⟩ => ?_
      refine thnF (pte.run _ r8 σ8 H8 _ I8 q8) fun b r9 ⟨H9, I9, q9⟩ => ?_
      have fin : ∀ {s' : Shared} {H' : Hp}, Inv (X.blk r3 H3 scope ce fp) ([] ++ pinsAt fp r7.heap) σ8 H' s' → Nx H' → ∃ m, m < n ∧ ∃ i H', Inv (X.blk r3 H3 scope ce fp) [] (wipe σ (own.map (·.2))) H' s' ∧ tn i s'.heap ∧ (∀ b ∈ fp, H' b = none) ∧ W i m H' := by
        intro s' H' I' nx
        obtain ⟨m', hm, w'⟩ := hNx H' nx
        have pin' : ∀ b ∈ fp, ∀ o, r7.heap.get? b = some o → s'.heap.get? b = some o ∧ H' b = none := fun b hb o e =>
          have z := I'.pin (b, o) (List.mem_append_right _ (List.mem_append_right _ (mem_pinsAt hb e)))
          ⟨z.1, z.2.1⟩
        have len : (wipe σ (own.map (·.2))).length = σ8.length := by rw [← hw8, wipe_length]
        refine ⟨m', hm, i + 1, H', (I'.unpinned (pins := [])).weak len (fun j v e => ?_), T.keep _ _ _ st7 fun b hb o e => (pin' b hb o e).1, fun b hb => ?_, w'⟩
        · rw [← hw8] at e
          exact (wipe_some e).1
        · obtain ⟨o, e, _⟩ := T.obj _ _ st7 b hb
          exact (pin' b hb o e).2
      cases b with
      | false =>
        simp only [Bool.false_eq_true, if_false] at q9 ⊢
        exact fin I9 q9
      | true =>
        simp only [if_true] at q9 ⊢
        refine thnF (pel.run _ r9 σ8 H9 _ I9 q9) fun z r10 ⟨yv, H10, I10, rl10, xa, k, L, ey, hx10, hD10, hL10, few, nx⟩ => ?_
        subst ey
        cases (show z = Value.ref xa from rl10)
        exact addT_ok (X := X.blk r3 H3 scope ce fp) I10 hD10 hL10 hx10 hu few fun r11 L' I11 c1 c2 => fin I11 (nx L' c1 c2)
  exact codeAny_compStart_set loop (T.self X.A 0 _ _ _ st4 loop)
theorem pe_scT {elt tg iter : Expr} {ifs : List Expr} {scope : Scope} {own : List (PySem.Str × Nat)} {pos : Pos} {wi : TI} {g : TG} {tt : TT} {te : TE} (hu : X.A.units + 8 < cLine) (calm : X.calm = true) (nodup : X.N.Nodup) (hi : PI X tg iter wi) (ok : BlkOk X.N X.env.scope scope own)
    (hg : ∀ (z : Shared) (H : Hp) (C : Addr) (cl : List (PySem.Str × Addr)) (fp : List Addr), PG (X.blk z H scope (compEnvC scope cl C X.env) fp) tg g) (ht : ∀ (z : Shared) (H : Hp) (C : Addr) (cl : List (PySem.Str × Addr)) (fp : List Addr), PTs (X.blk z H scope (compEnvC scope cl C X.env) fp) ifs tt)
    (he : ∀ (z : Shared) (H : Hp) (C : Addr) (cl : List (PySem.Str × Addr)) (fp : List Addr), PE (X.blk z H scope (compEnvC scope cl C X.env) fp) elt te) (fold : ∀ x, foldedSetIterable iter X.env x = pure x := by intro _; rfl) :
    PE X (.SetComp elt [⟨tg, iter, ifs, 0⟩] scope pos) (tScT X.prog X.K X.w wi g tt te (own.map (·.2))) := by
  refine ⟨fun pins s σ H Q I h => ?_⟩
  rw [eval_SetComp]
  refine scT_core hu calm nodup I hi ok hg ht he fold h fun D C s' m H' I' q hn f => ⟨m, hn, fun h'' sb => ?_⟩
  obtain ⟨f0, f1, f2, f3, f4, f5⟩ := f
  exact ⟨.ref D, H', I'.turned (t' := s'.toks) (fun b o hb e => (sb.2 b hb).trans e) f0 f1 f3 f4 f5, rfl, q⟩
end
end G

/-! ## G8: bounds and bundles: what the predicates say of data -/
namespace G
open PySem PySem.Spec PyProof.Rows L2
def leD : PyData → PyData → Bool
  | .int a, .int b => decide (a ≤ b)
  | _, _ => false
def isBoundD : PyData → Bool
  | .tuple [x, y] => betw x 0 1000000000000000000000000000000 && (betw y 0 1000000000000000000000000000000 && leD x y)
  | _ => false
def areBoundsD : PyData → Bool
  | .list ds => decide (2 ≤ ds.length) && decide (ds.length ≤ 10) && ds.all isBoundD
  | _ => false
def isBundleD (n : Int) : PyData → Bool
  | .tuple [x, y, z] => betw z 1 1000000000000000000 && (betw x 0 (n - 1) && (betw y 0 (n - 1) && ltD x y))
  | _ => false
/-- the first two ints of a tuple -/
def pairOf : PyData → List Int
  | .tuple (.int a :: .int b :: _) => [a, b]
  | _ => []
def areBundlesD (n : Int) : PyData → Bool
  | .list ds => decide (ds.length ≤ 45) && ds.all (isBundleD n) && decide ((ds.map pairOf).Nodup)
  | _ => false
def sp_is_bound (K : PySem.W.Frag) : Sp := fun vs H Q _ => ∃ v d, vs = [v] ∧ Da K H v d ∧ Q (.bl (isBoundD d)) H
def sp_is_bundle (K : PySem.W.Frag) : Sp := fun vs H Q _ => ∃ v d n, vs = [v, .int n] ∧ Da K H v d ∧ Q (.bl (isBundleD n d)) H
def sp_are_bounds (K : PySem.W.Frag) : Sp := fun vs H Q _ => ∃ v d, vs = [v] ∧ Da K H v d ∧ ∀ H', Same H H' → Q (.bl (areBoundsD d)) H'
def sp_are_bundles (K : PySem.W.Frag) : Sp := fun vs H Q _ => ∃ v d n, vs = [v, .int n] ∧ Da K H v d ∧ ∀ H', Same H H' → Q (.bl (areBundlesD n d)) H'
theorem isBoundD_len {ds : List PyData} (h : ds.length ≠ 2) : isBoundD (.tuple ds) = false := by
  match ds, h with
  | [], _ => rfl
  | [_], _ => rfl
  | [_, _], h => exact absurd rfl h
  | _ :: _ :: _ :: _, _ => rfl
theorem isBundleD_len {n : Int} {ds : List PyData} (h : ds.length ≠ 3) : isBundleD n (.tuple ds) = false := by
  match ds, h with
  | [], _ => rfl
  | [_], _ => rfl
  | [_, _], _ => rfl
  | [_, _, _], h => exact absurd rfl h
  | _ :: _ :: _ :: _ :: _, _ => rfl
theorem len_ne {a : Nat} {b : Int} (h : ¬ (a : Int) = b) : (!decide (V.int (a : Int) = V.int b)) = true := by
  rw [decide_eq_false (fun q => h (V.int.inj q))]
  rfl
theorem bundle_shape {n : Int} {d : PyData} (h : isBundleD n d = true) : ∃ a b c : Int, d = .tuple [.int a, .int b, .int c] ∧ 0 ≤ a ∧ a < b ∧ b ≤ n - 1 ∧ 1 ≤ c ∧ c ≤ 1000000000000000000 := by
  match d, h with
  | .tuple [x, y, z], h =>
    simp only [isBundleD, Bool.and_eq_true] at h
    obtain ⟨h1, h2, h3, h4⟩ := h
    obtain ⟨c, rfl⟩ := betw_int h1
    obtain ⟨a, rfl⟩ := betw_int h2
    obtain ⟨b, rfl⟩ := betw_int h3
    simp only [betw, ltD, Bool.and_eq_true, decide_eq_true_eq] at h1 h2 h3 h4
    exact ⟨a, b, c, rfl, h2.1, h4, h3.2, h1.1, h1.2⟩
theorem bound_shape {d : PyData} (h : isBoundD d = true) : ∃ a b : Int, d = .tuple [.int a, .int b] ∧ 0 ≤ a ∧ a ≤ b ∧ b ≤ 1000000000000000000000000000000 := by
  match d, h with
  | .tuple [x, y], h =>
    simp only [isBoundD, Bool.and_eq_true] at h
    obtain ⟨h2, h3, h4⟩ := h
    obtain ⟨a, rfl⟩ := betw_int h2
    obtain ⟨b, rfl⟩ := betw_int h3
    simp only [betw, leD, Bool.and_eq_true, decide_eq_true_eq] at h2 h3 h4
    exact ⟨a, b, rfl, h2.1, h4, h3.2⟩
end G
namespace G
open PySem PySem.Spec PyProof.Rows L2
theorem su {A : Around} {k : Nat} (hr : Room k A) : A.units + 8 < cLine := Nat.lt_of_le_of_lt (Nat.add_le_add_left (by decide : 8 ≤ 64) _) hr.units
/-- a comprehension's set of pairs over a list -/
theorem sc_list {P : Program} {w : World} {K : PySem.W.Frag} {a : Addr} {xs : List V} {g : TG} {tt : TT} {te : TE} {vs : List Nat} {σ : L2.St} {H1 : Hp} {D : Addr} {Qd : Hp → Prop} (Pv : Nat → Hp → Prop) (h0 : Pv 0 (upd H1 D (SetTO P w D []))) (hl : ∀ i H, i ≤ xs.length → Pv i H → SqL K H a xs)
    (hs : ∀ i x H, xs[i]? = some x → Pv i H → g x (wipe σ vs) H fun σ2 H2 => wipe σ2 vs = wipe σ vs ∧ tt σ2 H2 fun b H3 =>
      if b = true then te σ2 H3 fun y H4 => ∃ (x : Addr) (k : List Int) (L : List (Addr × List Int)), y = .ref x ∧ SqT K H4 x (k.map V.int) ∧ H4 D = some (SetTO P w D L) ∧ (∀ p ∈ L, SqT K H4 p.1 (p.2.map V.int)) ∧ L.length + 1 < 64 ∧
        ∀ L', (k ∈ L.map (·.2) → L' = L) → (k ∉ L.map (·.2) → L'.Perm ((x, k) :: L)) → Pv (i + 1) (upd H4 D (SetTO P w D L')) else Pv (i + 1) H3) (hd : ∀ H, Pv xs.length H → Qd H) :
    ∃ W : Nat → Nat → Hp → Prop, (∃ m, W 0 m (upd H1 D (SetTO P w D []))) ∧ ∀ i m H, W i m H →
      ((Itl K a).stop i H ∧ Qd H) ∨ ((Itl K a).go i H ∧ ∃ Nx : Hp → Prop, (∀ H', Nx H' → ∃ m', m' < m ∧ W (i + 1) m' H') ∧ ∀ x H', (Itl K a).yld i H x H' → g x (wipe σ vs) H' fun σ2 H2 => wipe σ2 vs = wipe σ vs ∧ tt σ2 H2 fun b H3 =>
        if b = true then te σ2 H3 fun y H4 => ∃ (x : Addr) (k : List Int) (L : List (Addr × List Int)), y = .ref x ∧ SqT K H4 x (k.map V.int) ∧ H4 D = some (SetTO P w D L) ∧ (∀ p ∈ L, SqT K H4 p.1 (p.2.map V.int)) ∧ L.length + 1 < 64 ∧
          ∀ L', (k ∈ L.map (·.2) → L' = L) → (k ∉ L.map (·.2) → L'.Perm ((x, k) :: L)) → Nx (upd H4 D (SetTO P w D L')) else Nx H3) := by
  refine ⟨fun i m H => m = xs.length - i ∧ i ≤ xs.length ∧ Pv i H, ⟨xs.length, by simp, Nat.zero_le _, h0⟩, ?_⟩
  rintro i m H ⟨rfl, hi, p⟩
  have q := hl i H hi p
  have wk : Walk (Itl K a) xs.length (fun H => SqL K H a xs) (YAt xs) := walk_list
  by_cases hlt : i < xs.length
  · refine Or.inr ⟨wk.goes i H hlt q, Pv (i + 1), fun H' p' => ⟨xs.length - (i + 1), by omega, rfl, hlt, p'⟩, fun x H' y => ?_⟩
    obtain ⟨e, ex⟩ := wk.yields i H x H' hlt q y
    subst e
    exact hs i x H' ex p
  · have e : i = xs.length := by omega
    subst e
    exact Or.inl ⟨wk.stops H q, hd H p⟩
/-- how many of the first i have been met: what the set's size says -/
structure Met (ps : List (List Int)) (i : Nat) (L : List (Addr × List Int)) : Prop where
  le : L.length ≤ i
  iff : L.length = i ↔ (ps.take i).Nodup
  mem : ∀ k, k ∈ L.map (·.2) ↔ k ∈ ps.take i
theorem Met.zero (ps : List (List Int)) : Met ps 0 [] := ⟨Nat.le_refl _, by simp, by simp⟩
theorem Met.step {ps : List (List Int)} {i : Nat} {L L' : List (Addr × List Int)} {x : Addr} {k : List Int} (m : Met ps i L) (hk : ps[i]? = some k) (c1 : k ∈ L.map (·.2) → L' = L) (c2 : k ∉ L.map (·.2) → L'.Perm ((x, k) :: L)) : Met ps (i + 1) L' := by
  have et : ps.take (i + 1) = ps.take i ++ [k] := by rw [List.take_succ, hk]; rfl
  have nd : (ps.take (i + 1)).Nodup ↔ (ps.take i).Nodup ∧ k ∉ ps.take i := by
    rw [et, List.nodup_append]
    constructor
    · rintro ⟨h1, _, h3⟩
      exact ⟨h1, fun hm => h3 k hm k (by simp) rfl⟩
    · rintro ⟨h1, h2⟩
      refine ⟨h1, by simp, fun a ha b hb => ?_⟩
      rw [List.mem_singleton] at hb
      subst hb
      exact fun e => h2 (e ▸ ha)
  have hle := m.le
  rcases Classical.em (k ∈ L.map (·.2)) with h | h
  · rw [c1 h]
    refine ⟨by omega, ?_, fun j => ?_⟩
    · rw [nd]
      constructor
      · intro e
        omega
      · rintro ⟨_, h2⟩
        exact absurd ((m.mem k).mp h) h2
    · rw [m.mem j, et, List.mem_append, List.mem_singleton]
      constructor
      · exact Or.inl
      · rintro (h' | rfl)
        · exact h'
        · exact (m.mem _).mp h
  · have pm := c2 h
    have hl := pm.length_eq
    rw [List.length_cons] at hl
    refine ⟨by omega, ?_, fun j => ?_⟩
    · rw [nd, ← m.iff]
      constructor
      · intro e
        exact ⟨by omega, fun hm => h ((m.mem k).mpr hm)⟩
      · rintro ⟨e, _⟩
        omega
    · rw [(pm.map (·.2)).mem_iff, List.map_cons, List.mem_cons, m.mem j, et, List.mem_append, List.mem_singleton]
      constructor
      · rintro (rfl | h')
        · exact Or.inr rfl
        · exact Or.inl h'
      · rintro (h' | rfl)
        · exact Or.inr h'
        · exact Or.inl rfl
end G
namespace G
open PySem PySem.Spec PyProof.Rows L2
theorem sqt_mut {K : PySem.W.Frag} {H : Hp} {a M : Addr} {xs : List V} {o : HO} {φ : Heap → Prop} (h : SqT K H a xs) (hM : H M = some (.ext φ)) : SqT K (upd H M o) a xs := by
  rcases h with (h | ⟨u, h⟩) | h
  · exact .inl (.inl (by rw [upd_ne (ne_of h hM (by intro z; cases z))]; exact h))
  · exact .inl (.inr ⟨u, by rw [upd_ne (ne_of h hM (by intro z; cases z))]; exact h⟩)
  · exact .inr h
theorem same_mut {H H' : Hp} {M : Addr} {o : HO} (s : Same H H') (h : H M = none) : Same H (upd H' M o) := fun b u e => by
  rw [upd_ne (ne_of_none e h)]
  exact s _ _ e
end G

/-! ## G9: list.count of data; comprehensions whose items are data -/
namespace G
open PySem PySem.Spec PyProof.Rows L2
section
variable {X : Cx}
/-- l.count(x) -/
def rCountD (K : PySem.W.Frag) : V → List V → Hp → VK → Prop := fun x xs H Q => ∃ (a : Addr) (y : V) (d : PyData) (ds : List PyData), x = V.ref a ∧ xs = [y] ∧ Dp K H (V.ref a) (.list ds) ∧ Dp K H y d ∧ SeqAt.shaped (.list ds) = true ∧ SeqAt.shaped d = true ∧
  Q (.int ((ds.countP fun z => PyData.eqv z d : Nat) : Int)) H
theorem kcount (K : PySem.W.Frag) (hu : X.A.units + 65 < cLine) (hK : X.K = K := by rfl) : MtR X "list.count" (rCountD K) := by
  subst hK
  intro pins s σ H x xs v us Q I rx rxs h
  obtain ⟨a, y, d, ds, rfl, rfl, hl, hy, sl, sd, q⟩ := h
  cases rx
  obtain ⟨uy, rfl, ry⟩ := rxs.one
  obtain ⟨bs, r1⟩ := Dp.reads I d y uy hy ry
  have lay : PyData.canLayAll0 ds = true := SeqAt.canLay_of_shaped sl
  cases hl with
  | lst hs ha =>
    obtain ⟨its, rv, ⟨⟨cls, dd, data, sls⟩, n, ho, hc, hdn, hdt⟩, hlen⟩ := I.list hs
    simp only at hc hdt
    subst hc hdt
    obtain ⟨as, h4⟩ := Dp.readsAll I ds _ its ha rv
    have hmap : its.map (SeqAt.readOf s.heap) = ds := SeqAt.readsAll_map ds its as lay h4
    refine call_meets PySem.F.slot_list_count ⟨_, ho, rfl⟩ PySem.F.entry_list_count (PySem.F.args_list_count_2 _ _)
      (SeqAt.list_countAt a its.toArray n dd sls uy (fun u => PyData.eqv (SeqAt.readOf s.heap u) d)) ⟨ho, SeqAt.items_eqAt (vs := its.toArray) (show ReadsAll s.heap its.toArray.toList ds as from h4) r1 lay (SeqAt.canLay_of_shaped sd) (room_in_shaped sd hu), ?_⟩
    have ec : its.toArray.toList.countP (fun u => PyData.eqv (SeqAt.readOf s.heap u) d) = ds.countP fun z => PyData.eqv z d := by
      rw [← hmap, List.countP_map]
      rfl
    rw [ec]
    exact ⟨.int _, H, I.tok _, ⟨_, rfl⟩, q⟩
variable {o e : Expr} {es : List Expr} {to : TE} {t : TA} {name : Str} {apos cpos : Pos} {T id : String} {r : V → List V → Hp → VK → Prop}
/-- a method of a built-in type, the written part a letter -/
theorem kbm (K : PySem.W.Frag) (pa : PlainAttrs T) (slot : Slot T name id) (hty : typeOf (.builtin id) = pure (.type "method_descriptor")) (hm : MtR X id r) (ho : PE X o to) (ha : PA X (e :: es) t)
    (hK : X.K = K := by rfl) (hbase : attributeBase o name X.env (eval o X.env) = eval o X.env := by rfl)
    (hfew : ((backTo cpos (starEach (e :: es) X.env)).all (fun x => !x.1) && (backToKw cpos (keywordEach [] X.env)).all (fun x => x.1.isSome) && decide ((e :: es).length + ([] : List Keyword).length + (if ([] : List Keyword).isEmpty then 0 else 1) < 30)) = true := by rfl)
    (hline : (apos.endLine == cpos.line) = true := by rfl) (hs : starEach (e :: es) X.env = (false, eval e X.env) :: starEach es X.env := by rfl) (hplain : (backTo cpos (starEach es X.env)).any (·.1) = false := by rfl) :
    PE X (.Call (.Attribute o name apos) (e :: es) [] cpos) (tBM K T r to t) := by
  subst hK
  exact pe_bm pa slot hty hm ho ha hbase hfew hline hs hplain
theorem u65 {A : Around} {k : Nat} (hr : Room k A) : A.units + 65 < cLine := by have := hr.un; omega
end
theorem same_hid {H H' : Hp} {D : Addr} (s : Same H H') (h : H D = none) : Same H (hid D H') := fun a o e => by
  rw [hid_ne (ne_of_none e h)]
  exact s _ _ e
/-- a comprehension whose items are data -/
theorem lc_da {K : PySem.W.Frag} {J : It} {n : Nat} {Gd : Hp → Prop} {Y : Nat → Hp → V → Hp → Prop} (w : Walk J n Gd Y) {g : TG} {tt : TT} {te : TE} {vs : List Nat} {σ : L2.St} {H1 : Hp} {D : Addr} {Qd : Hp → Prop} (f : Nat → Option PyData) (hD : H1 D = none) (hz : n ≤ 100000)
    (hG : ∀ H, Same H1 H → Gd H)
    (hs : ∀ i x H H' l, i < n → Same H1 H → H D = some (.lst l) → Y i H x H' → ∀ (R1 : VK) (R0 : Hp → Prop), (∀ y d H4, f i = some d → Same H H4 → Da K (hid D H4) y d → R1 y H4) → (f i = none → ∀ H4, Same H H4 → R0 H4) →
      g x (wipe σ vs) H' fun σ2 H2 => wipe σ2 vs = wipe σ vs ∧ tt σ2 H2 fun b H3 => if b = true then te σ2 H3 R1 else R0 H3)
    (hd : ∀ H us, Same H1 H → H D = some (.lst us) → DaL K (hid D H) us ((List.range n).filterMap f) → Qd H) :
    ∃ W : Nat → Nat → Hp → Prop, (∃ m, W 0 m (upd H1 D (.lst []))) ∧ ∀ i m H, W i m H →
      (J.stop i H ∧ Qd H) ∨ (J.go i H ∧ ∃ Nx : Hp → Prop, (∀ H', Nx H' → ∃ m', m' < m ∧ W (i + 1) m' H') ∧ ∀ x H', J.yld i H x H' → g x (wipe σ vs) H' fun σ2 H2 => wipe σ2 vs = wipe σ vs ∧ tt σ2 H2 fun b H3 =>
        if b = true then te σ2 H3 fun y H4 => ∃ acc, H4 D = some (.lst acc) ∧ acc.length < sizeLine ∧ Nx (upd H4 D (.lst (acc ++ [y]))) else Nx H3) := by
  refine lc_it w (fun i H => Same H1 H ∧ ∃ us, H D = some (.lst us) ∧ DaL K (hid D H) us ((List.range i).filterMap f)) ⟨same_new hD, [], upd_same, .nil⟩ (fun i H _ p => hG H p.1) ?_ (fun H p => ?_)
  · rintro i x H H' hi ⟨s1, us, hus, hda⟩ y
    have hl : us.length ≤ i := by
      rw [hda.len]
      have q : ((List.range i).filterMap f).length ≤ (List.range i).length := List.length_filterMap_le f _
      rw [List.length_range] at q
      exact q
    refine hs i x H H' us hi s1 hus y _ _ (fun y d H4 hf e4 hy => ⟨us, e4 _ _ hus, ?_, ?_, us ++ [y], upd_same, ?_⟩) (fun hf H4 e4 => ⟨s1.trans e4, us, e4 _ _ hus, ?_⟩)
    · rw [sizeLine_eq]
      omega
    · exact same_mut (s1.trans e4) hD
    · rw [hid_upd, List.range_succ, List.filterMap_append]
      have ef : List.filterMap f [i] = [d] := by simp [hf]
      rw [ef]
      exact (hda.mono (hid_same e4)).app (.cons hy .nil)
    · rw [List.range_succ, List.filterMap_append]
      have ef : List.filterMap f [i] = [] := by simp [hf]
      rw [ef, List.append_nil]
      exact hda.mono (hid_same e4)
  · obtain ⟨s1, us, hus, hda⟩ := p
    exact hd H us s1 hus hda
theorem fmD_take (ys : List PyData) : ∀ n, n ≤ ys.length → (List.range n).filterMap (fun i => ys[i]?) = ys.take n
  | 0, _ => by simp
  | n + 1, h => by
    rw [List.range_succ, List.filterMap_append, fmD_take ys n (by omega), List.take_succ]
    have e : ys[n]? = some ys[n] := List.getElem?_eq_getElem (by omega)
    simp [e]
theorem fmD_get (ys : List PyData) : (List.range ys.length).filterMap (fun i => ys[i]?) = ys := by
  rw [fmD_take ys _ (Nat.le_refl _), List.take_length]
/-- xs filtered by place -/
theorem fmD_filter (ys : List PyData) (c : PyData → Bool) : ∀ n, n ≤ ys.length → (List.range n).filterMap (fun i => (ys[i]?).bind fun y => if c y = true then some y else none) = (ys.take n).filter c
  | 0, _ => by simp
  | n + 1, h => by
    rw [List.range_succ, List.filterMap_append, fmD_filter ys c n (by omega), List.take_succ, List.filter_append]
    have e : ys[n]? = some ys[n] := List.getElem?_eq_getElem (by omega)
    congr 1
    cases hc : c ys[n] <;> simp [e, hc]
/-! ### pairs that are met twice -/
def prI (p : List Int) : PyData := .tuple (p.map PyData.int)
theorem eqvAll_ints : ∀ p q : List Int, PyData.eqvAll (p.map PyData.int) (q.map PyData.int) = decide (p = q)
  | [], [] => by simp [PyData.eqvAll]
  | [], _ :: _ => by simp [PyData.eqvAll]
  | _ :: _, [] => by simp [PyData.eqvAll]
  | a :: p, b :: q => by
    rw [List.map_cons, List.map_cons, PyData.eqvAll, eqvAll_ints p q, PyData.eqv]
    by_cases h : a = b
    · subst h; simp
    · simp [h]
theorem eqv_prI (p q : List Int) : PyData.eqv (prI p) (prI q) = decide (p = q) := by
  show PyData.eqv (.tuple _) (.tuple _) = _
  rw [PyData.eqv, eqvAll_ints]
theorem count_prI (ps : List (List Int)) (q : List Int) : (ps.map prI).countP (fun z => PyData.eqv z (prI q)) = ps.count q := by
  rw [List.countP_map, List.count]
  congr 1
  funext p
  show PyData.eqv (prI p) (prI q) = (p == q)
  rw [eqv_prI]
  rw [Bool.eq_iff_iff]
  simp
theorem nodup_count : ∀ ps : List (List Int), ps.Nodup ↔ ∀ p ∈ ps, ps.count p ≤ 1
  | [] => by simp
  | a :: ps => by
    rw [List.nodup_cons, nodup_count ps]
    constructor
    · rintro ⟨h1, h2⟩ p hp
      rw [List.count_cons]
      rcases List.mem_cons.mp hp with rfl | hp
      · rw [List.count_eq_zero_of_not_mem h1]
        simp
      · have := h2 p hp
        have ne : ¬ (a == p) = true := fun e => h1 (by rw [eq_of_beq e]; exact hp)
        rw [if_neg ne]
        omega
    · intro h
      refine ⟨fun hm => ?_, fun p hp => ?_⟩
      · have q := h a List.mem_cons_self
        rw [List.count_cons_self] at q
        have := List.count_pos_iff.mpr hm
        omega
      · have q := h p (List.mem_cons_of_mem _ hp)
        have : ps.count p ≤ (a :: ps).count p := List.count_le_count_cons
        omega
theorem twice_nil (ps : List (List Int)) : (ps.filter fun p => decide (((ps.count p : Nat) : Int) > 1)).isEmpty = decide ps.Nodup := by
  rw [Bool.eq_iff_iff, List.isEmpty_iff, List.filter_eq_nil_iff, decide_eq_true_eq, nodup_count]
  constructor
  · intro h p hp
    have := h p hp
    simp only [decide_eq_true_eq] at this
    omega
  · intro h p hp
    have := h p hp
    simp only [decide_eq_true_eq]
    omega
end G
namespace G
open PySem PySem.Spec PyProof.Rows L2
theorem lay_pr (p : List Int) : (prI p).canLay0 = true := by
  show PyData.canLay0 (.tuple _) = true
  rw [PyData.canLay0]
  exact canLay_ints p
theorem lay_prs : ∀ ps : List (List Int), PyData.canLayAll0 (ps.map prI) = true
  | [] => rfl
  | p :: ps => by rw [List.map_cons, PyData.canLayAll0, lay_pr, lay_prs ps]; rfl
theorem depth_pr (p : List Int) : (prI p).depth = 1 := by
  show PyData.depth (.tuple _) = 1
  rw [PyData.depth, depth_ints]
theorem depth_prs : ∀ ps : List (List Int), PyData.depthAll (ps.map prI) ≤ 1
  | [] => by simp [PyData.depthAll]
  | p :: ps => by
    have h1 := depth_prs ps
    have h2 := depth_pr p
    simp only [List.map_cons, PyData.depthAll]
    omega
theorem shaped_pr (p : List Int) : SeqAt.shaped (prI p) = true := by
  unfold SeqAt.shaped
  rw [lay_pr, depth_pr]
  rfl
theorem shaped_prs (ps : List (List Int)) : SeqAt.shaped (.list (ps.map prI)) = true := by
  have h := depth_prs ps
  unfold SeqAt.shaped
  rw [PyData.canLay0, lay_prs, PyData.depth, Bool.true_and]
  exact decide_eq_true (by omega)
theorem eqv_nilP (ps : List (List Int)) : PyData.eqv (.list (ps.map prI)) (.list []) = ps.isEmpty := by
  cases ps <;> simp [PyData.eqv, PyData.eqvAll]
end G

/-! ## G10: t[::-1] of a tuple; rows of ints -/
namespace G
open PySem PySem.Spec PyProof.Rows L2
section
variable {prog : Program} {w : World} {A : Around} {E : Value → Shared → Prop} {s : Shared}
theorem adjust_rev (n : Nat) : Builtin.Slice.sliceAdjust none none (-1) (n : Int) = ((n : Int) - 1, -1) := by
  first
    | rfl
    | simp [Builtin.Slice.sliceAdjust]
theorem places_rev (n : Nat) : Builtin.Slice.slicePlaces ((n : Int) - 1) (-1) (-1) = n := by
  unfold Builtin.Slice.slicePlaces
  by_cases h : n = 0
  · subst h; decide
  · have e : ((n : Int) - 1 - -1 - 1) / (- -1) + 1 = (n : Int) := by
      rw [show (- -1 : Int) = 1 by decide, Int.ediv_one]
      omega
    simp
    omega
theorem fm_congr {α β : Type} {f g : α → Option β} : ∀ {l : List α}, (∀ m ∈ l, f m = g m) → l.filterMap f = l.filterMap g
  | [], _ => rfl
  | a :: l, h => by
    rw [List.filterMap_cons, List.filterMap_cons, h a List.mem_cons_self, fm_congr fun m hm => h m (List.mem_cons_of_mem _ hm)]
theorem pick_rev (xs : Array Value) : ((List.range xs.size).filterMap fun (m : Nat) => xs[((xs.size : Int) - 1 + (m : Int) * -1).toNat]?).toArray = xs.toList.reverse.toArray := by
  have e : (List.range xs.size).filterMap (fun (m : Nat) => xs[((xs.size : Int) - 1 + (m : Int) * -1).toNat]?) = ((List.range xs.size).map fun k => xs.size - 1 - k).filterMap (xs[·]?) := by
    rw [List.filterMap_map]
    refine fm_congr fun m hm => ?_
    have := List.mem_range.mp hm
    show _ = xs[xs.size - 1 - m]?
    rw [show ((xs.size : Int) - 1 + (m : Int) * -1).toNat = xs.size - 1 - m by omega]
  rw [e, PySem.W.krv_range, List.filterMap_reverse, PySem.W.krv_all]
theorem applied_rev {sl : Addr} {vl vu vs : Value} {n : Nat} {Q : Int × Int × Nat → Shared → Prop} (hs : s.heap.IsSliceOf sl vl vu vs) (pl : IsPart vl none) (pu : IsPart vu none) (ps : IsPart vs (some (-1)))
    (h : Q ((n : Int) - 1, -1, n) s) : wpAny (model prog w) A (Builtin.Slice.sliceApplied (.ref sl) (pure (n : Int))) Q E s := by
  obtain ⟨os, hos, hcs, hds⟩ := id hs
  unfold Builtin.Slice.sliceApplied Builtin.Slice.sliceFields
  refine wpAny_bind (wpAny_bind (wpAny_field hos hds (x := vl) rfl (wpAny_bind (wpAny_field hos hds (x := vu) rfl (wpAny_bind (wpAny_field hos hds (x := vs) rfl (wpAny_pure ?_)))))))
  refine wpAny_bind (HT.slicePart_ ps ?_)
  show wpAny _ _ (if ((-1 : Int) == 0) = true then _ else _) _ _ s
  rw [if_neg (by decide)]
  refine wpAny_bind (HT.slicePart_ pl (wpAny_bind (HT.slicePart_ pu (wpAny_bind (wpAny_pure ?_)))))
  show wpAny _ _ (match Builtin.Slice.sliceAdjust none none (-1) (n : Int) with | (lo, hi) => pure (lo, (-1 : Int), Builtin.Slice.slicePlaces lo hi (-1))) _ _ s
  rw [adjust_rev]
  show wpAny _ _ (pure ((n : Int) - 1, (-1 : Int), Builtin.Slice.slicePlaces ((n : Int) - 1) (-1) (-1))) _ _ s
  rw [places_rev]
  exact wpAny_pure h
theorem getItem_tuple_rev {t sl : Addr} {items : Array Value} {vl vu vs : Value} {Q : Value → Shared → Prop} (ht : IsTup s.heap t items) (hs : s.heap.IsSliceOf sl vl vu vs) (pl : IsPart vl none) (pu : IsPart vu none) (ps : IsPart vs (some (-1)))
    (h : Q (.ref s.heap.objs.size) { s with heap := s.heap.push { cls := .type "tuple", data := .seq items.toList.reverse.toArray } }) (hsz : items.size ≤ sizeLine) : wpAny (model prog w) A (getItem (.ref t) (.ref sl)) Q E s := by
  have fits : sizeOk (.seq items.toList.reverse.toArray) := by
    show items.toList.reverse.toArray.size ≤ sizeLine
    rw [List.size_toArray, List.length_reverse, Array.length_toList]
    exact hsz
  obtain ⟨os, hos, hcs, hds⟩ := id hs
  have hTs : s.TypeIs (.ref sl) "slice" := ⟨os, hos, hcs⟩
  unfold getItem
  try with_reducible refine wpAny_holding ?_
  first | refine wpAny_bind (wpAny_pure ?_) | skip
  refine wpAny_bind (wpAny_sequenceKey ht.typeIs (by decide) ?_)
  refine wpAny_bind (wpAny_callSpecial?_slot (name := Str.ofString "__getitem__") ht.typeIs PyProof.Rows.slot_tuple_getitem
    (wpAny_call_entry PyProof.Rows.slot_tuple_getitem ht.typeIs entry_tuple_getitem ?_ (args_tuple_getitem _ _)))
  show wpAny _ _ (Builtin.Tuple.tupleItemsOf (.ref t) >>= _) _ _ s
  refine wpAny_bind (tupleItemsOf_ ht ?_)
  refine wpAny_bind (wpAny_typeOf hTs ?_)
  rw [if_pos (by decide)]
  refine wpAny_bind (applied_rev hs pl pu ps ?_)
  show wpAny _ _ (if (((items.size : Int) - 1) == 0 && (-1 : Int) == 1 && items.size == items.size) = true then _ else _) _ _ s
  rw [if_neg (by simp), pick_rev]
  first
    | exact wpAny_bind (m := Builtin.Tuple.tupleExact _) (wpAny_newObj_type (wpAny_pure ⟨_, rfl, wpAny_pure h⟩) fits)
    | exact wpAny_bind (m := Builtin.Tuple.tupleExact _) (wpAny_newObj_type (wpAny_bind (wpAny_pure (wpAny_pure ⟨_, rfl, wpAny_pure h⟩))) fits)
    | exact wpAny_bind (wpAny_bind (m := Builtin.Tuple.tupleExact _) (wpAny_newObj_type (wpAny_pure (wpAny_pure ⟨_, rfl, wpAny_pure h⟩)) fits))
    | exact wpAny_bind (wpAny_bind (m := Builtin.Tuple.tupleExact _) (wpAny_newObj_type (wpAny_pure ⟨_, rfl, wpAny_pure h⟩) fits))
end
section
variable {X : Cx}
/-- t[::-1] -/
def tRevT (K : PySem.W.Frag) (te : TE) : TE := fun σ H Q => te σ H fun x H1 => ∃ a xs, x = .ref a ∧ SqT K H1 a xs ∧ ∀ p, H1 p = none → Q (.ref p) (upd H1 p (.tup xs.reverse))
theorem pe_revT {e : Expr} {te : TE} {k : Nat} {p1 p2 p3 pos : Pos} (he : PE X e te) : PE X (.Subscript e (.Slice none none (some (.UnaryOp .USub (.Constant (.int 1) k p1) p2)) p3) pos) (tRevT X.K te) := by
  refine ⟨fun pins s σ H Q I h => ?_⟩
  refine Subscript_ (thn (he.run pins s σ H _ I h) fun v s1 hv => ?_)
  obtain ⟨x, H1, I1, r1, a, xs, ex, hx, q⟩ := hv
  subst ex
  cases r1
  have step : PO X (some (.UnaryOp .USub (.Constant (.int 1) k p1) p2)) (tPart (tUn (rU fun i => .int (-i)) (tC (.int 1)))) := po_some (pe_un un_neg pe_int)
  refine wpAny_Slice (thn (po_none.run pins s1 σ H1 (fun o H2 => o = none ∧ H2 = H1) I1 ⟨rfl, rfl⟩) fun vl s2 hl => ?_)
  obtain ⟨l, H2, I2, pl, el, e2⟩ := hl
  subst el e2
  refine thn (po_none.run pins s2 σ H2 (fun o H3 => o = none ∧ H3 = H2) I2 ⟨rfl, rfl⟩) fun vu s3 hu => ?_
  obtain ⟨u, H3, I3, pu, eu, e3⟩ := hu
  subst eu e3
  refine thn (step.run pins s3 σ H3 (fun o H4 => o = some (-1) ∧ H4 = H3) I3 ⟨1, rfl, -1, rfl, rfl, rfl⟩) fun vs s4 hs => ?_
  obtain ⟨o, H4, I4, ps, eo, e4⟩ := hs
  subst eo e4
  have I5 : Inv X pins σ H4 { s4 with heap := s4.heap.push { cls := .type "slice", data := .fields #[vl, vu, vs] } } := I4.kept (t' := s4.toks) fun b ob q => Heap.get?_push_of_some _ q
  obtain ⟨its, r, ht, hz⟩ := I5.tuple hx
  have hlen := r.length
  show wpAny (model X.prog X.w) X.A (subscriptTail e (.Slice none none (some (.UnaryOp .USub (.Constant (.int 1) k p1) p2)) p3) (.ref a) (.ref s4.heap.objs.size)) (EP X pins σ Q) X.xe { s4 with heap := s4.heap.push { cls := .type "slice", data := .fields #[vl, vu, vs] } }
  refine tail_any (ops := [.ref a, .ref s4.heap.objs.size]) ht.typeIs (PyProof.Rows.slot_tuple_getitem.lookup) ?_ (by with_unfolding_all rfl)
  refine getItem_tuple_rev ht (Heap.IsSliceOf.new _ vl vu vs) pl pu ps ?_ (by rw [List.size_toArray]; omega)
  refine ⟨.ref _, _, I5.laid (t' := s4.toks) (o := .tup xs.reverse) (fun b ob q => Heap.get?_push_of_some _ q) (Nat.le_refl _) ?_, rfl, q _ (I5.hok.fresh (Nat.le_refl _))⟩
  exact ⟨by rw [List.length_reverse]; exact hz, its.reverse, r.reverse, (IsTup.new _ _ : IsTup _ _ its.toArray.toList.reverse.toArray)⟩
theorem krevT (K : PySem.W.Frag) {e : Expr} {te : TE} {k : Nat} {p1 p2 p3 pos : Pos} (he : PE X e te) (hK : X.K = K := by rfl) : PE X (.Subscript e (.Slice none none (some (.UnaryOp .USub (.Constant (.int 1) k p1) p2)) p3) pos) (tRevT K te) := by
  subst hK
  exact pe_revT he
theorem kcatT (K : PySem.W.Frag) (hK : X.K = K := by rfl) : OpR X (binaryOp .Add) (rCatA K) := by subst hK; exact op_catA
end
end G
namespace G
open PySem PySem.Spec PyProof.Rows L2
/-- at most 100 rows of one to three ints -/
def RowsOk (ps : List (List Int)) : Prop := ps.length ≤ 100 ∧ ∀ p ∈ ps, 1 ≤ p.length ∧ p.length ≤ 3 ∧ ∀ z ∈ p, z.natAbs < 10 ^ 45
theorem Go.sm2 {b L : Addr} {H H' : Hp} (g : Go b H H') : Same (hid L (hid b H)) (hid L (hid b H')) := hid_same g.sm
theorem hid2_upd {b L : Addr} {H : Hp} {o : HO} (n : L ≠ b) : hid L (hid b (upd H L o)) = hid L (hid b H) := by
  funext a
  by_cases h : a = L
  · subst h; rw [hid_at, hid_at]
  · rw [hid_ne h, hid_ne h]
    by_cases hb : a = b
    · subst hb; rw [hid_at, hid_at]
    · rw [hid_ne hb, hid_ne hb, upd_ne h]
theorem hid2_le {b L : Addr} {H : Hp} : Same (hid L (hid b H)) (hid b H) := hid_le
theorem da_newT2 {K : PySem.W.Frag} {b L p : Addr} {H : Hp} {o : HO} {vs : List V} {ds : List PyData} (hb : BagOk b H) (hL : H L = some o) (h : DaL K (hid L (hid b H)) vs ds) (hp : H p = none) : Da K (hid L (hid b (upd H p (.tup vs)))) (.ref p) (.tuple ds) := by
  refine .tup (.inl (.inl ?_)) (h.mono (hid_same (hid_same (same_new hp))))
  rw [hid_ne (ne_of_none hL hp).symm, hid_ne (hb.ne hp)]
  exact upd_same
/-- a new list of rows -/
def sp_rows (K : PySem.W.Frag) (b : Addr) (H : Hp) (Q : VK) : Prop := ∀ (a : Addr) (us : List V) (ps : List (List Int)) (H' : Hp), Go b H H' → a ≠ b → H' a = some (.lst us) → DaL K (hid b H') us (ps.map prI) → RowsOk ps → Q (.ref a) H'
def sp_some_bounds (K : PySem.W.Frag) : Sp := fun vs H Q _ => ∃ b, vs = [.ref b] ∧ BagOk b H ∧ sp_rows K b H Q
def sp_some_bundles (K : PySem.W.Frag) : Sp := fun vs H Q _ => ∃ b n, vs = [.ref b, .int n] ∧ BagOk b H ∧ 2 ≤ n ∧ n ≤ 10 ∧ sp_rows K b H Q
theorem c45 : 10 ^ 45 = 1000000000000000000000000000000000000000000000 := by decide
theorem RowsOk.snoc {ps : List (List Int)} {p : List Int} {n : Nat} (h : RowsOk ps) (hl : ps.length ≤ n) (hn : n < 100) (h1 : 1 ≤ p.length) (h2 : p.length ≤ 3) (h3 : ∀ z ∈ p, z.natAbs < 10 ^ 45) : RowsOk (ps ++ [p]) := by
  refine ⟨by rw [List.length_append, List.length_singleton]; omega, fun q hq => ?_⟩
  rcases List.mem_append.mp hq with hq | hq
  · exact h.2 q hq
  · rw [List.mem_singleton.mp hq]
    exact ⟨h1, h2, h3⟩
theorem RowsOk.nil : RowsOk [] := ⟨by decide, fun p hp => nomatch hp⟩
theorem RowsOk.rev {ps : List (List Int)} (h : RowsOk ps) : RowsOk ps.reverse := ⟨by rw [List.length_reverse]; exact h.1, fun p hp => h.2 p (List.mem_reverse.mp hp)⟩
end G

/-! ## G11: operations on data, where a bag stands at b -/
namespace G
open PySem PySem.Spec PyProof.Rows L2
section
variable {X : Cx}
/-- xs + ys -/
def rCatL (K : PySem.W.Frag) : R2 := fun x y H Q => ∃ l c xs zs, x = .ref l ∧ y = .ref c ∧ SqL K H l xs ∧ SqL K H c zs ∧ xs.length + zs.length ≤ sizeLine ∧ ∀ p, H p = none → Q (.ref p) (upd H p (.lst (xs ++ zs)))
theorem kcatL (K : PySem.W.Frag) (hK : X.K = K := by rfl) : OpR X (binaryOp .Add) (rCatL K) := by
  subst hK
  intro pins s σ H x y v u Q I rx ry h
  obtain ⟨l, c, xs, zs, rfl, rfl, hl, hc, hz, q⟩ := h
  cases rx
  cases ry
  obtain ⟨its, r1, ⟨⟨cls, dd, data, sl⟩, n, ho, k1, k2, k3⟩, _⟩ := I.list hl
  obtain ⟨its2, r2, ⟨⟨cls2, dd2, data2, sl2⟩, n2, ho2, k12, k22, k32⟩, _⟩ := I.list hc
  simp only at k1 k3 k12 k32
  subst k1 k3 k12 k32
  have e1 := r1.length
  have e2 := r2.length
  refine concat_meets ⟨_, ho, rfl⟩ ⟨_, ho2, rfl⟩ noFill_list_add seq_list_add PySem.F.slot_list_add PySem.F.entry_list_add (PySem.F.args_list_add_2 _ _) (list_addW l c its.toArray its2.toArray n n2 dd dd2 sl sl2 (by rw [List.size_toArray, List.size_toArray]; omega)) ⟨ho, ho2, ?_⟩
  have ea : its.toArray ++ its2.toArray = (its ++ its2).toArray := by simp
  rw [ea]
  exact ⟨.ref _, _, I.lnew (t' := s.toks) (r1.append r2) (by rw [List.length_append]; omega), rfl, q _ I.fresh⟩
end
section
variable {K : PySem.W.Frag} {b : Addr} {H : Hp} {x y : V} {dx dy : List PyData} {Q : VK}
theorem da_list {G : Hp} (h : Da K G x (.list dx)) : ∃ a us, x = .ref a ∧ SqL K G a us ∧ DaL K G us dx := by
  cases h with
  | lst a b => exact ⟨_, _, rfl, a, b⟩
theorem da_tup {G : Hp} (h : Da K G x (.tuple dx)) : ∃ a us, x = .ref a ∧ SqT K G a us ∧ DaL K G us dx := by
  cases h with
  | tup a b => exact ⟨_, _, rfl, a, b⟩
/-- a new list from such values -/
theorem newL_da (hb : BagOk b H) {us : List V} (h : DaL K (hid b H) us dx) (k : ∀ v H', Go b H H' → Da K (hid b H') v (.list dx) → Q v H') : ∀ p, H p = none → Q (.ref p) (upd H p (.lst us)) := fun p hp => k _ _ (Go.of hb (same_new hp)) (da_newL hb h hp)
theorem newT_da (hb : BagOk b H) {us : List V} (h : DaL K (hid b H) us dx) (k : ∀ v H', Go b H H' → Da K (hid b H') v (.tuple dx) → Q v H') : ∀ p, H p = none → Q (.ref p) (upd H p (.tup us)) := fun p hp => k _ _ (Go.of hb (same_new hp)) (da_newT hb h hp)
theorem catL_da (hb : BagOk b H) (h1 : Da K (hid b H) x (.list dx)) (h2 : Da K (hid b H) y (.list dy)) (hz : dx.length + dy.length ≤ 100000) (k : ∀ v H', Go b H H' → Da K (hid b H') v (.list (dx ++ dy)) → Q v H') : rCatL K x y H Q := by
  obtain ⟨a, us, rfl, s1, d1⟩ := da_list h1
  obtain ⟨c, ws, rfl, s2, d2⟩ := da_list h2
  exact ⟨a, c, us, ws, rfl, rfl, sql_up hid_le s1, sql_up hid_le s2, sz60 (by rw [d1.len, d2.len]; exact hz), newL_da hb (d1.app d2) k⟩
theorem catT_da (hb : BagOk b H) (h1 : Da K (hid b H) x (.tuple dx)) (h2 : Da K (hid b H) y (.tuple dy)) (hz : dx.length + dy.length ≤ 100000) (k : ∀ v H', Go b H H' → Da K (hid b H') v (.tuple (dx ++ dy)) → Q v H') : rCatA K x y H Q := by
  obtain ⟨a, us, rfl, s1, d1⟩ := da_tup h1
  obtain ⟨c, ws, rfl, s2, d2⟩ := da_tup h2
  refine ⟨a, c, us, ws, rfl, rfl, sqt_up hid_le s1, sqt_up hid_le s2, sz60 (by rw [d1.len, d2.len]; exact hz), fun e => ?_, fun _ e => ?_, fun _ _ => newT_da hb (d1.app d2) k⟩
  · subst e
    cases d1
    exact k _ H (Go.refl hb) h2
  · subst e
    cases d2
    rw [List.append_nil] at k
    exact k _ H (Go.refl hb) h1
theorem cut_da {G : Hp} {us : List V} (h : DaL K G us dx) (lo hi : Option Int) : ∃ n m, DaL K G (cutV us lo hi) ((dx.drop n).take m) := ⟨_, _, (h.drop _).take _⟩
theorem slL_da {lo hi : Option Int} (hb : BagOk b H) (h1 : Da K (hid b H) x (.list dx)) (k : ∀ v H' n m, Go b H H' → Da K (hid b H') v (.list ((dx.drop n).take m)) → Q v H') : rSlL K x lo hi H Q := by
  obtain ⟨a, us, rfl, s1, d1⟩ := da_list h1
  obtain ⟨n, m, dc⟩ := cut_da d1 lo hi
  exact ⟨a, us, rfl, sql_up hid_le s1, newL_da hb dc fun v H' g d => k v H' n m g d⟩
theorem slT_da {lo hi : Option Int} (hb : BagOk b H) (h1 : Da K (hid b H) x (.tuple dx)) (k : ∀ v H' n m, Go b H H' → Da K (hid b H') v (.tuple ((dx.drop n).take m)) → Q v H') : rSlA K x lo hi H Q := by
  obtain ⟨a, us, rfl, s1, d1⟩ := da_tup h1
  obtain ⟨n, m, dc⟩ := cut_da d1 lo hi
  refine ⟨a, us, rfl, sqt_up hid_le s1, fun _ => k _ H 0 dx.length (Go.refl hb) ?_, fun _ => newT_da hb dc fun v H' g d => k v H' n m g d⟩
  rw [List.drop_zero, List.take_length]
  exact h1
/-- l[v] -/
theorem ixL_da {v : Int} (h1 : Da K (hid b H) x (.list dx)) (h0 : 0 ≤ v) (hv : v < (dx.length : Int)) (k : ∀ u d, d ∈ dx → dx[v.toNat]? = some d → Da K (hid b H) u d → Q u H) : rIxL K x (.int v) H Q := by
  obtain ⟨a, us, rfl, s1, d1⟩ := da_list h1
  obtain ⟨u, d, e, hm, hd, hu⟩ := d1.pick h0 hv
  exact ⟨a, us, v, u, rfl, rfl, sql_up hid_le s1, e, k u d hm hd hu⟩
theorem ixT_da {v : Int} (h1 : Da K (hid b H) x (.tuple dx)) (h0 : 0 ≤ v) (hv : v < (dx.length : Int)) (k : ∀ u d, d ∈ dx → dx[v.toNat]? = some d → Da K (hid b H) u d → Q u H) : rIxT K x (.int v) H Q := by
  obtain ⟨a, us, rfl, s1, d1⟩ := da_tup h1
  obtain ⟨u, d, e, hm, hd, hu⟩ := d1.pick h0 hv
  exact ⟨a, us, v, u, rfl, rfl, sqt_up hid_le s1, e, k u d hm hd hu⟩
theorem lastT_da (h1 : Da K (hid b H) x (.tuple dx)) (hne : dx ≠ []) (k : ∀ u d, d ∈ dx → Da K (hid b H) u d → Q u H) : rIxT K x (.int (-1)) H Q := by
  obtain ⟨a, us, rfl, s1, d1⟩ := da_tup h1
  have hl := d1.len
  have hpos : 0 < dx.length := List.length_pos_iff.mpr hne
  obtain ⟨u, e, hu⟩ := d1.get (i := dx.length - 1) (List.getElem?_eq_getElem (by omega))
  refine ⟨a, us, -1, u, rfl, rfl, sqt_up hid_le s1, ?_, k u _ (List.getElem_mem _) hu⟩
  unfold atI ixN
  rw [if_neg (by decide), if_pos (by omega)]
  show us[((-1 : Int) + (us.length : Int)).toNat]? = some u
  rw [show ((-1 : Int) + (us.length : Int)).toNat = dx.length - 1 by omega]
  exact e
end
/-- sizes of texts of a list with one greater item -/
theorem sm_app {n A B C : Nat} {as bs : List PyData} {x : PyData} (ha : ∀ d ∈ as, Sm n A d) (hb : ∀ d ∈ bs, Sm n A d) (hx : Sm n C x) (hl : as.length + bs.length ≤ B) : Sm (n + 1) ((A + 2) * B + C + 5) (.list (as ++ [x] ++ bs)) := by
  obtain ⟨a1, a2, a3, a4⟩ := sm_all ha
  obtain ⟨b1, b2, b3, b4⟩ := sm_all hb
  obtain ⟨c1, c2, c3⟩ := hx
  have sapp : ∀ xs ys : List PyData, PyData.shownAll (xs ++ ys) = PyData.shownAll xs ++ PyData.shownAll ys := by
    intro xs ys
    induction xs with
    | nil => rfl
    | cons z xs ih => rw [List.cons_append, PyData.shownAll, PyData.shownAll, ih]; rfl
  have happ : ∀ xs ys : List PyData, PyData.showableAll (xs ++ ys) = (PyData.showableAll xs && PyData.showableAll ys) := by
    intro xs ys
    induction xs with
    | nil => simp [PyData.showableAll]
    | cons z xs ih => rw [List.cons_append, PyData.showableAll, PyData.showableAll, ih, Bool.and_assoc]
  have dapp : ∀ xs ys : List PyData, PyData.depthAll (xs ++ ys) = max (PyData.depthAll xs) (PyData.depthAll ys) := by
    intro xs ys
    induction xs with
    | nil => simp [PyData.depthAll]
    | cons z xs ih => rw [List.cons_append, PyData.depthAll, PyData.depthAll, ih, Nat.max_assoc]
  refine ⟨?_, ?_, ?_⟩
  · simp only [PyData.showable, happ, a1, b1, c1, PyData.showableAll, Bool.and_self]
  · simp only [PyData.depth, dapp, PyData.depthAll]
    omega
  · simp only [PyData.shown]
    have q := listText_len_le (PyData.shownAll (as ++ [x] ++ bs))
    rw [sapp, sapp] at q
    simp only [List.map_append, List.sum_append, List.length_append, PyData.shownAll, List.map_cons, List.map_nil, List.sum_cons, List.sum_nil, List.length_cons, List.length_nil, a4, b4] at q
    have m1 : A * as.length + A * bs.length ≤ A * B := by rw [← Nat.mul_add]; exact Nat.mul_le_mul_left _ hl
    have m2 : (A + 2) * B = A * B + 2 * B := Nat.add_mul _ _ _
    rw [sapp, sapp]
    simp only [PyData.shownAll]
    omega
theorem sm_prI {p : List Int} (h : p.length ≤ 3) (hz : ∀ z ∈ p, z.natAbs < 10 ^ 45) : Sm 1 147 (prI p) := Sm.tuple (n := 0) (B := 46) (m := 3) (fun d hd => by obtain ⟨z, h1, rfl⟩ := List.mem_map.mp hd; exact Sm.int (hz z h1)) (by rw [List.length_map]; exact h)
theorem RowsOk.sm {ps : List (List Int)} (h : RowsOk ps) : ∀ d ∈ ps.map prI, Sm 1 147 d := fun d hd => by
  obtain ⟨p, hp, rfl⟩ := List.mem_map.mp hd
  exact sm_prI (h.2 p hp).2.1 (h.2 p hp).2.2
theorem RowsOk.cut {ps : List (List Int)} (h : RowsOk ps) (n m : Nat) : RowsOk ((ps.drop n).take m) := ⟨by have := h.1; rw [List.length_take, List.length_drop]; omega, fun p hp => h.2 p (List.mem_of_mem_drop (List.mem_of_mem_take hp))⟩
theorem map_cut {α β : Type} (f : α → β) (ps : List α) (n m : Nat) : ((ps.map f).drop n).take m = ((ps.drop n).take m).map f := by rw [← List.map_drop, ← List.map_take]
end G
namespace G
open PySem PySem.Spec PyProof.Rows L2
def sp_bent (K : PySem.W.Frag) : Sp := fun vs H Q _ => ∃ b x ps, vs = [.ref b, x] ∧ BagOk b H ∧ Da K (hid b H) x (.list (ps.map prI)) ∧ RowsOk ps ∧ ∀ v d H', Go b H H' → Da K (hid b H') v d → Sm 7 4000000 d → Q v H'
end G
namespace G
open PySem PySem.Spec PyProof.Rows L2
theorem noPart {σ : L2.St} {H : Hp} {Q : Option Int → Hp → Prop} (h : Q none H) : tNoPart σ H Q := h
theorem cut_sm {n B : Nat} {ds : List PyData} (h : ∀ d ∈ ds, Sm n B d) (i j : Nat) : ∀ d ∈ (ds.drop i).take j, Sm n B d := fun d hd => h d (List.mem_of_mem_drop (List.mem_of_mem_take hd))
theorem app_sm {n B : Nat} {ds es : List PyData} (h : ∀ d ∈ ds, Sm n B d) (k : ∀ d ∈ es, Sm n B d) : ∀ d ∈ ds ++ es, Sm n B d := fun d hd => (List.mem_append.mp hd).elim (h d) (k d)
theorem cut_len {ds : List PyData} {N : Nat} (h : ds.length ≤ N) (i j : Nat) : ((ds.drop i).take j).length ≤ N := by
  rw [List.length_take, List.length_drop]
  omega
end G
namespace G
open PySem PySem.Spec PyProof.Rows L2
theorem tc_of {v : V} {σ : L2.St} {H : Hp} {Q : VK} (h : Q v H) : tC v σ H Q := h
end G

/-! ## G12: drawn nets: bundles, leads, bounds -/
namespace G
open PySem PySem.Spec PyProof.Rows L2
/-- a bundle: first, second, partitions -/
abbrev Bun := Int × Int × Int
def bI (t : Bun) : List Int := [t.1, t.2.1, t.2.2]
def bD (t : Bun) : PyData := prI (bI t)
def bkey (t : Bun) : Int × Int := (t.1, t.2.1)
structure BunOk (n : Int) (t : Bun) : Prop where
  f0 : 0 ≤ t.1
  fs : t.1 < t.2.1
  sn : t.2.1 < n
  p1 : 1 ≤ t.2.2
  pm : t.2.2 ≤ 1000000000000000000
structure BunsOk (n : Int) (bs : List Bun) : Prop where
  n2 : 2 ≤ n
  n10 : n ≤ 10
  len : bs.length ≤ 45
  each : ∀ t ∈ bs, BunOk n t
  nd : (bs.map bkey).Nodup
theorem BunsOk.rev {n : Int} {bs : List Bun} (h : BunsOk n bs) : BunsOk n bs.reverse := ⟨h.n2, h.n10, by rw [List.length_reverse]; exact h.len, fun t ht => h.each t (List.mem_reverse.mp ht), by rw [List.map_reverse]; exact (List.pairwise_reverse).mpr (h.nd.imp fun h => Ne.symm h)⟩
/-- bundles drawn pair by pair, up to the pair (i, j) -/
structure BunsTo (n i j : Int) (bs : List Bun) : Prop where
  each : ∀ t ∈ bs, BunOk n t
  lt : ∀ t ∈ bs, t.1 < i ∨ (t.1 = i ∧ t.2.1 < j)
  nd : (bs.map bkey).Nodup
theorem BunsTo.nil {n i j : Int} : BunsTo n i j [] := ⟨(fun t ht => (nomatch ht)), (fun t ht => (nomatch ht)), List.nodup_nil⟩
theorem BunsTo.on {n i j i' j' : Int} {bs : List Bun} (h : BunsTo n i j bs) (hl : i < i' ∨ (i = i' ∧ j ≤ j')) : BunsTo n i' j' bs := ⟨h.each, fun t ht => by have := h.lt t ht; omega, h.nd⟩
theorem BunsTo.snoc {n i j j' p : Int} {bs : List Bun} (h : BunsTo n i j bs) (o : BunOk n (i, j, p)) (hj : j < j') : BunsTo n i j' (bs ++ [(i, j, p)]) := by
  refine ⟨fun t ht => ?_, fun t ht => ?_, ?_⟩
  · rcases List.mem_append.mp ht with ht | ht
    · exact h.each t ht
    · rw [List.mem_singleton.mp ht]; exact o
  · rcases List.mem_append.mp ht with ht | ht
    · have := h.lt t ht
      omega
    · rw [List.mem_singleton.mp ht]
      exact Or.inr ⟨rfl, hj⟩
  · rw [List.map_append, List.nodup_append]
    refine ⟨h.nd, by simp, fun a ha c hc => ?_⟩
    obtain ⟨t, ht, rfl⟩ := List.mem_map.mp ha
    rw [List.map_singleton, List.mem_singleton] at hc
    subst hc
    intro e
    have e1 : t.1 = i := congrArg Prod.fst e
    have e2 : t.2.1 = j := congrArg Prod.snd e
    have := h.lt t ht
    omega
def tri : Nat → Nat
  | 0 => 0
  | i + 1 => tri i + (9 - i)
theorem tri45 : ∀ m, m ≤ 10 → tri m ≤ 45 := by decide
/-- _law_amount(bag, great) -/
def sp_amount : Sp := fun vs H Q _ => ∃ b g, vs = [.ref b, .bl g] ∧ BagOk b H ∧ ∀ (v : Int) H', 1 ≤ v → v ≤ 1000000000000000000 → Go b H H' → Q (.int v) H'
/-- _law_bundles(bag, size, great) -/
def sp_bundles (K : PySem.W.Frag) : Sp := fun vs H Q _ => ∃ b n g, vs = [.ref b, .int n, .bl g] ∧ BagOk b H ∧ 2 ≤ n ∧ n ≤ 10 ∧ ∀ (a : Addr) (us : List V) (bs : List Bun) (H' : Hp), Go b H H' → a ≠ b → H' a = some (.lst us) → DaL K (hid b H') us (bs.map bD) → BunsOk n bs → bs ≠ [] → Q (.ref a) H'
end G

/-! ## G13: zip of a list or a tuple with a list -/
namespace G
open PySem PySem.Spec PyProof.Rows L2
/-- at a stands a list (false) or a tuple (true) -/
def LT (K : PySem.W.Frag) (t : Bool) (a : Addr) (H : Hp) (xs : List V) : Prop := if t = true then SqT K H a xs else SqL K H a xs
def ItAt (t : Bool) (h : Heap) (j a : Addr) (n : Nat) : Prop := if t = true then h.IsTupleIter j a n else h.IsListIter j a n
def SeqAt (t : Bool) (h : Heap) (a : Addr) (its : Array Value) : Prop := if t = true then h.IsTuple a its else h.IsList a its
theorem drawsLT {P : Program} {w : World} {A : Around} (t : Bool) (hh : A.handled = none) (j a : Addr) (ne : a ≠ j) (its : Array Value) : Draws P w A j [j, a] its.size (fun i v => its[i]? = some v) (fun i h => ItAt t h j a i ∧ SeqAt t h a its) := by
  cases t
  · exact Draws.list hh j a ne its
  · exact Draws.tuple hh j a ne its
theorem lt_items {X : Cx} {pins : List (Addr × Obj)} {σ : L2.St} {H : Hp} {s : Shared} {t : Bool} {a : Addr} {xs : List V} (I : Inv X pins σ H s) (h : LT X.K t a H xs) : ∃ its, Vals xs its ∧ SeqAt t s.heap a its.toArray ∧ xs.length ≤ sizeLine := by
  cases t
  · obtain ⟨its, r, p, z⟩ := I.list (show SqL X.K H a xs from h)
    exact ⟨its, r, p.isList, z⟩
  · obtain ⟨its, r, p, z⟩ := I.tuple (show SqT X.K H a xs from h)
    exact ⟨its, r, p, z⟩
theorem lt_inj {X : Cx} {pins : List (Addr × Obj)} {σ : L2.St} {H : Hp} {s : Shared} {t : Bool} {a : Addr} {xs ys : List V} (I : Inv X pins σ H s) (h : LT X.K t a H xs) (k : LT X.K t a H ys) : xs = ys := by
  cases t
  · exact I.list_inj h k
  · exact I.tuple_inj h k
theorem lt_up {K : PySem.W.Frag} {t : Bool} {a : Addr} {H H' : Hp} {xs : List V} (e : Same H H') (h : LT K t a H xs) : LT K t a H' xs := by
  cases t
  · exact sql_up e h
  · exact sqt_up e h
theorem seq_lt {t : Bool} {h : Heap} {a : Addr} {its : Array Value} (x : SeqAt t h a its) : a < h.objs.size := by
  cases t
  · obtain ⟨o, e, _⟩ := (show h.IsList a its from x)
    exact Heap.lt_size e
  · obtain ⟨o, e, _⟩ := (show h.IsTuple a its from x)
    exact Heap.lt_size e
/-- what zip goes over: a at its place, the list at b -/
def ItzP (K : PySem.W.Frag) (t : Bool) (a b : Addr) : It :=
  ⟨fun i H => ∃ (xs ys : List V) (x y : V), LT K t a H xs ∧ SqL K H b ys ∧ xs[i]? = some x ∧ ys[i]? = some y,
    fun i H v H' => ∃ T x y, v = .ref T ∧ H T = none ∧ H' = upd H T (.tup [x, y]) ∧ (∀ xs, LT K t a H xs → xs[i]? = some x) ∧ ∀ ys, SqL K H b ys → ys[i]? = some y,
    fun i H => ∃ xs ys : List V, LT K t a H xs ∧ SqL K H b ys ∧ (xs.length = i ∧ i ≤ ys.length ∨ ys.length = i ∧ i ≤ xs.length)⟩
theorem turn_zipP {P : Program} {w : World} {K : PySem.W.Frag} {elts : List Expr} {kk : Nat} {tpos : Pos} {t : Bool} {a b z TI TO j1 j2 : Addr} (D : ZipSep2 z TI TO j1 j2 [j1, a] [j2, b]) (na : a ≠ j1) (nb : b ≠ j2) :
    Turn P w K (.Tuple elts kk tpos) (ItzP K t a b) [z, TI, TO, j1, j2] z (fun i h => IsZip h z TI TO .none ∧ IsPair h TI (.ref j1) (.ref j2) ∧ (∃ x y, IsPair h TO x y) ∧ ItAt t h j1 a i ∧ h.IsListIter j2 b i) where
  mem := by simp
  obj := fun i h st c hc => by
    obtain ⟨q1, q2, ⟨x, y, q3⟩, q4, ⟨o2, e2, _, d2⟩⟩ := st
    have q5 : ∃ o, h.get? j1 = some o ∧ ∀ v, o.data ≠ .cell v := by
      cases t
      · obtain ⟨o, e, _, d⟩ := (show h.IsListIter j1 a i from q4)
        exact ⟨o, e, fun v q => by rw [d] at q; cases q⟩
      · obtain ⟨o, e, _, d⟩ := (show h.IsTupleIter j1 a i from q4)
        exact ⟨o, e, fun v q => by rw [d] at q; cases q⟩
    obtain ⟨o1, e1, d1⟩ := q5
    rcases (by simpa using hc : c = z ∨ c = TI ∨ c = TO ∨ c = j1 ∨ c = j2) with rfl | rfl | rfl | rfl | rfl
    · exact ⟨_, q1, fun v q => nomatch q⟩
    · exact ⟨_, q2, fun v q => nomatch q⟩
    · exact ⟨_, q3, fun v q => nomatch q⟩
    · exact ⟨o1, e1, fun v q => d1 v q⟩
    · exact ⟨o2, e2, fun v q => by rw [d2] at q; cases q⟩
  keep := fun i h h' st k => by
    obtain ⟨q1, q2, ⟨x, y, q3⟩, q4, q5⟩ := st
    refine ⟨k z (by simp) _ q1, k TI (by simp) _ q2, ⟨x, y, k TO (by simp) _ q3⟩, ?_, q5.at fun o q => k j2 (by simp) o q⟩
    cases t
    · exact Heap.IsListIter.at (show h.IsListIter j1 a i from q4) fun o q => k j1 (by simp) o q
    · exact Heap.IsTupleIter.at (show h.IsTupleIter j1 a i from q4) fun o q => k j1 (by simp) o q
  item := by
    intro X hP hw hK hc i pins s σ H E I hf st hg
    subst hP hw hK
    obtain ⟨q1, q2, ⟨x0, y0, q3⟩, q4, q5⟩ := st
    obtain ⟨xs, ys, x, y, sx, sy, hx, hy⟩ := hg
    obtain ⟨its, rv, p, _⟩ := lt_items I sx
    obtain ⟨its2, rv2, p2, _⟩ := I.list sy
    obtain ⟨u, hu, ru⟩ := rv.get hx
    obtain ⟨u2, hu2, ru2⟩ := rv2.get hy
    have zlt : z < s.heap.objs.size := Heap.lt_size q1
    have D1 := drawsLT (P := X.prog) (w := X.w) (A := X.A.in1) t (I.ok.hd hc) j1 a na its.toArray
    have D2 := Draws.list (prog := X.prog) (w := X.w) (A := X.A.in1) (I.ok.hd hc) j2 b nb its2.toArray
    refine wpAny_pyNext_zipD2_item (A := X.A) D D1 D2 q1 q2 q3 ⟨q4, p⟩ ⟨q5, p2.isList⟩ (by rw [List.size_toArray]; exact (List.getElem?_eq_some_iff.mp hu).1) (by rw [List.size_toArray]; exact (List.getElem?_eq_some_iff.mp hu2).1) fun x1 x2 g tk y1 y2 z' TO' s1 s2 hT hsz hk => ?_
    have ex1 : x1 = u := by
      have := y1
      simp only [List.getElem?_toArray, hu] at this
      exact (Option.some.inj this).symm
    have ex2 : x2 = u2 := by
      have := y2
      simp only [List.getElem?_toArray, hu2] at this
      exact (Option.some.inj this).symm
    subst ex1 ex2
    refine ⟨_, rfl, wpAny_letOwnedTupleGo_zip (s := { s with heap := g, toks := tk }) z' fun g2 z2 sb => ?_⟩
    have hT2 : g2.get? s.heap.objs.size = some { cls := .type "tuple", data := .seq #[x1, x2] } := (sb.2 _ (Nat.ne_of_gt zlt)).trans hT
    have new : ObjOk X.prog X.w (upd H s.heap.objs.size (.tup [x, y])) g2 s.heap.objs.size (.tup [x, y]) :=
      ⟨by show 2 ≤ sizeLine; decide, [x1, x2], .cons ru (.cons ru2 .nil), ⟨_, hT2, rfl, _, rfl⟩⟩
    have kp : ∀ c o, c ∉ [z, TI, TO, j1, j2] → s.heap.get? c = some o → g2.get? c = some o := fun c o hb q => by
      simp only [List.mem_cons, List.not_mem_nil, or_false, not_or] at hb
      exact (sb.2 c hb.1).trans (hk c o hb.1 hb.2.2.1 hb.2.2.2.1 hb.2.2.2.2 q)
    have I1 : Inv X pins σ (upd H s.heap.objs.size (.tup [x, y])) { s with heap := g2, toks := tk } := I.turnedNew (t' := tk) (ch := [z, TI, TO, j1, j2]) kp hf (Nat.le_refl _) new
    refine ⟨.ref s.heap.objs.size, _, I1, rfl, ⟨_, x, y, rfl, I.hok.fresh (Nat.le_refl _), rfl, fun l hl => by rw [lt_inj I hl sx]; exact hx, fun l hl => by rw [I.list_inj hl sy]; exact hy⟩, ⟨z2, ?_, ⟨x1, x2, ?_⟩, ?_, ?_⟩, fun c hcm => ?_⟩
    · exact (sb.2 _ D.TIz).trans (hk _ _ D.TIz D.TITO D.TIi1 D.TIi2 q2)
    · exact (sb.2 _ D.TOz).trans TO'
    · have w1 := s1.1
      cases t
      · exact Heap.IsListIter.at (show g.IsListIter j1 a (i + 1) from w1) fun o q => (sb.2 _ D.zi1.symm).trans q
      · exact Heap.IsTupleIter.at (show g.IsTupleIter j1 a (i + 1) from w1) fun o q => (sb.2 _ D.zi1.symm).trans q
    · exact s2.1.at fun o q => (sb.2 _ D.zi2.symm).trans q
    · have clt : c < s.heap.objs.size := by
        rcases (by simpa using hcm : c = z ∨ c = TI ∨ c = TO ∨ c = j1 ∨ c = j2) with rfl | rfl | rfl | rfl | rfl
        · exact zlt
        · exact Heap.lt_size q2
        · exact Heap.lt_size q3
        · cases t
          · obtain ⟨_, e, _⟩ := (show s.heap.IsListIter _ a i from q4); exact Heap.lt_size e
          · obtain ⟨_, e, _⟩ := (show s.heap.IsTupleIter _ a i from q4); exact Heap.lt_size e
        · obtain ⟨_, e, _⟩ := q5; exact Heap.lt_size e
      rw [upd_ne (Nat.ne_of_lt clt)]
      exact (hf c hcm).1
  done := by
    intro X hP hw hK hc i pins s σ H E I hf st hg
    subst hP hw hK
    obtain ⟨q1, q2, ⟨x0, y0, q3⟩, q4, q5⟩ := st
    obtain ⟨xs, ys, sx, sy, hend⟩ := hg
    obtain ⟨its, rv, p, _⟩ := lt_items I sx
    obtain ⟨its2, rv2, p2, _⟩ := I.list sy
    have l1 := rv.length
    have l2 := rv2.length
    have D1 := drawsLT (P := X.prog) (w := X.w) (A := X.A.in1) t (I.ok.hd hc) j1 a na its.toArray
    have D2 := Draws.list (prog := X.prog) (w := X.w) (A := X.A.in1) (I.ok.hd hc) j2 b nb its2.toArray
    refine wpAny_pyNext_zipD2_end (A := X.A) D D1 D2 q1 q2 q3 ⟨q4, p⟩ ⟨q5, p2.isList⟩ (by rw [List.size_toArray]; omega) (by rw [List.size_toArray]; omega) (by rw [List.size_toArray, List.size_toArray]; omega) fun g tk hk => ⟨rfl, I.turnedL (t' := tk) (ch := [z, TI, TO, j1, j2]) (fun c o hb q => ?_) hf⟩
    simp only [List.mem_cons, List.not_mem_nil, or_false, not_or] at hb
    exact hk c o hb.1 hb.2.2.1 hb.2.2.2.1 hb.2.2.2.2 q
  self := fun A i s Q E st h => wpAny_pyIter_zip st.1 h
def iZipP (K : PySem.W.Frag) (ta : TA) : TI := fun σ H R => ta σ H fun vs H1 => ∃ t a b xs ys, vs = [.ref a, .ref b] ∧ LT K t a H1 xs ∧ SqL K H1 b ys ∧ R (ItzP K t a b) H1
theorem beginsLT (t : Bool) (a : Addr) (its : Array Value) : ∃ o, Begins (.ref a) o (fun h => SeqAt t h a its) ∧ ∀ (h : Heap) (j : Addr), h.get? j = some o → ItAt t h j a 0 := by
  cases t
  · exact ⟨_, begins_list a its, fun h j e => ⟨_, e, rfl, rfl⟩⟩
  · exact ⟨_, begins_tuple a its, fun h j e => ⟨_, e, rfl, rfl⟩⟩
theorem pi_zipP {X : Cx} {e e2 : Expr} {ta : TA} {p pos tpos : Pos} {elts : List Expr} {kk : Nat} (hg : Gl X "zip") (hm : X.mg "zip" = none) (ha : PA X [e, e2] ta)
    (hs : starEach [e, e2] X.env = (false, eval e X.env) :: starEach [e2] X.env := by rfl) (hpl : (backTo pos (starEach [e2] X.env)).any (·.1) = false := by rfl) :
    PI X (.Tuple elts kk tpos) (.Call (.Name "zip" p) [e, e2] [] pos) (iZipP X.K ta) := by
  refine ⟨fun pins s σ H R I h => Call_ (ld_blt I hg hm PyProof.Rows.boot_zip (PyProof.Rows.callWith_type1 (thn (ha.run pos pins s σ H _ I h) fun us s1 hv => ?_) hs hpl))⟩
  obtain ⟨vs, H1, I1, r1, t, a, b, xs, ys, rfl, sx, sy, q⟩ := hv
  cases r1 with
  | cons r rr =>
  cases rr with
  | cons r' rr =>
  cases rr
  cases r
  cases r'
  obtain ⟨its, rv, p1, _⟩ := lt_items I1 sx
  obtain ⟨its2, rv2, p2, _⟩ := I1.list sy
  obtain ⟨o1, B1, k1⟩ := beginsLT t a its.toArray
  have la := seq_lt p1
  have lb : b < s1.heap.objs.size := seq_lt (t := false) p2.isList
  refine zip_begins2 B1 (begins_list b its2.toArray) p1 p2.isList fun g q1 q2 q3 q4 q5 hsz hk => wpAny_pyIter_zip q1 ?_
  have I2 : Inv X pins σ H1 { s1 with heap := g } := I1.kept (t' := s1.toks) hk
  refine ⟨s1.heap.objs.size + 4, [s1.heap.objs.size + 4, s1.heap.objs.size + 2, s1.heap.objs.size + 3, s1.heap.objs.size, s1.heap.objs.size + 1], _, _, H1, rfl, I2, turn_zipP (t := t) (zip_sep2 (fp1 := [a]) (fp2 := [b]) (fun c hc => by rw [List.mem_singleton.mp hc]; exact la) (fun c hc => by rw [List.mem_singleton.mp hc]; exact lb)) (Nat.ne_of_lt la) (Nat.ne_of_lt (Nat.lt_succ_of_lt lb)), ⟨q1, q2, ⟨_, _, q3⟩, k1 g _ q4, ⟨_, q5, rfl, rfl⟩⟩, fun c hc => ?_, q⟩
  have hle : s1.heap.objs.size ≤ c := by
    rcases (by simpa using hc : c = s1.heap.objs.size + 4 ∨ c = s1.heap.objs.size + 2 ∨ c = s1.heap.objs.size + 3 ∨ c = s1.heap.objs.size ∨ c = s1.heap.objs.size + 1) with rfl | rfl | rfl | rfl | rfl
    all_goals first | exact Nat.le_add_right _ _ | exact Nat.le_refl _
  exact I1.fpOk hle (I1.hok.fresh hle)
theorem for_zipP {K : PySem.W.Frag} {t : Bool} {a b : Addr} {xs ys : List V} {g : TG} {tb : TS} {D : Ends} {σ : L2.St} {H : Hp} (hl : xs.length = ys.length) (Pv : Nat → L2.St → Hp → Prop) (h0 : Pv 0 σ H) (hq : ∀ i σ H, Pv i σ H → LT K t a H xs ∧ SqL K H b ys)
    (hs : ∀ (i : Nat) (x y : V) (T : Addr) (σ : L2.St) (H : Hp), xs[i]? = some x → ys[i]? = some y → Pv i σ H → H T = none → g (.ref T) σ (upd H T (.tup [x, y])) fun σ2 H2 => tb { D with nx := Pv (i + 1), ct := Pv (i + 1), bk := D.nx } σ2 H2) (hd : ∀ σ H, Pv xs.length σ H → D.nx σ H) :
    ∃ W : Nat → Nat → L2.St → Hp → Prop, (∃ m, W 0 m σ H) ∧ ∀ i m σ H, W i m σ H →
      ((ItzP K t a b).stop i H ∧ D.nx σ H) ∨ ((ItzP K t a b).go i H ∧ ∃ N : L2.St → Hp → Prop, (∀ σ' H', N σ' H' → ∃ m', m' < m ∧ W (i + 1) m' σ' H') ∧ ∀ v H', (ItzP K t a b).yld i H v H' → g v σ H' fun σ2 H2 => tb { D with nx := N, ct := N, bk := D.nx } σ2 H2) := by
  refine ⟨fun i m σ H => m + i = xs.length ∧ Pv i σ H, ⟨xs.length, Nat.add_zero _, h0⟩, ?_⟩
  rintro i m σ H ⟨em, p⟩
  obtain ⟨qx, qy⟩ := hq i σ H p
  by_cases lt : i < xs.length
  · have lt2 : i < ys.length := by omega
    refine .inr ⟨⟨xs, ys, _, _, qx, qy, List.getElem?_eq_getElem lt, List.getElem?_eq_getElem lt2⟩, Pv (i + 1), fun σ' H' p' => ⟨m - 1, by omega, by omega, p'⟩, fun v H' y => ?_⟩
    obtain ⟨T, x', y', rfl, hT, rfl, f1, f2⟩ := y
    exact hs i x' y' T σ H (f1 xs qx) (f2 ys qy) p hT
  · have e : i = xs.length := by omega
    subst e
    exact .inl ⟨⟨xs, ys, qx, qy, Or.inl ⟨rfl, by omega⟩⟩, hd σ H p⟩
end G

/-! ## G14: loads -/
namespace G
open PySem PySem.Spec PyProof.Rows L2
/-- one bundle of which the first broker leads m -/
def ld1 (acc : List Int) (m : Int) (t : Bun) : List Int := acc.set t.1.toNat (acc.getD t.1.toNat 0 + m)
def ld (acc : List Int) (m : Int) (t : Bun) : List Int := (ld1 acc m t).set t.2.1.toNat ((ld1 acc m t).getD t.2.1.toNat 0 + t.2.2 - m)
def ldAll : List Int → List Int → List Bun → List Int
  | acc, m :: ms, t :: ts => ldAll (ld acc m t) ms ts
  | acc, _, _ => acc
def loadsP (n : Nat) (ms : List Int) (bs : List Bun) : List Int := ldAll (List.replicate n 0) ms bs
theorem ld_len (acc : List Int) (m : Int) (t : Bun) : (ld acc m t).length = acc.length := by
  unfold ld ld1
  rw [List.length_set, List.length_set]
theorem ldAll_len : ∀ (ms : List Int) (bs : List Bun) (acc : List Int), (ldAll acc ms bs).length = acc.length
  | [], _, acc => by rw [ldAll]; intro _ _ _ _ h; cases h
  | _ :: _, [], acc => by rw [ldAll]; intro _ _ _ _ _ h; cases h
  | m :: ms, t :: bs, acc => by rw [ldAll, ldAll_len ms bs, ld_len]
theorem loadsP_len (n : Nat) (ms : List Int) (bs : List Bun) : (loadsP n ms bs).length = n := by rw [loadsP, ldAll_len, List.length_replicate]
theorem ldAll_nil (ms : List Int) (acc : List Int) : ldAll acc ms [] = acc := by
  cases ms <;> rfl
theorem ldAll_step : ∀ (i : Nat) (ms : List Int) (bs : List Bun) (acc : List Int) (m : Int) (t : Bun), ms[i]? = some m → bs[i]? = some t → ldAll acc (ms.take (i + 1)) (bs.take (i + 1)) = ld (ldAll acc (ms.take i) (bs.take i)) m t
  | 0, a :: ms, b :: bs, acc, m, t, h1, h2 => by
    obtain rfl : a = m := Option.some.inj h1
    obtain rfl : b = t := Option.some.inj h2
    rfl
  | i + 1, a :: ms, b :: bs, acc, m, t, h1, h2 => by
    rw [List.take_succ_cons, List.take_succ_cons, List.take_succ_cons, List.take_succ_cons, ldAll, ldAll]
    exact ldAll_step i ms bs (ld acc a b) m t h1 h2
  | 0, [], _, _, _, _, h1, _ => by cases h1
  | _ + 1, [], _, _, _, _, h1, _ => by cases h1
  | 0, _ :: _, [], _, _, _, _, h2 => by cases h2
  | _ + 1, _ :: _, [], _, _, _, _, h2 => by cases h2
/-- a bundle as a value -/
theorem da_bun {K : PySem.W.Frag} {H : Hp} {v : V} {t : Bun} (h : Da K H v (bD t)) : ∃ a, v = .ref a ∧ SqT K H a [.int t.1, .int t.2.1, .int t.2.2] := by
  obtain ⟨a, us, rfl, s, d⟩ := da_tup h
  rw [DaL.unints d] at s
  exact ⟨a, rfl, s⟩
theorem ixN_nat {n : Nat} {k : Int} (h0 : 0 ≤ k) (h1 : k < (n : Int)) : ixN n k = some k.toNat := by
  unfold ixN
  rw [if_pos h0, if_pos (by omega)]
theorem atI_ints {ns : List Int} {k : Int} (h0 : 0 ≤ k) (h1 : k < (ns.length : Int)) : atI (ns.map V.int) k = some (.int (ns.getD k.toNat 0)) := by
  unfold atI
  rw [List.length_map, ixN_nat h0 h1]
  show (ns.map V.int)[k.toNat]? = _
  have hl : k.toNat < ns.length := by omega
  rw [List.getElem?_map, List.getElem?_eq_getElem hl, List.getD_eq_getElem?_getD, List.getElem?_eq_getElem hl]
  rfl
/-- _law_loads(size, bundles, leads) -/
def sp_loads (K : PySem.W.Frag) : Sp := fun vs H Q _ => ∃ (n : Int) (x l : Addr) (t : Bool) (us : List V) (bs : List Bun) (ms : List Int), vs = [.int n, .ref x, .ref l] ∧ 0 ≤ n ∧ n ≤ 1000 ∧ SqL K H x us ∧ DaL K H us (bs.map bD) ∧ LT K t l H (ms.map V.int) ∧ ms.length = bs.length ∧ (∀ t ∈ bs, BunOk n t) ∧
  ∀ (q : Addr) (H' : Hp), H q = none → Same H H' → H' q = some (.lst ((loadsP n.toNat ms bs).map V.int)) → Q (.ref q) H'
end G
namespace G
open PySem PySem.Spec PyProof.Rows L2
/-- a bound -/
abbrev Bnd := Int × Int
def cD (c : Bnd) : PyData := prI [c.1, c.2]
/-- bounds about loads -/
structure BndAt (c : Bnd) (x : Int) : Prop where
  lo : 0 ≤ c.1
  le : c.1 ≤ x
  ge : x ≤ c.2
  hi : c.2 ≤ 1000000000000000000000
def BndsAt (cs : List Bnd) (hs : List Int) : Prop := cs.length = hs.length ∧ ∀ (i : Nat) c x, cs[i]? = some c → hs[i]? = some x → BndAt c x
theorem BndsAt.snoc {cs : List Bnd} {hs : List Int} {i : Nat} {c : Bnd} {x : Int} (h : BndsAt cs (hs.take i)) (hx : hs[i]? = some x) (hc : BndAt c x) : BndsAt (cs ++ [c]) (hs.take (i + 1)) := by
  have hi : i < hs.length := (List.getElem?_eq_some_iff.mp hx).1
  have e : hs.take (i + 1) = hs.take i ++ [x] := by rw [List.take_succ, hx]; rfl
  have hl := h.1
  rw [e]
  refine ⟨by simp [hl], fun j d y hd hy => ?_⟩
  by_cases hj : j < cs.length
  · rw [List.getElem?_append_left hj] at hd
    rw [List.getElem?_append_left (by omega)] at hy
    exact h.2 j d y hd hy
  · rw [List.getElem?_append_right (by omega)] at hd hy
    rw [hl] at hd
    cases ej : j - (hs.take i).length with
    | zero =>
      rw [ej] at hd hy
      obtain rfl : c = d := Option.some.inj hd
      obtain rfl : x = y := Option.some.inj hy
      exact hc
    | succ m =>
      rw [ej] at hd
      cases hd
/-- _law_bounds(bag, held) -/
def sp_bounds (K : PySem.W.Frag) : Sp := fun vs H Q _ => ∃ (b h : Addr) (hs : List Int), vs = [.ref b, .ref h] ∧ BagOk b H ∧ SqL K (hid b H) h (hs.map V.int) ∧ hs.length ≤ 1000 ∧ (∀ x ∈ hs, 0 ≤ x ∧ x ≤ 100000000000000000000) ∧
  ∀ (a : Addr) (us : List V) (cs : List Bnd) (H' : Hp), Go b H H' → a ≠ b → H' a = some (.lst us) → DaL K (hid b H') us (cs.map cD) → BndsAt cs hs → Q (.ref a) H'
end G
namespace G
open PySem PySem.Spec PyProof.Rows L2
theorem getD_in {l : List Int} {i : Nat} {B : Int} (hB : 0 ≤ B) (h : ∀ x ∈ l, 0 ≤ x ∧ x ≤ B) : 0 ≤ l.getD i 0 ∧ l.getD i 0 ≤ B := by
  rw [List.getD_eq_getElem?_getD]
  cases e : l[i]? with
  | none => exact ⟨Int.le_refl _, hB⟩
  | some y => exact h y (List.mem_of_getElem? e)
theorem getD_set_ne {l : List Int} {i j : Nat} {v : Int} (h : i ≠ j) : (l.set i v).getD j 0 = l.getD j 0 := by
  rw [List.getD_eq_getElem?_getD, List.getD_eq_getElem?_getD, List.getElem?_set_ne h]
theorem ld_in {acc : List Int} {m : Int} {t : Bun} {B P : Int} (h : ∀ x ∈ acc, 0 ≤ x ∧ x ≤ B) (hB : 0 ≤ B) (m0 : 0 ≤ m) (mp : m ≤ t.2.2) (hp : t.2.2 ≤ P) (hf : 0 ≤ t.1) (hs : t.1 < t.2.1) : ∀ x ∈ ld acc m t, 0 ≤ x ∧ x ≤ B + P := by
  intro x hx
  unfold ld at hx
  have hn : t.1.toNat ≠ t.2.1.toNat := by omega
  have e : (ld1 acc m t).getD t.2.1.toNat 0 = acc.getD t.2.1.toNat 0 := getD_set_ne hn
  have d1 := getD_in (i := t.2.1.toNat) hB h
  have d2 := getD_in (i := t.1.toNat) hB h
  rcases List.mem_or_eq_of_mem_set hx with hx | hx
  · unfold ld1 at hx
    rcases List.mem_or_eq_of_mem_set hx with hx | hx
    · have := h x hx
      omega
    · omega
  · rw [e] at hx
    omega
/-- how many of each bundle its first broker leads -/
def LeadsOk (ms : List Int) (bs : List Bun) : Prop := ms.length = bs.length ∧ ∀ (i : Nat) m t, ms[i]? = some m → bs[i]? = some t → 0 ≤ m ∧ m ≤ t.2.2
theorem ldAll_in {n P : Int} (hP : 0 ≤ P) : ∀ (ms : List Int) (bs : List Bun) (acc : List Int) (B : Int), (∀ x ∈ acc, 0 ≤ x ∧ x ≤ B) → 0 ≤ B → (∀ t ∈ bs, BunOk n t) → (∀ t ∈ bs, t.2.2 ≤ P) → (∀ (i : Nat) m t, ms[i]? = some m → bs[i]? = some t → 0 ≤ m ∧ m ≤ t.2.2) → ∀ x ∈ ldAll acc ms bs, 0 ≤ x ∧ x ≤ B + P * bs.length
  | [], bs, acc, B, h, hB, _, _, _ => by
    intro x hx
    have := h x (by cases bs <;> exact hx)
    have : 0 ≤ P * bs.length := Int.mul_nonneg hP (Int.natCast_nonneg _)
    omega
  | m :: ms, [], acc, B, h, hB, _, _, _ => by
    intro x hx
    have := h x hx
    simp
    omega
  | m :: ms, t :: bs, acc, B, h, hB, ho, hp, hm => by
    intro x hx
    have o := ho t List.mem_cons_self
    have h0 := hm 0 m t rfl rfl
    have ih := ldAll_in hP ms bs (ld acc m t) (B + P) (ld_in h hB h0.1 h0.2 (hp t List.mem_cons_self) o.f0 o.fs) (by omega) (fun u hu => ho u (List.mem_cons_of_mem _ hu)) (fun u hu => hp u (List.mem_cons_of_mem _ hu)) (fun i m' t' e1 e2 => hm (i + 1) m' t' e1 e2) x hx
    have e : P * ((t :: bs).length : Int) = P * bs.length + P := by
      rw [List.length_cons]
      push_cast
      rw [Int.mul_add, Int.mul_one]
    omega
theorem loads_in {n : Int} {ms : List Int} {bs : List Bun} {k : Nat} (ho : BunsOk n bs) (hm : LeadsOk ms bs) : ∀ x ∈ loadsP k ms bs, 0 ≤ x ∧ x ≤ 100000000000000000000 := by
  intro x hx
  have := ldAll_in (n := n) (P := 1000000000000000000) (by decide) ms bs (List.replicate k 0) 0 (fun x hx => by rw [(List.mem_replicate.mp hx).2]; decide) (by decide) ho.each (fun t ht => (ho.each t ht).pm) hm.2 x hx
  have := ho.len
  omega
theorem LeadsOk.snoc {ms : List Int} {bs : List Bun} {i : Nat} {m : Int} {t : Bun} (h : LeadsOk ms (bs.take i)) (ht : bs[i]? = some t) (h0 : 0 ≤ m) (h1 : m ≤ t.2.2) : LeadsOk (ms ++ [m]) (bs.take (i + 1)) := by
  have e : bs.take (i + 1) = bs.take i ++ [t] := by rw [List.take_succ, ht]; rfl
  have hl := h.1
  rw [e]
  refine ⟨by simp [hl], fun j d y hd hy => ?_⟩
  by_cases hj : j < ms.length
  · rw [List.getElem?_append_left hj] at hd
    rw [List.getElem?_append_left (by omega)] at hy
    exact h.2 j d y hd hy
  · rw [List.getElem?_append_right (by omega)] at hd hy
    rw [hl] at hd
    cases ej : j - (bs.take i).length with
    | zero =>
      rw [ej] at hd hy
      obtain rfl : m = d := Option.some.inj hd
      obtain rfl : t = y := Option.some.inj hy
      exact ⟨h0, h1⟩
    | succ k =>
      rw [ej] at hd
      cases hd
/-- a drawn net: size, bundles, leads, bounds about the loads -/
structure NetOk (n : Int) (bs : List Bun) (ms : List Int) (cs : List Bnd) : Prop where
  buns : BunsOk n bs
  ne : bs ≠ []
  leads : LeadsOk ms bs
  bnds : BndsAt cs (loadsP n.toNat ms bs)
/-- the three parts as values -/
structure NetAt (K : PySem.W.Frag) (H : Hp) (c x l : V) (bs : List Bun) (ms : List Int) (cs : List Bnd) : Prop where
  c : Da K H c (.list (cs.map cD))
  x : Da K H x (.list (bs.map bD))
  l : Da K H l (.tuple (ms.map PyData.int))
theorem NetAt.mono {K : PySem.W.Frag} {H H' : Hp} {c x l : V} {bs : List Bun} {ms : List Int} {cs : List Bnd} (h : NetAt K H c x l bs ms cs) (e : Same H H') : NetAt K H' c x l bs ms cs := ⟨h.c.mono e, h.x.mono e, h.l.mono e⟩
/-- _law_net(bag, most, great) -/
def sp_net (K : PySem.W.Frag) : Sp := fun vs H Q _ => ∃ (b : Addr) (m : Int) (g : Bool), vs = [.ref b, .int m, .bl g] ∧ BagOk b H ∧ 2 ≤ m ∧ m ≤ 10 ∧
  ∀ (r : Addr) (c x l : V) (n : Int) (bs : List Bun) (ms : List Int) (cs : List Bnd) (H' : Hp), Go b H H' → r ≠ b → H' r = some (.tup [c, x, l]) → NetAt K (hid b H') c x l bs ms cs → n ≤ m → NetOk n bs ms cs → Q (.ref r) H'
end G

/-! ## G15: {t: v for x in xs}, t a tuple -/
namespace G
open PySem PySem.Spec PyProof.Rows L2
/-- one entry of such a dict -/
theorem dT_dictSet {X : Cx} {pins : List (Addr × Obj)} {σ : L2.St} {H : Hp} {s : Shared} {E : Value → Shared → Prop} {D x : Addr} {kvs : List (List Key × V)} {k : List Key} {v : V} {u r : Value} {Q : Unit → Shared → Prop} (hu : X.A.units + 8 < cLine) (I : Inv X pins σ H s) (hD : H D = some (.dT kvs)) (hx : H x = some (.tup (k.map kV))) (few : kvs.length < sizeLine)
    (ry : L2.RelV (.ref x) u) (rv : L2.RelV v r) (h : ∀ s', Inv X pins σ (upd H D (.dT (putK kvs k v))) s' → Q () s') : wpAny (model X.prog X.w) X.A (dictSet D u r) Q E s := by
  cases (show u = Value.ref x from ry)
  obtain ⟨z, hd, xs, rel, dd⟩ := dt_of I.hok hD
  have hz : xs.length ≤ sizeLine := by rw [← Paired.length rel]; exact z
  have more : (putK kvs k v).length ≤ sizeLine := Nat.le_trans (length_putK kvs k v) few
  refine wpAny_dictSet_heap (hsz := hz) (show X.A.units < cLine by omega) (key_of I.hok hx) dd fun g dg sb => h _ ?_
  obtain ⟨q, es, ep, hq, h2, h3, h4, _, h5⟩ := dg
  refine d_write I (by rw [hD]; trivial) sb ⟨q, hq⟩ ⟨more, hd, _, (rel.put k hx rv).keeps fun c ys ec => ?_, q, es, ep, hq, h2, h3, h4, h5⟩
  rw [upd_ne (ne_of ec hD (fun z => nomatch z))]
  exact ec
section
variable {X : Cx}
/-- {key: val for target in iter if ..}, key a tuple; D the new dict -/
def tDcT (wi : TI) (g : TG) (tt : TT) (tk tv : TE) (vs : List Nat) : TE := fun σ H Q => wi σ H fun J H1 => ∀ D, H1 D = none → ∃ W : Nat → Nat → Hp → Prop, (∃ m, W 0 m (upd H1 D (.dT []))) ∧ ∀ i m H, W i m H →
  (J.stop i H ∧ Q (.ref D) H) ∨ (J.go i H ∧ ∃ Nx : Hp → Prop, (∀ H', Nx H' → ∃ m', m' < m ∧ W (i + 1) m' H') ∧ ∀ x H', J.yld i H x H' → g x (wipe σ vs) H' fun σ2 H2 => wipe σ2 vs = wipe σ vs ∧ tt σ2 H2 fun b H3 =>
    if b = true then tk σ2 H3 fun y H4 => tv σ2 H4 fun z H5 => ∃ (kvs : List (List Key × V)) (k : List Key) (x : Addr), y = .ref x ∧ H5 x = some (.tup (k.map kV)) ∧ H5 D = some (.dT kvs) ∧ kvs.length < sizeLine ∧ Nx (upd H5 D (.dT (putK kvs k z))) else Nx H3)
theorem dcT_core {pins : List (Addr × Obj)} {s : Shared} {σ : L2.St} {H : Hp} {Q : VK} {kx vx tg iter : Expr} {ifs : List Expr} {scope : Scope} {own : List (PySem.Str × Nat)} {pos pos' : Pos} {wi : TI} {g : TG} {tt : TT} {tk tv : TE} {use : Option (Value → Sem Unit)} {Qf : Value → Shared → Prop}
    (hu : X.A.units + 8 < cLine) (calm : X.calm = true) (nodup : X.N.Nodup) (I : Inv X pins σ H s) (hi : PI X tg iter wi) (ok : BlkOk X.N X.env.scope scope own)
    (hg : ∀ (z : Shared) (H : Hp) (C : Addr) (cl : List (PySem.Str × Addr)) (fp : List Addr), PG (X.blk z H scope (compEnvC scope cl C X.env) fp) tg g) (ht : ∀ (z : Shared) (H : Hp) (C : Addr) (cl : List (PySem.Str × Addr)) (fp : List Addr), PTs (X.blk z H scope (compEnvC scope cl C X.env) fp) ifs tt)
    (hk : ∀ (z : Shared) (H : Hp) (C : Addr) (cl : List (PySem.Str × Addr)) (fp : List Addr), PE (X.blk z H scope (compEnvC scope cl C X.env) fp) kx tk) (he : ∀ (z : Shared) (H : Hp) (C : Addr) (cl : List (PySem.Str × Addr)) (fp : List Addr), PE (X.blk z H scope (compEnvC scope cl C X.env) fp) vx tv) (fold : ∀ x, foldedSetIterable iter X.env x = pure x)
    (h : tDcT wi g tt tk tv (own.map (·.2)) σ H Q)
    (after : ∀ D C s' m H', Inv X pins σ H' s' → Q (.ref D) H' → s'.heap.Ns C m → FpOk X pins H' C → compPost (model X.prog X.w) X.A X.xe use Qf (.ref D) C (.ok .next) s') :
    wpAny (model X.prog X.w) X.A (comprehension (.DictComp kx vx [⟨tg, iter, ifs, 0⟩] scope pos) scope X.env pos' (newDict) false (eval iter X.env) use) Qf X.xe s := by
  have captured : ∀ y ∈ scope.names, y.2 = .free → ∃ c, X.env.cells.lookup y.1 = some c := fun y hy e => by
    rcases ok.free y hy e with q | q
    · exact I.ok.has _ (.inl q)
    · exact I.ok.has _ (.inr q)
  refine wpAny_comprehension_free (use := use) rfl fold (closure_ok captured) ok.kind (fun y hy e => by rw [ok.uniq y hy, e])
    (thn (hi.run pins s σ H _ I h) fun xv r1 hx => thn hx fun itv r2 h2 => ?_)
  obtain ⟨it, fp, tn, J, H2, e, I2, T, st2, f2, q⟩ := h2
  subst e
  refine wpAny_newObj_type (newEnv_comp ?_)
  generalize eD : r2.heap.objs.size = D
  have fresh : H2 D = none := I2.hok.fresh (Nat.le_of_eq eD)
  obtain ⟨W, ⟨m0, w0⟩, turn⟩ := q D fresh
  generalize e3 : ({ r2 with heap := r2.heap.push { cls := .type "dict", data := .dict #[] } } : Shared) = r3
  have I3 : Inv X pins σ (upd H2 D (.dT [])) r3 := by
    rw [← e3]
    refine I2.laid (t' := r2.toks) (fun b o e => Heap.get?_push_of_some _ e) (Nat.le_of_eq eD) ?_
    rw [← eD]
    exact dt_empty r2.heap I2.big
  have hp3 : r3.heap = r2.heap.push { cls := .type "dict", data := .dict #[] } := by rw [← e3]
  have below : ∀ b ∈ fp, b < r2.heap.objs.size := fun b hb => by
    obtain ⟨o, e, _⟩ := T.obj _ _ st2 b hb
    exact Heap.lt_size e
  have f3 : ∀ b ∈ fp, FpOk X pins (upd H2 D (.dT [])) b ∧ b < r3.heap.objs.size := fun b hb => by
    have lt := below b hb
    refine ⟨⟨?_, (f2 b hb).2⟩, by rw [hp3, Heap.size_push]; exact Nat.lt_succ_of_lt lt⟩
    rw [upd_ne (by rw [← eD]; exact Nat.ne_of_lt lt)]
    exact (f2 b hb).1
  have st3 : tn 0 r3.heap := T.keep _ _ _ st2 fun b _ o e => by rw [hp3]; exact Heap.get?_push_of_some _ e
  have I4 := block_start I3 ok nodup f3
  have pgo := hg r3 (upd H2 D (.dT [])) r3.heap.objs.size (cellsFrom (r3.heap.objs.size + 1) scope.names (cloFrom X.env.cells scope.names [])) fp
  have pte := ht r3 (upd H2 D (.dT [])) r3.heap.objs.size (cellsFrom (r3.heap.objs.size + 1) scope.names (cloFrom X.env.cells scope.names [])) fp
  have pky := hk r3 (upd H2 D (.dT [])) r3.heap.objs.size (cellsFrom (r3.heap.objs.size + 1) scope.names (cloFrom X.env.cells scope.names [])) fp
  have pel := he r3 (upd H2 D (.dT [])) r3.heap.objs.size (cellsFrom (r3.heap.objs.size + 1) scope.names (cloFrom X.env.cells scope.names [])) fp
  show codeAny _ _ (.compStart (.DictComp kx vx [⟨tg, iter, ifs, 0⟩] scope pos) 0 (.ref it) (.ref D) (compEnvC scope (cellsFrom (r3.heap.objs.size + 1) scope.names (cloFrom X.env.cells scope.names [])) r3.heap.objs.size X.env)) (compPost (model X.prog X.w) X.A X.xe use Qf (.ref D) r3.heap.objs.size) { r3 with heap := pushCells (r3.heap.push { cls := .type "dict", data := .dict #[] }) scope.names }
  have nfp : ∀ b ∈ fp, (upd H2 D (.dT [])) b = none := fun b hb => (f3 b hb).1.1
  generalize ece : compEnvC scope (cellsFrom (r3.heap.objs.size + 1) scope.names (cloFrom X.env.cells scope.names [])) r3.heap.objs.size X.env = ce at I4 pgo pte pky pel ⊢
  have eL : ce.locals = r3.heap.objs.size := by subst ece; rfl
  generalize eH3 : upd H2 D (.dT []) = H3 at I3 I4 pgo pte pky pel w0 nfp f3
  generalize e4 : ({ r3 with heap := pushCells (r3.heap.push { cls := .type "dict", data := .dict #[] }) scope.names } : Shared) = r4 at I4 ⊢
  have st4 : tn 0 r4.heap := T.keep _ _ _ st3 fun b _ o e => by rw [← e4]; exact pushCells_keeps _ _ _ _ (Heap.get?_push_of_some _ e)
  have stat : ∀ {σ' : L2.St} {H' : Hp} {s' : Shared}, Inv (X.blk r3 H3 scope ce fp) [] σ' H' s' → (∀ b ∈ fp, H' b = none) → ∀ b ∈ fp, FpOk (X.blk r3 H3 scope ce fp) [] H' b := by
    intro σ' H' s' I' hn b hb
    exact ⟨hn b hb, (I'.ok.exf b hb).1, I'.ok.exfs b hb, .inl hb, fun x c e => (I'.ok.exf b hb).2 x c e, fun p hp => absurd (show p ∈ ([] : List (Addr × Obj)) ++ [] from hp) (by simp)⟩
  have loop : codeAny (model X.prog X.w) X.A (.compLoop (.DictComp kx vx [⟨tg, iter, ifs, 0⟩] scope pos) 0 (.ref it) (.ref D) ce) (compPost (model X.prog X.w) X.A X.xe use Qf (.ref D) r3.heap.objs.size) r4 := by
    refine compLoop_anyD (fun n s' => ∃ i H', Inv (X.blk r3 H3 scope ce fp) [] (wipe σ (own.map (·.2))) H' s' ∧ tn i s'.heap ∧ (∀ b ∈ fp, H' b = none) ∧ W i n H') ?_ m0 ⟨0, H3, I4, st4, nfp, w0⟩
    rintro n r5 ⟨i, H5, I5, st5, n5, w5⟩
    rcases turn i n H5 w5 with ⟨stop, qq⟩ | ⟨go, Nx, hNx, step⟩
    · have td := T.done (X.blk r3 H3 scope ce fp) rfl rfl rfl calm i [] r5 _ H5 (fun _ _ => False) I5 (stat I5 n5) st5 stop
      refine thnF td fun r r6 ⟨hr, I6⟩ => ?_
      subst hr
      have I7 : Inv X pins σ H5 r6 := I3.call' (ch := fp) I6.os I6.base I6.hok I6.bare fun b hb => ⟨(f3 b hb).1.2.2.2.1, (f3 b hb).1.2.1, (f3 b hb).1.2.2.2.2.1, (f3 b hb).1.2.2.2.2.2⟩
      have nC : H5 r3.heap.objs.size = none := by
        have z : H5 ce.locals = none := I6.free
        rwa [eL] at z
      obtain ⟨m, hn, _⟩ := I6.loc
      have hn' : r6.heap.Ns ce.locals m := hn
      rw [eL] at hn'
      exact after D r3.heap.objs.size r6 m H5 I7 qq hn' (I3.fpOk (Nat.le_refl _) nC)
    · have ti := T.item (X.blk r3 H3 scope ce fp) rfl rfl rfl calm i [] r5 _ H5 (fun _ _ => False) I5 (stat I5 n5) st5 go
      refine thnF ti fun r r6 ⟨u, hr, h6⟩ => ?_
      subst hr
      refine thnF h6 fun _ r7 ⟨x, H7, I7, rl7, y7, st7, n7⟩ => ?_
      have I7' := I7.pinned (stat I7 n7) (T.obj _ _ st7)
      refine thnF (pgo.run _ r7 _ H7 x u _ I7' rl7 (step x H7 y7)) fun _ r8 ⟨σ8, H8, I8, hw8, q8⟩ => ?_
      refine thnF (pte.run _ r8 σ8 H8 _ I8 q8) fun b r9 ⟨H9, I9, q9⟩ => ?_
      have fin : ∀ {s' : Shared} {H' : Hp}, Inv (X.blk r3 H3 scope ce fp) ([] ++ pinsAt fp r7.heap) σ8 H' s' → Nx H' → ∃ m, m < n ∧ ∃ i H', Inv (X.blk r3 H3 scope ce fp) [] (wipe σ (own.map (·.2))) H' s' ∧ tn i s'.heap ∧ (∀ b ∈ fp, H' b = none) ∧ W i m H' := by
        intro s' H' I' nx
        obtain ⟨m', hm, w'⟩ := hNx H' nx
        have pin' : ∀ b ∈ fp, ∀ o, r7.heap.get? b = some o → s'.heap.get? b = some o ∧ H' b = none := fun b hb o e =>
          have z := I'.pin (b, o) (List.mem_append_right _ (List.mem_append_right _ (mem_pinsAt hb e)))
          ⟨z.1, z.2.1⟩
        have len : (wipe σ (own.map (·.2))).length = σ8.length := by rw [← hw8, wipe_length]
        refine ⟨m', hm, i + 1, H', (I'.unpinned (pins := [])).weak len (fun j v e => ?_), T.keep _ _ _ st7 fun b hb o e => (pin' b hb o e).1, fun b hb => ?_, w'⟩
        · rw [← hw8] at e
          exact (wipe_some e).1
        · obtain ⟨o, e, _⟩ := T.obj _ _ st7 b hb
          exact (pin' b hb o e).2
      cases b with
      | false =>
        simp only [Bool.false_eq_true, if_false] at q9 ⊢
        exact fin I9 q9
      | true =>
        simp only [if_true] at q9 ⊢
        refine thnF (pky.run _ r9 σ8 H9 _ I9 q9) fun z r10 ⟨yk, H10, I10, rl10, q10⟩ => ?_
        refine thnF (pel.run _ r10 σ8 H10 _ I10 q10) fun z2 r11 ⟨yv, H11, I11, rl11, kvs, k, xa, ey, hx11, hD11, few, nx⟩ => ?_
        subst ey
        exact dT_dictSet (X := X.blk r3 H3 scope ce fp) hu I11 hD11 hx11 few rl10 rl11 fun r12 I12 => fin I12 nx
  exact codeAny_compStart_dict loop (T.self X.A 0 _ _ _ st4 loop)
theorem pe_dcT {kx vx tg iter : Expr} {ifs : List Expr} {scope : Scope} {own : List (PySem.Str × Nat)} {pos : Pos} {wi : TI} {g : TG} {tt : TT} {tk tv : TE} (hu : X.A.units + 8 < cLine) (calm : X.calm = true) (nodup : X.N.Nodup) (hi : PI X tg iter wi) (ok : BlkOk X.N X.env.scope scope own)
    (hg : ∀ (z : Shared) (H : Hp) (C : Addr) (cl : List (PySem.Str × Addr)) (fp : List Addr), PG (X.blk z H scope (compEnvC scope cl C X.env) fp) tg g) (ht : ∀ (z : Shared) (H : Hp) (C : Addr) (cl : List (PySem.Str × Addr)) (fp : List Addr), PTs (X.blk z H scope (compEnvC scope cl C X.env) fp) ifs tt)
    (hk : ∀ (z : Shared) (H : Hp) (C : Addr) (cl : List (PySem.Str × Addr)) (fp : List Addr), PE (X.blk z H scope (compEnvC scope cl C X.env) fp) kx tk) (he : ∀ (z : Shared) (H : Hp) (C : Addr) (cl : List (PySem.Str × Addr)) (fp : List Addr), PE (X.blk z H scope (compEnvC scope cl C X.env) fp) vx tv) (fold : ∀ x, foldedSetIterable iter X.env x = pure x := by intro _; rfl) :
    PE X (.DictComp kx vx [⟨tg, iter, ifs, 0⟩] scope pos) (tDcT wi g tt tk tv (own.map (·.2))) := by
  refine ⟨fun pins s σ H Q I h => ?_⟩
  rw [arm_eval_DictComp]
  refine dcT_core hu calm nodup I hi ok hg ht hk he fold h fun D C s' m H' I' q hn f => ⟨m, hn, fun h'' sb => ?_⟩
  obtain ⟨f0, f1, f2, f3, f4, f5⟩ := f
  exact ⟨.ref D, H', I'.turned (t' := s'.toks) (fun b o hb e => (sb.2 b hb).trans e) f0 f1 f3 f4 f5, rfl, q⟩
end
end G

/-! ## G16: classes of the text: methods by name; len of an object -/
namespace G
open PySem PySem.Spec PyProof.Rows L2
/-- the class Cluster as the text has made it -/
structure ClsT (K : PySem.W.Frag) (mg : Str → Option Value) (C : Addr) : Prop where
  cl : Cls K C
  nL : NoAttr K C "limits"
  nR : NoAttr K C "rows"
  nN : NoAttr K C "numbers"
  mgC : mg "Cluster" = some (.ref C)
  mks : PySem.W.makesIn K C = true
  kc : PySem.W.keepIn K (.ref C) = true
/-- the method m of C is the def st -/
def MDef (K : PySem.W.Frag) (C : Addr) (m q : Str) (st : Stmt) (ps : List Str) : Prop := ∃ f fd, Fun K m q st f fd ∧ Meth K C m f ∧ Binds K fd ps []
/-- the method m of C keeps the promise -/
def MCal (P : Program) (w : World) (K : PySem.W.Frag) (mg : Str → Option Value) (base : Heap) (cx : CXT) (k : Nat) (C : Addr) (m : Str) (ps : List Str) (sp : Sp) : Prop :=
  ∃ f fd, FnOk P w K mg base cx k f fd ps sp ∧ Meth K C m f ∧ Binds K fd ps []
theorem mdef_mk {K : PySem.W.Frag} {C : Addr} {m q : Str} {st : Stmt} {ps : List Str} {f : Addr} {oc : Value} {od an : Option Addr} {osl : Array (Option Value)} {kV doc pm cdv ct : Value}
    (a : PySem.W.findIn K (.ref C) m = some (some (.ref f))) (i : PySem.W.isFn K (.ref f) = true) (l : K.lookup f = some ⟨oc, od, .func (PySem.W.fnOf m q (defArgs st) (defBody st) (defScope st) .none kV doc pm an cdv ct), osl⟩) (c : PySem.W.codeIn K cdv q = true) (k : PySem.W.keepIn K (.ref f) = true)
    (hb : ∀ (kV doc pm : Value) (an : Option Addr) (cdv ct : Value) (us : List Value), us.length = ps.length → bindArgs (PySem.W.fnOf m q (defArgs st) (defBody st) (defScope st) .none kV doc pm an cdv ct) ⟨us, []⟩ = pure (ps.zip us)) : MDef K C m q st ps :=
  have F := fun_mk (st := st) l c k
  ⟨f, _, F, ⟨a, i, k⟩, F.binds hb⟩
section
variable {P : Program} {w : World} {K : PySem.W.Frag} {mg : Str → Option Value} {base : Heap} {cx : CXT} {k : Nat} {C : Addr} {m q : Str} {ps N : List Str} {sp : Sp} {st : Stmt}
theorem MDef.ok (D : MDef K C m q st ps) (S : FnScope N ps (defScope st)) (ln : ∀ vs H Q E, sp vs H Q E → vs.length = ps.length)
    (bd : ∀ (f : Addr) (cdv : Value) (A : Around) (out : List Env) (s : Shared) (H : Hp) (vs : List V) (Q : VK) (E : XK), Room k (A.deeper (envOfC q (defScope st) s.heap.objs.size f cdv)) → sp vs H Q E →
      ∃ t, PSs (cxOf CX0 P w K mg base N q (defScope st) f cdv A out s H E).nox (defBody st) t ∧ t { nx := fun _ H' => Q .non H', rt := Q } (start N vs) H) : MCal P w K mg base CX0 (k + 1) C m ps sp := by
  obtain ⟨f, fd, F, mt, b⟩ := D
  exact ⟨f, fd, F.ok S ln fun cdv A out s H vs Q E hr h => bd f cdv A out s H vs Q E hr h, mt, b⟩
end
section
variable {X : Cx} {cx : CXT} {k : Nat} {C : Addr} {ps : List Str} {sp : Sp} {E : XK} {m x : Str} {o e : Expr} {es : List Expr} {ta : TE} {t : TA} {p apos pos : Pos}
theorem pe_m {pl : Sem Bool} (c : MCal X.prog X.w X.K X.mg X.base cx k C m ps sp) (cl : Cls X.K C) (hr : Room k X.A) (hx : Passes cx X E) (he : PE X o ta) (ha : PA X (e :: es) t)
    (hst : starEach (e :: es) X.env = (false, eval e X.env) :: starEach es X.env := by rfl) (hpl : (backTo pos (starEach es X.env)).any (·.1) = false := by rfl)
    (ht : eval (.Call (.Attribute o m apos) (e :: es) [] pos) X.env = (do
      let ov ← eval o X.env
      standAt apos.atName
      let (f, first) ← holding [ov] (getMethod ov m pl)
      callWith pos f first (backTo pos (starEach (e :: es) X.env)) (backToKw pos (keywordEach [] X.env))) := by rfl) :
    PE X (.Call (.Attribute o m apos) (e :: es) [] pos) (tMeth C m sp [] E ta t) := by
  obtain ⟨f, fd, F, mt, b⟩ := c
  exact pe_meth he cl mt F hr b .nil hx ha hst hpl ht
theorem pe_m0 {pl : Sem Bool} (c : MCal X.prog X.w X.K X.mg X.base cx k C m ps sp) (cl : Cls X.K C) (hr : Room k X.A) (hx : Passes cx X E) (he : PE X o ta)
    (ht : eval (.Call (.Attribute o m apos) [] [] pos) X.env = (do
      let ov ← eval o X.env
      standAt apos.atName
      let (f, first) ← holding [ov] (getMethod ov m pl)
      callWith pos f first (backTo pos (starEach [] X.env)) (backToKw pos (keywordEach [] X.env))) := by rfl) :
    PE X (.Call (.Attribute o m apos) [] [] pos) (tMeth C m sp [] E ta tNil) := by
  obtain ⟨f, fd, F, mt, b⟩ := c
  exact pe_meth0 he cl mt F hr b .nil hx ht
theorem pe_mk (c : MCal X.prog X.w X.K X.mg X.base cx k C "__init__" ps sp) (mk : PySem.W.makesIn X.K C = true) (kc : PySem.W.keepIn X.K (.ref C) = true) (hm : X.mg x = some (.ref C)) (hr : Room (k + 1) X.A) (hx : Passes cx X E) (ha : PA X (e :: es) t) (hg : Gl X x := by rfl)
    (hdb : (x == ("__debug__" : Str)) = false := by decide) (he : starEach (e :: es) X.env = (false, eval e X.env) :: starEach es X.env := by rfl) (hpl : (backTo pos (starEach es X.env)).any (·.1) = false := by rfl) :
    PE X (.Call (.Name x p) (e :: es) [] pos) (tMake C sp [] E t) := by
  obtain ⟨f, fd, F, mt, b⟩ := c
  exact pe_make ⟨mk, mt.at_, mt.fn, kc⟩ F hr hg hm b .nil hx ha hdb he hpl
/-- len(o) by the class's own __len__ -/
theorem call_lenO (c : MCal X.prog X.w X.K X.mg X.base cx k C "__len__" ps sp) (hr : Room (k + 1) X.A) (hx : Passes cx X E) : CallR X (.builtin "len") (fun xs H Q => ∃ a dx fs, xs = [.ref a] ∧ H a = some (.ins C dx fs) ∧ sp [.ref a] H (fun v H' => ∃ n : Int, v = .int n ∧ 0 ≤ n ∧ n < 2 ^ 63 ∧ Q v H') E) := by
  obtain ⟨f, fd, F, mt, b⟩ := c
  intro pins s σ H xs us Q I r h
  obtain ⟨a, dx, fs, rfl, ha, q⟩ := h
  obtain ⟨u, rfl, ru⟩ := vals1 r
  cases (show u = Value.ref a from ru)
  obtain ⟨mA, O, _⟩ := ins_get I.hok ha
  obtain ⟨od, J, _⟩ := O.look
  have r2 : Vals [V.ref a] [Value.ref a] := .cons rfl .nil
  have hl : [Value.ref a].length = ps.length := by rw [← r2.length]; exact F.len _ _ _ _ q
  have core : wpAny (model X.prog X.w) X.A.in1 (call (.ref f) [.ref a]) (PySem.W.LenBack (EP X pins σ Q)) X.xe s := by
    refine wpAny_call (codeAny_mono (F.run X.A.in1 X.stack s H ⟨[.ref a], []⟩ [.ref a] [.ref a] _ E hr.in1 I.env0.in1 (b s [.ref a] I.kIn hl) r2 q) fun rr s' hq => ?_)
    cases rr with
    | error e => exact hx pins σ H s e s' I hq
    | ok fl =>
      cases fl with
      | ret u =>
        obtain ⟨v, H', I3, rv, n, rfl, n0, n1, q3⟩ := I.after hq
        obtain ⟨tk, rfl⟩ := rv
        exact ⟨⟨n0, n1⟩, .int n, H', I3.tok _, ⟨_, rfl⟩, q3⟩
      | next => exact False.elim hq
      | brk => exact False.elim hq
      | cont => exact False.elim hq
  refine Calls.call_function_entry kind_len plain_len entry_len (args_len1 _) ?_
  unfold Builtin.«len»
  refine wpAny_bind (m := oneArg "len" _) (wpAny_pure ?_)
  refine wpAny_bind (m := callSpecial? (.ref a) (Str.ofString "__len__")) (PySem.W.special_fn I.kIn J mt.at_ (beq_iff_eq.mp mt.fn) (wpAny_mono core (fun rr s' hv => ?_) fun _ _ y => y))
  cases rr <;> first | exact hv.elim | skip
  rename_i n u
  obtain ⟨⟨n0, n1⟩, qq⟩ := hv
  refine wpAny_bind (wpAny_holding (wpAny_pure (wpAny_bind (wpAny_letGo ?_))))
  show wpAny _ _ (if n < 0 then _ else if n ≥ 2 ^ 63 then _ else _) _ _ _
  rw [if_neg (by omega), if_neg (by omega)]
  exact wpAny_bind (wpAny_mkInt (wpAny_pure ⟨_, rfl, qq⟩))
end
end G

/-! ## G17: a Cluster on the heap -/
namespace G
open PySem PySem.Spec PyProof.Rows L2
/-- {key: val for number, x in enumerate(xs)} over a list that stays -/
theorem dcT_enum {K : PySem.W.Frag} {a : Addr} {xs : List V} {g : TG} {tt : TT} {tk tv : TE} {vs : List Nat} {σ : L2.St} {H1 : Hp} {D : Addr} {Qd : Hp → Prop} (Pv : Nat → Hp → Prop) (h0 : Pv 0 (upd H1 D (.dT []))) (hl : ∀ i H, Pv i H → SqL K H a xs)
    (hs : ∀ (i : Nat) x T H, xs[i]? = some x → Pv i H → H T = none → g (.ref T) (wipe σ vs) (upd H T (.tup [.int (i : Nat), x])) fun σ2 H2 => wipe σ2 vs = wipe σ vs ∧ tt σ2 H2 fun b H3 =>
      if b = true then tk σ2 H3 fun y H4 => tv σ2 H4 fun z H5 => ∃ (kvs : List (List Key × V)) (k : List Key) (x : Addr), y = .ref x ∧ H5 x = some (.tup (k.map kV)) ∧ H5 D = some (.dT kvs) ∧ kvs.length < sizeLine ∧ Pv (i + 1) (upd H5 D (.dT (putK kvs k z))) else Pv (i + 1) H3) (hd : ∀ H, Pv xs.length H → Qd H) :
    ∃ W : Nat → Nat → Hp → Prop, (∃ m, W 0 m (upd H1 D (.dT []))) ∧ ∀ i m H, W i m H →
      ((Ite K a).stop i H ∧ Qd H) ∨ ((Ite K a).go i H ∧ ∃ Nx : Hp → Prop, (∀ H', Nx H' → ∃ m', m' < m ∧ W (i + 1) m' H') ∧ ∀ x H', (Ite K a).yld i H x H' → g x (wipe σ vs) H' fun σ2 H2 => wipe σ2 vs = wipe σ vs ∧ tt σ2 H2 fun b H3 =>
        if b = true then tk σ2 H3 fun y H4 => tv σ2 H4 fun z H5 => ∃ (kvs : List (List Key × V)) (k : List Key) (x : Addr), y = .ref x ∧ H5 x = some (.tup (k.map kV)) ∧ H5 D = some (.dT kvs) ∧ kvs.length < sizeLine ∧ Nx (upd H5 D (.dT (putK kvs k z))) else Nx H3) := by
  refine ⟨fun i m H => m + i = xs.length ∧ Pv i H, ⟨xs.length, Nat.add_zero _, h0⟩, ?_⟩
  rintro i m H ⟨em, p⟩
  have q := hl i H p
  by_cases lt : i < xs.length
  · refine .inr ⟨⟨xs, _, q, List.getElem?_eq_getElem lt⟩, Pv (i + 1), fun H' p' => ⟨m - 1, by omega, by omega, p'⟩, fun v H' y => ?_⟩
    obtain ⟨T, x, rfl, hT, rfl, f⟩ := y
    exact hs i x T H (f xs q) p hT
  · have e : i = xs.length := by omega
    subst e
    exact .inl ⟨⟨xs, q, Nat.le_refl _⟩, hd H p⟩
/-- the place of the bundle of f and s -/
def idx (bs : List Bun) (f s : Int) : Option Nat := bs.findIdx? fun t => t.1 == f && t.2.1 == s
def NumOk (kvs : List (List Key × V)) (bs : List Bun) : Prop := ∀ f s : Int, valV kvs [Sum.inl f, Sum.inl s] = (idx bs f s).map fun i => V.int (i : Int)
theorem idx_step {bs : List Bun} {i : Nat} {t : Bun} (nd : (bs.map bkey).Nodup) (ht : bs[i]? = some t) (f s : Int) : idx (bs.take (i + 1)) f s = if f = t.1 ∧ s = t.2.1 then some i else idx (bs.take i) f s := by
  have hi : i < bs.length := (List.getElem?_eq_some_iff.mp ht).1
  have e : bs.take (i + 1) = bs.take i ++ [t] := by rw [List.take_succ, ht]; rfl
  unfold idx
  rw [e, List.findIdx?_append, List.length_take, Nat.min_eq_left (Nat.le_of_lt hi)]
  by_cases h : f = t.1 ∧ s = t.2.1
  · rw [if_pos h]
    obtain ⟨rfl, rfl⟩ := h
    have n : (bs.take i).findIdx? (fun u => u.1 == t.1 && u.2.1 == t.2.1) = none := by
      rw [List.findIdx?_eq_none_iff]
      intro u hu
      rw [Bool.eq_false_iff]
      intro hc
      rw [Bool.and_eq_true, beq_iff_eq, beq_iff_eq] at hc
      obtain ⟨j, hj⟩ := List.getElem?_of_mem hu
      have hji : j < i := by
        have := (List.getElem?_eq_some_iff.mp hj).1
        rw [List.length_take] at this
        omega
      rw [List.getElem?_take_of_lt hji] at hj
      have k1 : (bs.map bkey)[j]? = some (bkey t) := by rw [List.getElem?_map, hj]; exact congrArg some (Prod.ext hc.1 hc.2)
      have k2 : (bs.map bkey)[i]? = some (bkey t) := by rw [List.getElem?_map, ht]; rfl
      have := (List.getElem?_inj (by rw [List.length_map]; omega) nd).mp (k1.trans k2.symm)
      omega
    rw [n]
    simp
  · rw [if_neg h]
    have n : [t].findIdx? (fun u => u.1 == f && u.2.1 == s) = none := by
      rw [List.findIdx?_eq_none_iff]
      intro u hu
      rw [List.mem_singleton.mp hu, Bool.eq_false_iff]
      intro hc
      rw [Bool.and_eq_true, beq_iff_eq, beq_iff_eq] at hc
      exact h ⟨hc.1.symm, hc.2.symm⟩
    rw [n]
    simp
theorem NumOk.step {kvs : List (List Key × V)} {bs : List Bun} {i : Nat} {t : Bun} (h : NumOk kvs (bs.take i)) (nd : (bs.map bkey).Nodup) (ht : bs[i]? = some t) : NumOk (putK kvs [Sum.inl t.1, Sum.inl t.2.1] (.int (i : Int))) (bs.take (i + 1)) := by
  intro f s
  rw [valV_put, h f s, idx_step nd ht]
  by_cases e : f = t.1 ∧ s = t.2.1
  · obtain ⟨rfl, rfl⟩ := e
    rw [if_pos rfl, if_pos ⟨rfl, rfl⟩]
    rfl
  · rw [if_neg e, if_neg]
    intro q
    injection q with q1 q2
    injection q2 with q2 _
    injection q1 with q1
    injection q2 with q2
    exact e ⟨q1, q2⟩
/-- the attributes of a Cluster -/
def fldsC (l r d : Addr) : List (Str × V) := putF "numbers" (.ref d) (putF "rows" (.ref r) (putF "limits" (.ref l) []))
theorem fC_l {l r d : Addr} : (fldsC l r d).lookup ("limits" : Str) = some (.ref l) := by
  unfold fldsC
  rw [lookup_putF, if_neg (by decide +kernel), lookup_putF, if_neg (by decide +kernel), lookup_putF, if_pos rfl]
theorem fC_r {l r d : Addr} : (fldsC l r d).lookup ("rows" : Str) = some (.ref r) := by
  unfold fldsC
  rw [lookup_putF, if_neg (by decide +kernel), lookup_putF, if_pos rfl]
theorem fC_d {l r d : Addr} : (fldsC l r d).lookup ("numbers" : Str) = some (.ref d) := by
  unfold fldsC
  rw [lookup_putF, if_pos rfl]
theorem fC_no {l r d : Addr} {m : Str} (h1 : ¬ m = "numbers") (h2 : ¬ m = "rows") (h3 : ¬ m = "limits") : (fldsC l r d).lookup m = none := by
  unfold fldsC
  rw [lookup_putF, if_neg h1, lookup_putF, if_neg h2, lookup_putF, if_neg h3]
  rfl
/-- a Cluster stands at p -/
structure ClAt (K : PySem.W.Frag) (C : Addr) (H : Hp) (p : Addr) (bs : List Bun) (cs : List Bnd) : Prop where
  ex : ∃ (dx l r d : Addr) (us ws : List V) (kvs : List (List Key × V)), H p = some (.ins C dx (fldsC l r d)) ∧ H l = some (.lst us) ∧ DaL K H us (cs.map cD) ∧ H r = some (.lst ws) ∧ DaL K H ws (bs.map bD) ∧ H d = some (.dT kvs) ∧ NumOk kvs bs
theorem ClAt.mono {K : PySem.W.Frag} {C : Addr} {H H' : Hp} {p : Addr} {bs : List Bun} {cs : List Bnd} (h : ClAt K C H p bs cs) (e : Same H H') : ClAt K C H' p bs cs := by
  obtain ⟨dx, l, r, d, us, ws, kvs, h1, h2, h3, h4, h5, h6, h7⟩ := h.ex
  exact ⟨dx, l, r, d, us, ws, kvs, e _ _ h1, e _ _ h2, h3.mono e, e _ _ h4, h5.mono e, e _ _ h6, h7⟩
/-- Cluster.__init__, of bounds and bundles that are as they should be; b stands aside -/
def sp_init (K : PySem.W.Frag) (C : Addr) : Sp := fun vs H Q _ => ∃ (b p dx : Addr) (x y : V) (cs : List Bnd) (bs : List Bun), vs = [.ref p, x, y] ∧ H p = some (.ins C dx []) ∧ H b ≠ none ∧ b ≠ p ∧ Da K (hid b (hid p H)) x (.list (cs.map cD)) ∧ Da K (hid b (hid p H)) y (.list (bs.map bD)) ∧
  areBoundsD (.list (cs.map cD)) = true ∧ areBundlesD (cs.length : Int) (.list (bs.map bD)) = true ∧ ∀ H', Same (hid p H) H' → ClAt K C (hid b H') p bs cs → Q .non H'
end G
namespace G
open PySem PySem.Spec PyProof.Rows L2
theorem hid_put {p : Addr} {H G : Hp} {o : HO} (e : Same (hid p H) G) : Same (hid p H) (upd G p o) := fun a u h => by
  by_cases q : a = p
  · subst q; rw [hid_at] at h; cases h
  · rw [upd_ne q]; exact e _ _ h
theorem areB_nd {n : Int} {bs : List Bun} (h : areBundlesD n (.list (bs.map bD)) = true) : bs.length ≤ 45 ∧ (bs.map bkey).Nodup := by
  have k : areBundlesD n (.list (bs.map bD)) = (decide ((bs.map bD).length ≤ 45) && (bs.map bD).all (isBundleD n) && decide (((bs.map bD).map pairOf).Nodup)) := rfl
  rw [k, Bool.and_eq_true, Bool.and_eq_true, decide_eq_true_iff, decide_eq_true_iff, List.length_map] at h
  refine ⟨h.1.1, ?_⟩
  have q := h.2
  rw [List.map_map] at q
  have e : bs.map (pairOf ∘ bD) = (bs.map bkey).map fun c => [c.1, c.2] := by
    rw [List.map_map]
    rfl
  rw [e] at q
  exact List.Pairwise.imp (fun h e => h (by rw [e])) (List.pairwise_map.mp q)
end G

/-! ## G18: leads -/
namespace G
open PySem PySem.Spec PyProof.Rows L2
theorem walk_zipP {K : PySem.W.Frag} {t : Bool} {a b : Addr} {xs ys : List V} (hl : xs.length = ys.length) : Walk (ItzP K t a b) xs.length (fun H => LT K t a H xs ∧ SqL K H b ys) (YPair (fun i => xs[i]?) (fun i => ys[i]?)) := by
  refine ⟨fun i H hi q => ⟨xs, ys, _, _, q.1, q.2, List.getElem?_eq_getElem hi, List.getElem?_eq_getElem (hl ▸ hi)⟩, fun H q => ⟨xs, ys, q.1, q.2, Or.inl ⟨rfl, Nat.le_of_eq hl⟩⟩, fun i H v H' hi q y => ?_⟩
  obtain ⟨T, x, y, h1, h2, h3, h4, h5⟩ := y
  exact ⟨T, x, y, h1, h2, h3, h4 xs q.1, h5 ys q.2⟩
def leadB (d : PyData) (t : Bun) : Bool := betw d 0 t.2.2
def areLeadsD (bs : List Bun) : PyData → Bool
  | .tuple ds => decide (ds.length = bs.length) && (List.zipWith leadB ds bs).all id
  | _ => false
/-- len(cluster) -/
def sp_clen (K : PySem.W.Frag) (C : Addr) : Sp := fun vs H Q _ => ∃ (p : Addr) (bs : List Bun) (cs : List Bnd), vs = [.ref p] ∧ ClAt K C H p bs cs ∧ Q (.int (bs.length : Int)) H
/-- cluster.bundles(), a new list -/
def sp_blist (K : PySem.W.Frag) (C : Addr) : Sp := fun vs H Q _ => ∃ (p : Addr) (G : Hp) (bs : List Bun) (cs : List Bnd), vs = [.ref p] ∧ Same G H ∧ ClAt K C G p bs cs ∧ ∀ (l : Addr) (ws : List V), H l = none → DaL K G ws (bs.map bD) → Q (.ref l) (upd H l (.lst ws))
def sp_are_leads (K : PySem.W.Frag) (C : Addr) : Sp := fun vs H Q _ => ∃ (p : Addr) (v : V) (d : PyData) (bs : List Bun) (cs : List Bnd), vs = [.ref p, v] ∧ ClAt K C H p bs cs ∧ bs.length ≤ 1000 ∧ Da K H v d ∧ ∀ H', Same H H' → Q (.bl (areLeadsD bs d)) H'
def sp_law_are_leads (K : PySem.W.Frag) : Sp := fun vs H Q _ => ∃ (x v : V) (d : PyData) (bs : List Bun), vs = [x, v] ∧ Da K H x (.list (bs.map bD)) ∧ Da K H v d ∧ ∀ H', Same H H' → Q (.bl (areLeadsD bs d)) H'
theorem zw_get {ds : List PyData} {bs : List Bun} {i : Nat} {d : PyData} {t : Bun} (h1 : ds[i]? = some d) (h2 : bs[i]? = some t) : (List.zipWith leadB ds bs)[i]? = some (leadB d t) := by
  rw [List.getElem?_zipWith, h1, h2]
end G
namespace G
open PySem PySem.Spec PyProof.Rows L2
/-- str(i) as data -/
theorem Sm.itxt {i : Int} (h : i.natAbs < 10 ^ 45) : Sm 0 500 (PyData.str (toString i)) := by
  refine ⟨rfl, Nat.le_refl _, ?_⟩
  show (reprText (Str.ofString (toString i))).length ≤ 500
  have e := int_text_length_le10 (a := i) (k := 45) (by decide) h
  have q := StrLaws.reprText_len (Str.ofString (toString i)) fun c hc => by
    by_cases hb : c < 16 ^ 8
    · exact hb
    · exact absurd hc (int_text_free' c ⟨by omega, Or.inr (by omega)⟩ i)
  rw [PySem.ofString_length] at q
  omega
theorem leads_int {n : Int} {bs : List Bun} {ms : List Int} (ho : BunsOk n bs) (hm : LeadsOk ms bs) : ∀ z ∈ ms, 0 ≤ z ∧ z ≤ 1000000000000000000 := fun z hz => by
  obtain ⟨i, hi⟩ := List.getElem?_of_mem hz
  have hl : i < bs.length := by rw [← hm.1]; exact (List.getElem?_eq_some_iff.mp hi).1
  have h1 := hm.2 i z bs[i] hi (List.getElem?_eq_getElem hl)
  have h2 := (ho.each bs[i] (List.getElem_mem hl)).pm
  omega
theorem sm_leads {n : Int} {bs : List Bun} {ms : List Int} (ho : BunsOk n bs) (hm : LeadsOk ms bs) : ∀ d ∈ ms.map PyData.int, Sm 4 100000 d := fun d hd => by
  obtain ⟨z, hz, rfl⟩ := List.mem_map.mp hd
  have := leads_int ho hm z hz
  exact (Sm.int (by rw [c45]; omega)).up (by decide) (by decide)
/-- leads bent somehow -/
def sp_bentL (K : PySem.W.Frag) : Sp := fun vs H Q _ => ∃ (b : Addr) (x l : V) (n : Int) (bs : List Bun) (ms : List Int), vs = [.ref b, x, l] ∧ BagOk b H ∧ Da K (hid b H) x (.list (bs.map bD)) ∧ Da K (hid b H) l (.tuple (ms.map PyData.int)) ∧ BunsOk n bs ∧ LeadsOk ms bs ∧ bs ≠ [] ∧
  ∀ v d H', Go b H H' → Da K (hid b H') v d → Sm 7 16000000 d → Q v H'
end G
namespace G
open PySem PySem.Spec PyProof.Rows L2
theorem are_bnds {cs : List Bnd} (h2 : 2 ≤ cs.length) (h10 : cs.length ≤ 10) (h : ∀ c ∈ cs, 0 ≤ c.1 ∧ c.1 ≤ c.2 ∧ c.2 ≤ 1000000000000000000000000000000) : areBoundsD (.list (cs.map cD)) = true := by
  have k : areBoundsD (.list (cs.map cD)) = (decide (2 ≤ (cs.map cD).length) && decide ((cs.map cD).length ≤ 10) && (cs.map cD).all isBoundD) := rfl
  rw [k, List.length_map, decide_eq_true h2, decide_eq_true h10, Bool.true_and, Bool.true_and, List.all_eq_true]
  intro d hd
  obtain ⟨c, hc, rfl⟩ := List.mem_map.mp hd
  obtain ⟨a, b, e⟩ := h c hc
  show (betw (.int c.1) 0 1000000000000000000000000000000 && (betw (.int c.2) 0 1000000000000000000000000000000 && leD (.int c.1) (.int c.2))) = true
  simp only [betw, leD, Bool.and_eq_true, decide_eq_true_eq]
  omega
theorem are_buns {n : Int} {bs : List Bun} (h45 : bs.length ≤ 45) (h : ∀ t ∈ bs, BunOk n t) (nd : (bs.map bkey).Nodup) : areBundlesD n (.list (bs.map bD)) = true := by
  have k : areBundlesD n (.list (bs.map bD)) = (decide ((bs.map bD).length ≤ 45) && (bs.map bD).all (isBundleD n) && decide (((bs.map bD).map pairOf).Nodup)) := rfl
  rw [k, List.length_map, decide_eq_true h45, Bool.true_and, Bool.and_eq_true, decide_eq_true_iff, List.all_eq_true]
  refine ⟨fun d hd => ?_, ?_⟩
  · obtain ⟨t, ht, rfl⟩ := List.mem_map.mp hd
    obtain ⟨a, b, c, e, g⟩ := h t ht
    show (betw (.int t.2.2) 1 1000000000000000000 && (betw (.int t.1) 0 (n - 1) && (betw (.int t.2.1) 0 (n - 1) && ltD (.int t.1) (.int t.2.1)))) = true
    simp only [betw, ltD, Bool.and_eq_true, decide_eq_true_eq]
    omega
  · have e : (bs.map bD).map pairOf = (bs.map bkey).map fun c => [c.1, c.2] := by
      rw [List.map_map, List.map_map]
      rfl
    rw [e]
    refine List.pairwise_map.mpr (nd.imp fun h q => h ?_)
    injection q with q1 q2
    injection q2 with q2 _
    exact Prod.ext q1 q2
theorem NetOk.size {n : Int} {bs : List Bun} {ms : List Int} {cs : List Bnd} (h : NetOk n bs ms cs) : (cs.length : Int) = n := by
  have e := h.bnds.1
  rw [loadsP_len] at e
  have := h.buns.n2
  omega
theorem NetOk.okc {n : Int} {bs : List Bun} {ms : List Int} {cs : List Bnd} (h : NetOk n bs ms cs) : areBoundsD (.list (cs.map cD)) = true := by
  have e := h.size
  have := h.buns.n2
  have := h.buns.n10
  refine are_bnds (by omega) (by omega) fun c hc => ?_
  obtain ⟨i, hi⟩ := List.getElem?_of_mem hc
  have hil := (List.getElem?_eq_some_iff.mp hi).1
  have hl := h.bnds.1
  obtain ⟨a, b, d, g⟩ := h.bnds.2 i c _ hi (List.getElem?_eq_getElem (by omega))
  omega
theorem NetOk.okb {n : Int} {bs : List Bun} {ms : List Int} {cs : List Bnd} (h : NetOk n bs ms cs) : areBundlesD (cs.length : Int) (.list (bs.map bD)) = true := by
  rw [h.size]
  exact are_buns h.buns.len h.buns.each h.buns.nd
/-- from the place where a Cluster is made -/
theorem made_same {H : Hp} {x dx C : Addr} (hx : H x = none) (hdx : H dx = none) : Same H (hid x (upd (upd H dx (.own x)) x (.ins C dx []))) := fun a o e => by
  have n1 : a ≠ x := ne_of_none e hx
  have n2 : a ≠ dx := ne_of_none e hdx
  rw [hid_ne n1, upd_ne n1, upd_ne n2]
  exact e
end G

/-! ## G19: a list of the caller's is out of sight while an expression runs -/
namespace G
open PySem PySem.Spec PyProof.Rows L2
section
variable {K : PySem.W.Frag} {G : Hp} {D : Addr} {φ : Heap → Prop}
theorem off_ne {a : Addr} {u : HO} (hD : G D = some (.ext φ)) (n1 : ∀ o, HO.ext φ ≠ .frz o u) (n2 : HO.ext φ ≠ u) (h : Rd G a u) : Rd (hid D G) a u := by
  have ne : a ≠ D := fun e => by
    subst e
    rcases h with h | ⟨o, h⟩
    · rw [hD] at h; exact n2 (Option.some.inj h)
    · rw [hD] at h; exact n1 o (Option.some.inj h)
  rcases h with h | ⟨o, h⟩
  · exact .inl (by rw [hid_ne ne]; exact h)
  · exact .inr ⟨o, by rw [hid_ne ne]; exact h⟩
theorem off_l {a : Addr} {xs : List V} (hD : G D = some (.ext φ)) (h : SqL K G a xs) : SqL K (hid D G) a xs := h.imp (off_ne hD (fun _ e => nomatch e) (fun e => nomatch e)) id
theorem off_t {a : Addr} {xs : List V} (hD : G D = some (.ext φ)) (h : SqT K G a xs) : SqT K (hid D G) a xs := h.imp (off_ne hD (fun _ e => nomatch e) (fun e => nomatch e)) id
mutual
theorem Da.off (hD : G D = some (.ext φ)) : ∀ (d : PyData) (v : V), Da K G v d → Da K (hid D G) v d
  | .none, _, h => by cases h; exact .non
  | .bool b, _, h => by cases h; exact .bl b
  | .int i, _, h => by cases h; exact .int i
  | .str x, _, h => by cases h; exact .str x
  | .list ds, _, h => by
    cases h with
    | lst a b => exact .lst (off_l hD a) (DaL.off hD ds _ b)
  | .tuple ds, _, h => by
    cases h with
    | tup a b => exact .tup (off_t hD a) (DaL.off hD ds _ b)
  | .dict es, _, h => by
    cases h with
    | @dct p kvs _ a b =>
      refine .dct ?_ (DaE.off hD es _ b)
      rw [hid_ne (fun e => by subst e; rw [hD] at a; cases a)]
      exact a
theorem DaL.off (hD : G D = some (.ext φ)) : ∀ (ds : List PyData) (vs : List V), DaL K G vs ds → DaL K (hid D G) vs ds
  | [], _, h => by cases h; exact .nil
  | d :: ds, _, h => by
    cases h with
    | cons a b => exact .cons (Da.off hD d _ a) (DaL.off hD ds _ b)
theorem DaE.off (hD : G D = some (.ext φ)) : ∀ (es : List (PyData × PyData)) (kvs : List (Key × V)), DaE K G kvs es → DaE K (hid D G) kvs es
  | [], _, h => by cases h; exact .nil
  | (k, d) :: es, _, h => by
    cases h with
    | cons a b => exact .cons (Da.off hD d _ a) (DaE.off hD es _ b)
end
end
/-- e runs while the list at D is out of sight -/
def tHide (te : TE) : TE := fun σ H Q => ∃ D us, H D = some (.lst us) ∧ ∀ φ, te σ (upd H D (.ext φ)) fun v H' => H' D = some (.ext φ) ∧ Q v (upd H' D (.lst us))
theorem pe_hide {X : Cx} {e : Expr} {te : TE} (he : PE X e te) : PE X e (tHide te) := by
  refine ⟨fun pins s σ H Q I h => ?_⟩
  obtain ⟨D, us, hD, q⟩ := h
  obtain ⟨z, its, n, r, ho⟩ := (show ObjOk X.prog X.w H s.heap D (.lst us) from I.hok D _ hD)
  have I2 : Inv X pins σ (upd H D (.ext fun h => h.get? D = some { cls := .type "list", data := .seq its.toArray n })) s :=
    I.write (x := D) (e := D) (h' := s.heap) (t' := s.toks) (by rw [hD]; trivial) (.inl rfl) (fun _ _ _ k => k) ⟨_, ho⟩ ⟨ho, ⟨_, ho⟩, fun h1 h2 e1 e2 => e2 _ e1⟩
  refine thn (he.run pins s σ _ _ I2 (q _)) fun u s1 hv => ?_
  obtain ⟨v, H1, I1, rv, hD1, q1⟩ := hv
  have ho1 : s1.heap.get? D = some { cls := .type "list", data := .seq its.toArray n } := (I1.hok D _ hD1).1
  exact ⟨v, _, I1.write (o := .lst us) (x := D) (e := D) (h' := s1.heap) (t' := s1.toks) (by rw [hD1]; trivial) (.inl rfl) (fun _ _ _ k => k) ⟨_, ho1⟩ ⟨z, its, n, r, ho1⟩, rv, q1⟩
end G
namespace G
open PySem PySem.Spec PyProof.Rows L2
/-- Cluster(x, y) where a bag stands at b -/
theorem make_ok {K : PySem.W.Frag} {C b : Addr} {H : Hp} {x y : V} {cs : List Bnd} {bs : List Bun} {Q : VK} {E : XK} (hb : BagOk b H) (hx : Da K (hid b H) x (.list (cs.map cD))) (hy : Da K (hid b H) y (.list (bs.map bD))) (okc : areBoundsD (.list (cs.map cD)) = true) (okb : areBundlesD (cs.length : Int) (.list (bs.map bD)) = true)
    {p dx : Addr} (hp : H p = none) (hdx : H dx = none) (k : ∀ H', Go b H H' → ClAt K C (hid b H') p bs cs → Q .non H') : sp_init K C [.ref p, x, y] (upd (upd H dx (.own p)) p (.ins C dx [])) Q E := by
  have ms := made_same (C := C) hp hdx
  have npb := hb.ne hp
  refine ⟨b, p, dx, x, y, cs, bs, rfl, upd_same, fun z => ?_, npb.symm, hx.mono (hid_same ms), hy.mono (hid_same ms), okc, okb, fun H4 e4 hc4 => k H4 (Go.of hb (ms.trans e4)) hc4⟩
  obtain ⟨cc, aa, zz, kk, css, h1, _⟩ := hb
  rw [hid_le _ _ (ms _ _ h1)] at z
  cases z
end G

namespace G
open PySem PySem.Spec PyProof.Rows L2
def top (i : Nat) : Stmt := PySem.Challenge.pw_leadswitch_k17_leads_known.main.body.getD i (.Pass ⟨0, 0, 0, 0⟩)
section
variable {P : Program} {w : World} {K : PySem.W.Frag} {mg : Str → Option Value} {base : Heap}
abbrev s__law_bag : Stmt := top 23
abbrev sc__law_bag_N : List Str := ["_law_script", "_law_cell"]
theorem sc__law_bag : FnScope sc__law_bag_N ["_law_script"] (defScope s__law_bag) := ⟨rfl, rfl, rfl, by decide +kernel, rfl, by decide +kernel, by decide +kernel⟩
theorem ok__law_bag (D : Def K mg "_law_bag" s__law_bag ["_law_script"]) (B : Blt mg) : Cal P w K mg base CX0 1 "_law_bag" ["_law_script"] (sp_bag K) := by
  refine D.ok sc__law_bag (fun vs H Q E h => by obtain ⟨a, ns, rfl, _⟩ := h; rfl) (fun f cdv A out s H vs Q E hr h => ?_)
  obtain ⟨a, ns, rfl, hS, hl, k⟩ := h
  refine ⟨_, (pss_one (ps_ret (pe_lst (pa_cons pe_int (pa_cons pe_int (pa_cons pe_int (pa_cons (pe_lc (own := [("_law_cell", 1)]) (g := (gName 1)) (tt := tYes) rfl sc__law_bag.nd (pi_list (pe_slice (kslL K) (pv 0) po_none (po_some pe_int))) (blkOk_by (own := [("_law_cell", 1)]) (N := sc__law_bag_N) (sc := defScope s__law_bag) (by decide +kernel)) (fun _ _ _ _ _ => (pg_name (i := 1) sc__law_bag.nd rfl (Or.inl rfl))) (fun _ _ _ _ _ => pts_nil) (fun _ _ _ _ _ => (pe_callB call_abs (by rfl) B.abs (by decide +kernel) (pa_cons (pv 1) pa_nil)))) pa_nil))))))), ?_⟩
  refine ⟨_, rfl, _, rfl, a, _, rfl, hS, fun p hp => ?_⟩
  obtain ⟨n1, n2, e⟩ := cut_map V.int ns none (some 63)
  have hb : ((ns.drop n1).take n2).length ≤ 1000 := by
    rw [List.length_take, List.length_drop]
    omega
  rw [e]
  generalize (ns.drop n1).take n2 = ms at hb
  refine ⟨p, rfl, ⟨_, SqL.of upd_same⟩, fun L hL => ?_⟩
  refine lc_map (xs := ms.map V.int) (ys := (ms.map fun i => if i < 0 then -i else i).map V.int) (SqL.of upd_same) hL (by simp) (by simp; omega) (fun x => rfl) (fun i x y hx hy H1 e1 Q1 q1 => ?_) (fun H1 e1 hD => ?_)
  · rw [List.getElem?_map] at hx
    rw [List.getElem?_map, List.getElem?_map] at hy
    cases em : ms[i]? with
    | none => rw [em] at hx; cases hx
    | some n =>
      rw [em] at hx hy
      cases hx
      cases hy
      exact ⟨_, rfl, n, rfl, q1 H1 (Same.refl _)⟩
  · refine ⟨by show 4 ≤ sizeLine; decide, fun b hb => ?_⟩
    have e0 : Same H (upd H p (.lst (ms.map V.int))) := same_new hp
    have nb : L ≠ b := ne_of_none hD hb
    refine k b _ ((e0.trans e1).free hb) ((e0.trans e1).trans (same_new hb)) ⟨L, 0, 1234567891, 0, _, upd_same, by rw [upd_ne nb]; exact hD, nb, by decide, fun z hz => ?_, by decide, by decide, by decide⟩
    obtain ⟨i, _, rfl⟩ := List.mem_map.mp hz
    split <;> omega

abbrev s_is_integer : Stmt := top 6
abbrev sc_is_integer_N : List Str := ["thing"]
theorem sc_is_integer : FnScope sc_is_integer_N ["thing"] (defScope s_is_integer) := ⟨rfl, rfl, rfl, by decide +kernel, rfl, by decide +kernel, by decide +kernel⟩
theorem ok_is_integer (D : Def K mg "is_integer" s_is_integer ["thing"]) (B : Blt mg) : Cal P w K mg base CX0 1 "is_integer" ["thing"] (sp_is_integer K) := by
  refine D.ok sc_is_integer (fun vs H Q E h => by obtain ⟨v, d, rfl, _⟩ := h; rfl) (fun f cdv A out s H vs Q E hr h => ?_)
  obtain ⟨v, d, rfl, hd, k⟩ := h
  refine ⟨_, (pss_one (ps_ret (pe_and (pe_callB (kisi K) (by rfl) B.isinstance (by decide +kernel) (pa_cons (pv 0) (pa_cons (pe_ty (n := "int") B.int (by decide +kernel)) pa_nil))) (pe_one (pe_not (pe_callB (kisi K) (by rfl) B.isinstance (by decide +kernel) (pa_cons (pv 0) (pa_cons (pe_ty (n := "bool") B.bool (by decide +kernel)) pa_nil)))))))), ?_⟩
  refine ⟨_, rfl, _, _, _, _, _, rfl, .ty "int", hd.ty, kit_int d, _, rfl, ?_⟩
  rw [isInt_eq] at k
  cases hi : isI d with
  | false => rw [hi] at k; exact iteF k
  | true =>
    rw [hi] at k
    exact iteT ⟨_, rfl, _, _, _, _, _, rfl, .ty "bool", hd.ty, kit_bool d, _, rfl, k⟩

abbrev s_is_between : Stmt := top 7
abbrev sc_is_between_N : List Str := ["thing", "least", "most"]
theorem sc_is_between : FnScope sc_is_between_N ["thing", "least", "most"] (defScope s_is_between) := ⟨rfl, rfl, rfl, by decide +kernel, rfl, by decide +kernel, by decide +kernel⟩
theorem ok_is_between (D : Def K mg "is_between" s_is_between ["thing", "least", "most"]) (c_is_integer : Cal P w K mg base CX0 1 "is_integer" ["thing"] (sp_is_integer K)) : Cal P w K mg base CX0 2 "is_between" ["thing", "least", "most"] (sp_is_between K) := by
  refine D.ok sc_is_between (fun vs H Q E h => by obtain ⟨v, d, lo, hi, rfl, _⟩ := h; rfl) (fun f cdv A out s H vs Q E hr h => ?_)
  obtain ⟨v, d, lo, hi, rfl, hd, k⟩ := h
  refine ⟨_, (pss_one (ps_ret (pe_and (pe_c c_is_integer (hr.mono (by decide)) pass0 (pa_cons (pv 0) pa_nil)) (pe_one (pe_chain op_le op_le (pv 1) (pv 0) (pv 2)))))), ?_⟩
  refine ⟨_, rfl, v, d, rfl, hd, _, rfl, ?_⟩
  cases d with
  | int i =>
    cases hd
    refine iteT ⟨_, rfl, _, rfl, _, _, rfl, rfl, _, rfl, ?_⟩
    refine ite2 (fun h1 => ?_) (fun h1 => ?_)
    · refine ⟨_, rfl, _, _, rfl, rfl, ?_⟩
      rw [betw, h1] at k
      exact k
    · rw [betw, eq_false_of_ne_true h1] at k
      exact k
  | _ => exact iteF k

abbrev s_is_amount : Stmt := top 8
abbrev sc_is_amount_N : List Str := ["thing"]
theorem sc_is_amount : FnScope sc_is_amount_N ["thing"] (defScope s_is_amount) := ⟨rfl, rfl, rfl, by decide +kernel, rfl, by decide +kernel, by decide +kernel⟩
theorem ok_is_amount (D : Def K mg "is_amount" s_is_amount ["thing"]) (c_is_between : Cal P w K mg base CX0 2 "is_between" ["thing", "least", "most"] (sp_is_between K)) {t_MOST_AMOUNT : Tok} (m_MOST_AMOUNT : mg "MOST_AMOUNT" = some (.int 1000000000000000000000000000000 t_MOST_AMOUNT)) : Cal P w K mg base CX0 3 "is_amount" ["thing"] (sp_is_amount K) := by
  refine D.ok sc_is_amount (fun vs H Q E h => by obtain ⟨v, d, rfl, _⟩ := h; rfl) (fun f cdv A out s H vs Q E hr h => ?_)
  obtain ⟨v, d, rfl, hd, k⟩ := h
  refine ⟨_, (pss_one (ps_ret (pe_c c_is_between (hr.mono (by decide)) pass0 (pa_cons (pv 0) (pa_cons pe_int (pa_cons (pe_gi m_MOST_AMOUNT) pa_nil)))))), ?_⟩
  exact ⟨_, rfl, v, d, _, _, rfl, hd, k⟩

abbrev s_is_bound : Stmt := top 11
abbrev sc_is_bound_N : List Str := ["thing"]
theorem sc_is_bound : FnScope sc_is_bound_N ["thing"] (defScope s_is_bound) := ⟨rfl, rfl, rfl, by decide +kernel, rfl, by decide +kernel, by decide +kernel⟩
theorem ok_is_bound (D : Def K mg "is_bound" s_is_bound ["thing"]) (B : Blt mg) (c_is_amount : Cal P w K mg base CX0 3 "is_amount" ["thing"] (sp_is_amount K)) : Cal P w K mg base CX0 4 "is_bound" ["thing"] (sp_is_bound K) := by
  refine D.ok sc_is_bound (fun vs H Q E h => by obtain ⟨v, d, rfl, _⟩ := h; rfl) (fun f cdv A out s H vs Q E hr h => ?_)
  obtain ⟨v, d, rfl, hd, k⟩ := h
  refine ⟨_, (pss_cons (ps_if (PW.pt (pw_or (pt_not (pt_val (pe_callB (kisi K) (by rfl) B.isinstance (by decide +kernel) (pa_cons (pv 0) (pa_cons (pe_ty (n := "tuple") B.tuple (by decide +kernel)) pa_nil))))) (pw_or1 (pt_cmpR op_ne (pe_callB (klen K) (by rfl) B.len (by decide +kernel) (pa_cons (pv 0) pa_nil)) pe_int (nomark _)))))
      (pss_one (ps_ret pe_bl))
      pss_nil)
      (pss_one (ps_ret (pe_and (pe_c c_is_amount (hr.mono (by decide)) pass0 (pa_cons (pe_ix (kixT K) (pv 0) pe_int (fun _ _ => rfl)) pa_nil)) (pe_and (pe_c c_is_amount (hr.mono (by decide)) pass0 (pa_cons (pe_ix (kixT K) (pv 0) pe_int (fun _ _ => rfl)) pa_nil)) (pe_one (pe_cmpR op_le (pe_ix (kixT K) (pv 0) pe_int (fun _ _ => rfl)) (pe_ix (kixT K) (pv 0) pe_int (fun _ _ => rfl)) (nomark _)))))))), ?_⟩
  refine ⟨_, rfl, _, _, _, _, _, rfl, .ty "tuple", hd.ty, kit_tuple d, _, rfl, ?_⟩
  cases d with
  | tuple ds =>
    cases hd with
    | @tup a xs _ hS hL =>
      have hl := hL.len
      refine iteF ⟨_, rfl, _, _, rfl, Or.inr ⟨_, hS, rfl⟩, rfl, _, rfl, ?_⟩
      by_cases h2 : ds.length = 2
      · rw [hl, h2]
        refine iteNS rfl ?_
        obtain ⟨x, y, rfl⟩ : ∃ x y, ds = [x, y] := by
          match ds, h2 with
          | [x, y], _ => exact ⟨x, y, rfl⟩
        obtain ⟨u0, e0, d0⟩ := hL.get (i := 0) rfl
        obtain ⟨u1, e1, d1⟩ := hL.get (i := 1) rfl
        refine ⟨_, rfl, a, _, 0, u0, rfl, rfl, hS, atI_nat (j := 0) e0, u0, x, rfl, d0, _, rfl, ?_⟩
        have hk : isBoundD (.tuple [x, y]) = (betw x 0 1000000000000000000000000000000 && (betw y 0 1000000000000000000000000000000 && leD x y)) := rfl
        rw [hk] at k
        cases hx : betw x 0 1000000000000000000000000000000 with
        | false => rw [hx] at k; exact iteF k
        | true =>
          rw [hx] at k
          refine iteT ⟨_, rfl, a, _, 1, u1, rfl, rfl, hS, atI_nat (j := 1) e1, u1, y, rfl, d1, _, rfl, ?_⟩
          cases hy : betw y 0 1000000000000000000000000000000 with
          | false => rw [hy] at k; exact iteF k
          | true =>
            rw [hy] at k
            obtain ⟨i, rfl⟩ := betw_int hx
            obtain ⟨j, rfl⟩ := betw_int hy
            cases d0
            cases d1
            exact iteT ⟨_, rfl, a, _, 0, _, rfl, rfl, hS, atI_nat (j := 0) e0, _, rfl, a, _, 1, _, rfl, rfl, hS, atI_nat (j := 1) e1, _, _, rfl, rfl, k⟩
      · rw [isBoundD_len h2] at k
        rw [hl, len_ne (by omega)]
        exact iteT k
  | _ => exact iteT k

abbrev s_are_bounds : Stmt := top 12
abbrev sc_are_bounds_N : List Str := ["thing", "bound"]
theorem sc_are_bounds : FnScope sc_are_bounds_N ["thing"] (defScope s_are_bounds) := ⟨rfl, rfl, rfl, by decide +kernel, rfl, by decide +kernel, by decide +kernel⟩
theorem ok_are_bounds (D : Def K mg "are_bounds" s_are_bounds ["thing"]) (B : Blt mg) (c_is_bound : Cal P w K mg base CX0 4 "is_bound" ["thing"] (sp_is_bound K)) {t_MOST_BROKERS : Tok} (m_MOST_BROKERS : mg "MOST_BROKERS" = some (.int 10 t_MOST_BROKERS)) : Cal P w K mg base CX0 5 "are_bounds" ["thing"] (sp_are_bounds K) := by
  refine D.ok sc_are_bounds (fun vs H Q E h => by obtain ⟨v, d, rfl, _⟩ := h; rfl) (fun f cdv A out s H vs Q E hr h => ?_)
  obtain ⟨v, d, rfl, hd, k⟩ := h
  refine ⟨_, (pss_cons (ps_if (PW.pt (pw_or (pt_not (pt_val (pe_callB (kisi K) (by rfl) B.isinstance (by decide +kernel) (pa_cons (pv 0) (pa_cons (pe_ty (n := "list") B.list (by decide +kernel)) pa_nil))))) (pw_or1 (pt_not (pt_chain op_le op_le pe_int (pe_callB (klen K) (by rfl) B.len (by decide +kernel) (pa_cons (pv 0) pa_nil)) (pe_gi m_MOST_BROKERS))))))
      (pss_one (ps_ret pe_bl))
      pss_nil)
      (pss_one (ps_ret (pe_callB (kall K) (by rfl) B.all (by decide +kernel) (pa_cons (pe_lc (own := [("bound", 1)]) (g := (gName 1)) (tt := tYes) rfl sc_are_bounds.nd (pi_list (pv 0)) (blkOk_by (own := [("bound", 1)]) (N := sc_are_bounds_N) (sc := defScope s_are_bounds) (by decide +kernel)) (fun _ _ _ _ _ => (pg_name (i := 1) sc_are_bounds.nd rfl (Or.inl rfl))) (fun _ _ _ _ _ => pts_nil) (fun _ _ _ _ _ => (pe_c c_is_bound (hr.mono (by decide)) pass0 (pa_cons (pv 1) pa_nil)))) pa_nil))))), ?_⟩
  refine ⟨_, rfl, _, _, _, _, _, rfl, .ty "list", hd.ty, kit_list d, _, rfl, ?_⟩
  cases d with
  | list ds =>
    cases hd with
    | @lst a xs _ hS hL =>
      have hl := hL.len
      refine iteF ⟨_, rfl, _, _, rfl, Or.inl ⟨_, hS, rfl⟩, _, _, rfl, rfl, _, rfl, ?_⟩
      have hk : areBoundsD (.list ds) = (decide (2 ≤ ds.length) && decide (ds.length ≤ 10) && ds.all isBoundD) := rfl
      rw [hk] at k
      rw [hl]
      by_cases h2 : 2 ≤ ds.length
      · rw [decide_eq_true (show (2 : Int) ≤ ((ds.length : Nat) : Int) by omega)]
        refine iteT ⟨_, _, rfl, rfl, _, rfl, ?_⟩
        by_cases h10 : ds.length ≤ 10
        · rw [decide_eq_true (show ((ds.length : Nat) : Int) ≤ 10 by omega)]
          rw [decide_eq_true h2, decide_eq_true h10] at k
          refine iteF ⟨_, rfl, a, rfl, ⟨_, hS⟩, fun L hD => ?_⟩
          refine lc_map (xs := xs) (ys := (ds.map isBoundD).map V.bl) hS hD (by simp [hl]) (by omega) (fun x => rfl) (fun i x y hx hy H1 e1 Q1 q1 => ?_) (fun H1 e1 hD1 => ?_)
          · obtain ⟨d, ed, hd⟩ := hL.getV hx
            rw [List.getElem?_map, List.getElem?_map, ed] at hy
            cases hy
            exact ⟨_, rfl, x, d, rfl, hd.mono e1, q1 H1 (Same.refl _)⟩
          · refine ⟨L, _, rfl, SqL.of hD1, ?_⟩
            rw [boolAll]
            exact k H1 e1
        · rw [decide_eq_false (show ¬ ((ds.length : Nat) : Int) ≤ 10 by omega)]
          rw [decide_eq_true h2, decide_eq_false h10] at k
          exact iteT (k H (Same.refl _))
      · rw [decide_eq_false (show ¬ (2 : Int) ≤ ((ds.length : Nat) : Int) by omega)]
        rw [decide_eq_false h2] at k
        exact iteF ⟨_, rfl, iteT (k H (Same.refl _))⟩
  | _ => exact iteT (k H (Same.refl _))

abbrev s_is_broker : Stmt := top 10
abbrev sc_is_broker_N : List Str := ["thing", "size"]
theorem sc_is_broker : FnScope sc_is_broker_N ["thing", "size"] (defScope s_is_broker) := ⟨rfl, rfl, rfl, by decide +kernel, rfl, by decide +kernel, by decide +kernel⟩
theorem ok_is_broker (D : Def K mg "is_broker" s_is_broker ["thing", "size"]) (c_is_between : Cal P w K mg base CX0 2 "is_between" ["thing", "least", "most"] (sp_is_between K)) : Cal P w K mg base CX0 3 "is_broker" ["thing", "size"] (sp_is_broker K) := by
  refine D.ok sc_is_broker (fun vs H Q E h => by obtain ⟨v, d, n, rfl, _⟩ := h; rfl) (fun f cdv A out s H vs Q E hr h => ?_)
  obtain ⟨v, d, n, rfl, hd, k⟩ := h
  refine ⟨_, (pss_one (ps_ret (pe_c c_is_between (hr.mono (by decide)) pass0 (pa_cons (pv 0) (pa_cons pe_int (pa_cons (pe_op op_sub (pv 1) pe_int) pa_nil)))))), ?_⟩
  exact ⟨_, rfl, _, rfl, _, _, rfl, rfl, v, d, _, _, rfl, hd, k⟩

abbrev s_is_count : Stmt := top 9
abbrev sc_is_count_N : List Str := ["thing"]
theorem sc_is_count : FnScope sc_is_count_N ["thing"] (defScope s_is_count) := ⟨rfl, rfl, rfl, by decide +kernel, rfl, by decide +kernel, by decide +kernel⟩
theorem ok_is_count (D : Def K mg "is_count" s_is_count ["thing"]) (c_is_between : Cal P w K mg base CX0 2 "is_between" ["thing", "least", "most"] (sp_is_between K)) {t_MOST_COUNT : Tok} (m_MOST_COUNT : mg "MOST_COUNT" = some (.int 1000000000000000000 t_MOST_COUNT)) : Cal P w K mg base CX0 3 "is_count" ["thing"] (sp_is_count K) := by
  refine D.ok sc_is_count (fun vs H Q E h => by obtain ⟨v, d, rfl, _⟩ := h; rfl) (fun f cdv A out s H vs Q E hr h => ?_)
  obtain ⟨v, d, rfl, hd, k⟩ := h
  refine ⟨_, (pss_one (ps_ret (pe_c c_is_between (hr.mono (by decide)) pass0 (pa_cons (pv 0) (pa_cons pe_int (pa_cons (pe_gi m_MOST_COUNT) pa_nil)))))), ?_⟩
  exact ⟨_, rfl, v, d, _, _, rfl, hd, k⟩

abbrev s_is_bundle : Stmt := top 13
abbrev sc_is_bundle_N : List Str := ["thing", "size"]
theorem sc_is_bundle : FnScope sc_is_bundle_N ["thing", "size"] (defScope s_is_bundle) := ⟨rfl, rfl, rfl, by decide +kernel, rfl, by decide +kernel, by decide +kernel⟩
theorem ok_is_bundle (D : Def K mg "is_bundle" s_is_bundle ["thing", "size"]) (B : Blt mg) (c_is_broker : Cal P w K mg base CX0 3 "is_broker" ["thing", "size"] (sp_is_broker K)) (c_is_count : Cal P w K mg base CX0 3 "is_count" ["thing"] (sp_is_count K)) : Cal P w K mg base CX0 4 "is_bundle" ["thing", "size"] (sp_is_bundle K) := by
  refine D.ok sc_is_bundle (fun vs H Q E h => by obtain ⟨v, d, n, rfl, _⟩ := h; rfl) (fun f cdv A out s H vs Q E hr h => ?_)
  obtain ⟨v, d, n, rfl, hd, k⟩ := h
  refine ⟨_, (pss_cons (ps_if (PW.pt (pw_or (pt_not (pt_val (pe_callB (kisi K) (by rfl) B.isinstance (by decide +kernel) (pa_cons (pv 0) (pa_cons (pe_ty (n := "tuple") B.tuple (by decide +kernel)) pa_nil))))) (pw_or (pt_cmpR op_ne (pe_callB (klen K) (by rfl) B.len (by decide +kernel) (pa_cons (pv 0) pa_nil)) pe_int (nomark _)) (pw_or1 (pt_not (pt_val (pe_c c_is_count (hr.mono (by decide)) pass0 (pa_cons (pe_ix (kixT K) (pv 0) pe_int (fun _ _ => rfl)) pa_nil))))))))
      (pss_one (ps_ret pe_bl))
      pss_nil)
      (pss_one (ps_ret (pe_and (pe_c c_is_broker (hr.mono (by decide)) pass0 (pa_cons (pe_ix (kixT K) (pv 0) pe_int (fun _ _ => rfl)) (pa_cons (pv 1) pa_nil))) (pe_and (pe_c c_is_broker (hr.mono (by decide)) pass0 (pa_cons (pe_ix (kixT K) (pv 0) pe_int (fun _ _ => rfl)) (pa_cons (pv 1) pa_nil))) (pe_one (pe_cmpR op_lt (pe_ix (kixT K) (pv 0) pe_int (fun _ _ => rfl)) (pe_ix (kixT K) (pv 0) pe_int (fun _ _ => rfl)) (nomark _)))))))), ?_⟩
  refine ⟨_, rfl, _, _, _, _, _, rfl, .ty "tuple", hd.ty, kit_tuple d, _, rfl, ?_⟩
  cases d with
  | tuple ds =>
    cases hd with
    | @tup a xs _ hS hL =>
      have hl := hL.len
      refine iteF ⟨_, rfl, _, _, rfl, Or.inr ⟨_, hS, rfl⟩, rfl, _, rfl, ?_⟩
      by_cases h3 : ds.length = 3
      · rw [hl, h3]
        refine iteNS rfl ?_
        obtain ⟨x, y, z, rfl⟩ : ∃ x y z, ds = [x, y, z] := by
          match ds, h3 with
          | [x, y, z], _ => exact ⟨x, y, z, rfl⟩
        obtain ⟨u0, e0, d0⟩ := hL.get (i := 0) rfl
        obtain ⟨u1, e1, d1⟩ := hL.get (i := 1) rfl
        obtain ⟨u2, e2, d2⟩ := hL.get (i := 2) rfl
        refine ⟨_, rfl, a, _, 2, u2, rfl, rfl, hS, atI_nat (j := 2) e2, u2, z, rfl, d2, _, rfl, ?_⟩
        have hk : isBundleD n (.tuple [x, y, z]) = (betw z 1 1000000000000000000 && (betw x 0 (n - 1) && (betw y 0 (n - 1) && ltD x y))) := rfl
        rw [hk] at k
        cases hz : betw z 1 1000000000000000000 with
        | false => rw [hz] at k; exact iteT k
        | true =>
          rw [hz] at k
          refine iteF ⟨_, rfl, a, _, 0, u0, rfl, rfl, hS, atI_nat (j := 0) e0, _, rfl, u0, x, n, rfl, d0, _, rfl, ?_⟩
          cases hx : betw x 0 (n - 1) with
          | false => rw [hx] at k; exact iteF k
          | true =>
            rw [hx] at k
            refine iteT ⟨_, rfl, a, _, 1, u1, rfl, rfl, hS, atI_nat (j := 1) e1, _, rfl, u1, y, n, rfl, d1, _, rfl, ?_⟩
            cases hy : betw y 0 (n - 1) with
            | false => rw [hy] at k; exact iteF k
            | true =>
              rw [hy] at k
              obtain ⟨i, rfl⟩ := betw_int hx
              obtain ⟨j, rfl⟩ := betw_int hy
              cases d0
              cases d1
              exact iteT ⟨_, rfl, a, _, 0, _, rfl, rfl, hS, atI_nat (j := 0) e0, _, rfl, a, _, 1, _, rfl, rfl, hS, atI_nat (j := 1) e1, _, _, rfl, rfl, k⟩
      · rw [isBundleD_len h3] at k
        rw [hl, len_ne (by omega)]
        exact iteT k
  | _ => exact iteT k

abbrev s_are_bundles : Stmt := top 14
abbrev sc_are_bundles_N : List Str := ["thing", "size", "bundle"]
theorem sc_are_bundles : FnScope sc_are_bundles_N ["thing", "size"] (defScope s_are_bundles) := ⟨rfl, rfl, rfl, by decide +kernel, rfl, by decide +kernel, by decide +kernel⟩
theorem ok_are_bundles (D : Def K mg "are_bundles" s_are_bundles ["thing", "size"]) (B : Blt mg) (c_is_bundle : Cal P w K mg base CX0 4 "is_bundle" ["thing", "size"] (sp_is_bundle K)) {t_MOST_BUNDLES : Tok} (m_MOST_BUNDLES : mg "MOST_BUNDLES" = some (.int 45 t_MOST_BUNDLES)) : Cal P w K mg base CX0 5 "are_bundles" ["thing", "size"] (sp_are_bundles K) := by
  refine D.ok sc_are_bundles (fun vs H Q E h => by obtain ⟨v, d, n, rfl, _⟩ := h; rfl) (fun f cdv A out s H vs Q E hr h => ?_)
  obtain ⟨v, d, n, rfl, hd, k⟩ := h
  refine ⟨_, (pss_cons (ps_if (PW.pt (pw_or (pt_not (pt_val (pe_callB (kisi K) (by rfl) B.isinstance (by decide +kernel) (pa_cons (pv 0) (pa_cons (pe_ty (n := "list") B.list (by decide +kernel)) pa_nil))))) (pw_or1 (pt_cmpR op_gt (pe_callB (klen K) (by rfl) B.len (by decide +kernel) (pa_cons (pv 0) pa_nil)) (pe_gi m_MOST_BUNDLES) (nomark _)))))
      (pss_one (ps_ret pe_bl))
      pss_nil)
      (pss_cons (ps_if (pt_not (pt_val (pe_callB (kall K) (by rfl) B.all (by decide +kernel) (pa_cons (pe_lc (own := [("bundle", 2)]) (g := (gName 2)) (tt := tYes) rfl sc_are_bundles.nd (pi_list (pv 0)) (blkOk_by (own := [("bundle", 2)]) (N := sc_are_bundles_N) (sc := defScope s_are_bundles) (by decide +kernel)) (fun _ _ _ _ _ => (pg_name (i := 2) sc_are_bundles.nd rfl (Or.inl rfl))) (fun _ _ _ _ _ => pts_nil) (fun _ _ _ _ _ => (pe_c c_is_bundle (hr.mono (by decide)) pass0 (pa_cons (pv 2) (pa_cons (pv 1) pa_nil))))) pa_nil))))
      (pss_one (ps_ret pe_bl))
      pss_nil)
      (pss_one (ps_ret (pe_cmpR op_eq (pe_callB (call_lenT K) (by rfl) B.len (by decide +kernel) (pa_cons (pe_scT (own := [("bundle", 2)]) (g := (gName 2)) (tt := tYes) (su hr) rfl sc_are_bundles.nd (pi_list (pv 0)) (blkOk_by (own := [("bundle", 2)]) (N := sc_are_bundles_N) (sc := defScope s_are_bundles) (by decide +kernel)) (fun _ _ _ _ _ => (pg_name (i := 2) sc_are_bundles.nd rfl (Or.inl rfl))) (fun _ _ _ _ _ => pts_nil) (fun _ _ _ _ _ => (pe_slice (kslT K) (pv 2) po_none (po_some pe_int)))) pa_nil)) (pe_callB (klen K) (by rfl) B.len (by decide +kernel) (pa_cons (pv 0) pa_nil)) (nomark _)))))), ?_⟩
  refine ⟨_, rfl, _, _, _, _, _, rfl, .ty "list", hd.ty, kit_list d, _, rfl, ?_⟩
  cases d with
  | list ds =>
    cases hd with
    | @lst a xs _ hS hL =>
      have hl := hL.len
      refine iteF ⟨_, rfl, _, _, rfl, Or.inl ⟨_, hS, rfl⟩, _, _, rfl, rfl, _, rfl, ?_⟩
      have hk : areBundlesD n (.list ds) = (decide (ds.length ≤ 45) && ds.all (isBundleD n) && decide ((ds.map pairOf).Nodup)) := rfl
      rw [hk] at k
      rw [hl]
      by_cases h45 : ds.length ≤ 45
      · rw [decide_eq_false (show ¬ ((ds.length : Nat) : Int) > 45 by omega)]
        rw [decide_eq_true h45] at k
        refine iteF ⟨_, rfl, a, rfl, ⟨_, hS⟩, fun L hD => ?_⟩
        refine lc_map (xs := xs) (ys := (ds.map (isBundleD n)).map V.bl) hS hD (by simp [hl]) (by omega) (fun x => rfl) (fun i x y hx hy H1 e1 Q1 q1 => ?_) (fun H1 e1 hD1 => ?_)
        · obtain ⟨d, ed, hd⟩ := hL.getV hx
          rw [List.getElem?_map, List.getElem?_map, ed] at hy
          cases hy
          exact ⟨_, rfl, _, rfl, x, d, n, rfl, hd.mono e1, q1 H1 (Same.refl _)⟩
        · refine ⟨L, _, rfl, SqL.of hD1, _, rfl, ?_⟩
          rw [boolAll]
          cases ha : ds.all (isBundleD n) with
          | false => rw [ha] at k; exact iteT (k H1 e1)
          | true =>
            rw [ha] at k
            have hall := List.all_eq_true.mp ha
            refine iteF ⟨_, rfl, a, rfl, ⟨_, sql_up e1 hS⟩, fun M hM => ?_⟩
            refine sc_list (xs := xs) (fun i H' => Same H1 H' ∧ ∃ Ls, H' M = some (SetTO P w M Ls) ∧ (∀ p ∈ Ls, SqT K H' p.1 (p.2.map V.int)) ∧ Met (ds.map pairOf) i Ls) ⟨same_new hM, [], upd_same, (fun p hp => nomatch hp), Met.zero _⟩ (fun i H' _ p => sql_up (e1.trans p.1) hS) ?_ ?_
            · rintro i x H' hx ⟨e', Ls, hM', hLs, met⟩
              obtain ⟨d, ed, hd⟩ := hL.getV hx
              obtain ⟨p, q, c, rfl, _⟩ := bundle_shape (hall d (List.mem_of_getElem? ed))
              have hd' := hd.mono (e1.trans e')
              cases hd' with
              | @tup t us _ hT hU =>
                have hi : i < ds.length := (List.getElem?_eq_some_iff.mp ed).1
                have eu : us = [V.int p, V.int q, V.int c] := DaL.unints (ns := [p, q, c]) hU
                subst eu
                have hlen : Ls.length + 1 < 64 := by have := met.le; omega
                refine ⟨rfl, ?_⟩
                unfold tYes
                refine iteT ⟨_, rfl, _, rfl, t, _, rfl, hT, ?_, ?_⟩
                · intro e
                  exact absurd e.2 (show ¬ min 2 3 = 3 by decide)
                · intro _ r hr'
                  have hM4 : upd H' r (.tup (cutV [V.int p, V.int q, V.int c] none (some 2))) M = some (SetTO P w M Ls) := by
                    rw [upd_ne (ne_of_none hM' hr')]
                    exact hM'
                  have hrT : SqT K (upd H' r (.tup (cutV [V.int p, V.int q, V.int c] none (some 2)))) r ([p, q].map V.int) := .inl (.inl upd_same)
                  have hL4 : ∀ z ∈ Ls, SqT K (upd H' r (.tup (cutV [V.int p, V.int q, V.int c] none (some 2)))) z.1 (z.2.map V.int) := fun z hz => sqt_up (same_new hr') (hLs z hz)
                  refine ⟨r, [p, q], Ls, rfl, hrT, hM4, hL4, hlen, fun L' c1 c2 => ⟨same_mut (e'.trans (same_new hr')) hM, L', upd_same, fun z hz => ?_, met.step (by rw [List.getElem?_map, ed]; rfl) c1 c2⟩⟩
                  rcases Classical.em ([p, q] ∈ Ls.map (·.2)) with h | h
                  · rw [c1 h] at hz
                    exact sqt_mut (hL4 z hz) hM4
                  · rcases List.mem_cons.mp ((c2 h).mem_iff.mp hz) with rfl | hz
                    · exact sqt_mut hrT hM4
                    · exact sqt_mut (hL4 z hz) hM4
            · rintro H' ⟨e', Ls, hM', hLs, met⟩
              refine ⟨M, Ls, rfl, hM', hLs, _, rfl, _, _, rfl, Or.inl ⟨_, sql_up (e1.trans e') hS, rfl⟩, rfl, ?_⟩
              have hq := met.iff
              rw [hl, List.take_of_length_le (by rw [List.length_map]; exact Nat.le_refl _)] at hq
              have hdec : decide (V.int (Ls.length : Int) = V.int (xs.length : Int)) = decide ((ds.map pairOf).Nodup) := by
                rw [hl]
                by_cases h : (ds.map pairOf).Nodup
                · rw [decide_eq_true h, decide_eq_true (by rw [hq.mpr h])]
                · rw [decide_eq_false h]
                  exact decide_eq_false (fun z => h (hq.mp (by have q := V.int.inj z; omega)))
              rw [hdec]
              exact k H' (e1.trans e')
      · rw [decide_eq_true (show ((ds.length : Nat) : Int) > 45 by omega)]
        rw [decide_eq_false h45] at k
        exact iteT (k H (Same.refl _))
  | _ => exact iteT (k H (Same.refl _))

abbrev s_Cluster___init__ : Stmt := inClass (top 21) 0
abbrev sc_Cluster___init___N : List Str := ["self", "bounds", "bundles", "number", "bundle"]
theorem sc_Cluster___init__ : FnScope sc_Cluster___init___N ["self", "bounds", "bundles"] (defScope s_Cluster___init__) := ⟨rfl, rfl, rfl, by decide +kernel, rfl, by decide +kernel, by decide +kernel⟩
theorem ok_Cluster___init__ {C : Addr} (T : ClsT K mg C) (D : MDef K C "__init__" "Cluster.__init__" s_Cluster___init__ ["self", "bounds", "bundles"]) (B : Blt mg) (c_are_bounds : Cal P w K mg base CX0 5 "are_bounds" ["thing"] (sp_are_bounds K)) (c_are_bundles : Cal P w K mg base CX0 5 "are_bundles" ["thing", "size"] (sp_are_bundles K)) : MCal P w K mg base CX0 6 C "__init__" ["self", "bounds", "bundles"] (sp_init K C) := by
  refine D.ok sc_Cluster___init__ (fun vs H Q E h => by obtain ⟨b, p, dx, x, y, cs, bs, rfl, _⟩ := h; rfl) (fun f cdv A out s H vs Q E hr h => ?_)
  obtain ⟨b, p, dx, x, y, cs, bs, rfl, hp, hb, nb, hx, hy, okc, okb, k⟩ := h
  refine ⟨_, (pss_cons (ps_if (pt_not (pt_val (pe_c c_are_bounds (hr.mono (by decide)) pass0 (pa_cons (pv 1) pa_nil))))
      (pss_one (ps_never))
      pss_nil)
      (pss_cons (ps_if (pt_not (pt_val (pe_c c_are_bundles (hr.mono (by decide)) pass0 (pa_cons (pv 2) (pa_cons (pe_callB (klen K) (by rfl) B.len (by decide +kernel) (pa_cons (pv 1) pa_nil)) pa_nil)))))
      (pss_one (ps_never))
      pss_nil)
      (pss_cons (ps_fld (pv 0) (pe_callTy (klist K) (by rfl) B.list (by decide +kernel) (pa_cons (pv 1) pa_nil)) rfl)
      (pss_cons (ps_fld (pv 0) (pe_callTy (klist K) (by rfl) B.list (by decide +kernel) (pa_cons (pv 2) pa_nil)) rfl)
      (pss_one (ps_fld (pv 0) (pe_dcT (own := [("number", 3), ("bundle", 4)]) (g := (gTup K 2 (gCons (gName 3) (gCons (gName 4) gNil)))) (tt := tYes) (su hr) rfl sc_Cluster___init__.nd (pi_enum (by rfl) B.enumerate (pa_cons (pv 2) pa_nil)) (blkOk_by (own := [("number", 3), ("bundle", 4)]) (N := sc_Cluster___init___N) (sc := defScope s_Cluster___init__) (by decide +kernel)) (fun _ _ _ _ _ => (pg_tup rfl (pgs_cons (pg_name (i := 3) sc_Cluster___init__.nd rfl (Or.inl rfl)) (pgs_cons (pg_name (i := 4) sc_Cluster___init__.nd rfl (Or.inl rfl)) pgs_nil)))) (fun _ _ _ _ _ => pts_nil) (fun _ _ _ _ _ => (pe_slice (kslT K) (pv 4) po_none (po_some pe_int))) (fun _ _ _ _ _ => (pv 3))) rfl)))))), ?_⟩
  have up : Same (hid b (hid p H)) H := hid_le.trans hid_le
  obtain ⟨ax, us, rfl, sx, dxs⟩ := da_list hx
  obtain ⟨ay, ws, rfl, sy, dys⟩ := da_list hy
  have hul : us.length = cs.length := by rw [dxs.len, List.length_map]
  obtain ⟨len45, nd⟩ := areB_nd okb
  refine ⟨_, rfl, _, _, rfl, hx.mono up, fun H1 e1 => ⟨_, rfl, ?_⟩⟩
  rw [okc]
  refine iteF ?_
  refine ⟨_, rfl, _, rfl, _, _, rfl, Or.inl ⟨us, sql_up (up.trans e1) sx, rfl⟩, _, _, _, rfl, hy.mono (up.trans e1), fun H2 e2 => ⟨_, rfl, ?_⟩⟩
  rw [hul, okb]
  refine iteF ?_
  have e02 := e1.trans e2
  have s2 : Same (hid p H) H2 := hid_le.trans e02
  have hp2 := e02 _ _ hp
  have hb2 : H2 b ≠ none := fun z => by
    cases q : H b with
    | none => exact hb q
    | some o => rw [e02 _ _ q] at z; cases z
  refine ⟨_, rfl, ax, us, rfl, .inl (sql_up (up.trans e02) sx), fun l hl => ⟨_, rfl, p, C, dx, [], rfl, same_new hl _ _ hp2, T.cl, T.nL, by show 0 < 1000; decide, ?_⟩⟩
  have npl : p ≠ l := ne_of_none hp2 hl
  have nbl : b ≠ l := fun z => hb2 (by rw [z]; exact hl)
  have s4 : Same (hid p H) (upd (upd H2 l (.lst us)) p (.ins C dx (putF "limits" (.ref l) []))) := hid_put (s2.trans (same_new hl))
  have hl4 : (upd (upd H2 l (.lst us)) p (.ins C dx (putF "limits" (.ref l) []))) l = some (.lst us) := by rw [upd_ne npl.symm, upd_same]
  have hb4 : (upd (upd H2 l (.lst us)) p (.ins C dx (putF "limits" (.ref l) []))) b ≠ none := by rw [upd_ne nb, upd_ne nbl]; exact hb2
  have hp4 : (upd (upd H2 l (.lst us)) p (.ins C dx (putF "limits" (.ref l) []))) p = some (.ins C dx (putF "limits" (.ref l) [])) := upd_same
  revert s4 hl4 hb4 hp4
  generalize upd (upd H2 l (.lst us)) p (.ins C dx (putF "limits" (.ref l) [])) = H4
  intro s4 hl4 hb4 hp4
  refine ⟨_, rfl, ay, ws, rfl, .inl (sql_up (hid_le.trans s4) sy), fun r hr' => ⟨_, rfl, p, C, dx, _, rfl, same_new hr' _ _ hp4, T.cl, T.nR, by show 1 < 1000; decide, ?_⟩⟩
  have npr : p ≠ r := ne_of_none hp4 hr'
  have nlr : l ≠ r := ne_of_none hl4 hr'
  have nbr : b ≠ r := fun z => hb4 (by rw [z]; exact hr')
  have s6 : Same (hid p H) (upd (upd H4 r (.lst ws)) p (.ins C dx (putF "rows" (.ref r) (putF "limits" (.ref l) [])))) := hid_put (s4.trans (same_new hr'))
  have hl6 : (upd (upd H4 r (.lst ws)) p (.ins C dx (putF "rows" (.ref r) (putF "limits" (.ref l) [])))) l = some (.lst us) := by rw [upd_ne npl.symm, upd_ne nlr]; exact hl4
  have hr6 : (upd (upd H4 r (.lst ws)) p (.ins C dx (putF "rows" (.ref r) (putF "limits" (.ref l) [])))) r = some (.lst ws) := by rw [upd_ne npr.symm, upd_same]
  have hb6 : (upd (upd H4 r (.lst ws)) p (.ins C dx (putF "rows" (.ref r) (putF "limits" (.ref l) [])))) b ≠ none := by rw [upd_ne nb, upd_ne nbr]; exact hb4
  have hp6 : (upd (upd H4 r (.lst ws)) p (.ins C dx (putF "rows" (.ref r) (putF "limits" (.ref l) [])))) p = some (.ins C dx (putF "rows" (.ref r) (putF "limits" (.ref l) []))) := upd_same
  revert s6 hl6 hr6 hb6 hp6
  generalize upd (upd H4 r (.lst ws)) p (.ins C dx (putF "rows" (.ref r) (putF "limits" (.ref l) []))) = H6
  intro s6 hl6 hr6 hb6 hp6
  refine ⟨_, rfl, ay, ws, rfl, sql_up (hid_le.trans s6) sy, fun d hd => ?_⟩
  have nbd : b ≠ d := fun z => hb6 (by rw [z]; exact hd)
  have wl : ws.length = bs.length := by rw [dys.len, List.length_map]
  refine dcT_enum (xs := ws) (fun i H' => Same H6 H' ∧ ∃ kvs, H' d = some (.dT kvs) ∧ NumOk kvs (bs.take i) ∧ kvs.length ≤ i) ⟨same_new hd, [], upd_same, fun f s => rfl, Nat.le_refl _⟩ (fun i H' q => sql_up (hid_le.trans (s6.trans q.1)) sy) ?_ ?_
  · rintro i z t H7 hz ⟨e7, kvs, hk, nk, lk⟩ ht
    obtain ⟨dd, ed, hdd⟩ := dys.getV hz
    rw [List.getElem?_map] at ed
    cases et : bs[i]? with
    | none => rw [et] at ed; cases ed
    | some u =>
    rw [et] at ed
    obtain rfl : bD u = dd := Option.some.inj ed
    obtain ⟨c, rfl, sc⟩ := da_bun hdd
    have hi : i < bs.length := (List.getElem?_eq_some_iff.mp et).1
    have e8 := e7.trans (same_new (o := .tup [.int (i : Nat), .ref c]) ht)
    refine ⟨t, _, rfl, .inl (.inl upd_same), rfl, _, _, rfl, _, _, rfl, rfl, rfl, ?_⟩
    unfold tYes
    refine iteT ⟨_, rfl, _, rfl, c, _, rfl, sqt_up ((hid_le.trans s6).trans e8) sc, ?_, ?_⟩
    · intro e
      exact absurd e.2 (show ¬ min 2 3 = 3 by decide)
    · intro _ q hq
      have e9 := e8.trans (same_new (o := .tup (cutV [V.int u.1, V.int u.2.1, V.int u.2.2] none (some 2))) hq)
      have hk9 := (same_new (o := .tup (cutV [V.int u.1, V.int u.2.1, V.int u.2.2] none (some 2))) hq) _ _ (same_new (o := .tup [.int (i : Nat), .ref c]) ht _ _ hk)
      refine ⟨_, rfl, kvs, [Sum.inl u.1, Sum.inl u.2.1], q, rfl, upd_same, hk9, by rw [sizeLine_eq]; omega, same_mut e9 hd, _, upd_same, nk.step nd et, ?_⟩
      have := length_putK kvs [Sum.inl u.1, Sum.inl u.2.1] (V.int (i : Int))
      omega
  · rintro H7 ⟨e7, kvs, hk, nk, lk⟩
    rw [wl, List.take_length] at nk
    refine ⟨_, rfl, p, C, dx, _, rfl, e7 _ _ hp6, T.cl, T.nN, by show 2 < 1000; decide, ?_⟩
    have npd : p ≠ d := ne_of_none hp6 hd
    refine k _ (hid_put (s6.trans e7)) ⟨dx, l, r, d, us, ws, kvs, ?_, ?_, ?_, ?_, ?_, ?_, nk⟩
    · rw [hid_ne nb.symm, upd_same]; rfl
    · rw [hid_ne nbl.symm, upd_ne npl.symm]; exact e7 _ _ hl6
    · exact dxs.mono (hid_same (hid_put (s6.trans e7)))
    · rw [hid_ne nbr.symm, upd_ne npr.symm]; exact e7 _ _ hr6
    · exact dys.mono (hid_same (hid_put (s6.trans e7)))
    · rw [hid_ne nbd.symm, upd_ne npd.symm]; exact hk

abbrev s__law_take : Stmt := top 24
abbrev sc__law_take_N : List Str := ["_law_bag_here", "_law_many", "_law_cell", "_law_value", "_law_first", "_law_second"]
theorem sc__law_take : FnScope sc__law_take_N ["_law_bag_here", "_law_many"] (defScope s__law_take) := ⟨rfl, rfl, rfl, by decide +kernel, rfl, by decide +kernel, by decide +kernel⟩
theorem ok__law_take (D : Def K mg "_law_take" s__law_take ["_law_bag_here", "_law_many"]) (B : Blt mg) : Cal P w K mg base CX0 1 "_law_take" ["_law_bag_here", "_law_many"] sp_take := by
  refine D.ok sc__law_take (fun vs H Q E h => by obtain ⟨b, m, rfl, _⟩ := h; rfl) (fun f cdv A out s H vs Q E hr h => ?_)
  obtain ⟨b, m, rfl, hb, m0, m1, k⟩ := h
  refine ⟨_, (Evl.pss_cut (ps_if (pt_cmpR op_eq (pe_ix (kixL K) (pv 0) pe_int (fun _ _ => rfl)) pe_int (nomark _))
      (pss_cons (ps_set (i := 2) sc__law_take.nd rfl (Or.inl rfl) pe_int)
      (Evl.pss_cut (ps_if (pt_cmpR op_lt (pe_ix (kixL K) (pv 0) pe_int (fun _ _ => rfl)) (pe_callB (klen K) (by rfl) B.len (by decide +kernel) (pa_cons (pe_ix (kixL K) (pv 0) pe_int (fun _ _ => rfl)) pa_nil)) (nomark _))
      (pss_one (ps_set (i := 2) sc__law_take.nd rfl (Or.inl rfl) (pe_ix (kixL K) (pe_ix (kixL K) (pv 0) pe_int (fun _ _ => rfl)) (pe_ix (kixL K) (pv 0) pe_int (fun _ _ => rfl)) (fun _ _ => rfl))))
      pss_nil)
      (pss_cons (ps_augS (pv 0) pe_int get_list pe_int ip_add set_list)
      (Evl.pss_cut (ps_if (pt_cmpR op_ge (pv 2) pe_int (nomark _))
      (pss_one (ps_asg (pv 2) (pg_sub (pv 0) pe_int set_list)))
      pss_nil)
      (pss_one (ps_asg (pe_op op_mod (pe_op op_add (pe_op op_add (pe_op op_mulW (pe_ix (kixL K) (pv 0) pe_int (fun _ _ => rfl)) pe_int) (pe_op op_mod (pv 2) pe_int)) (pe_op op_mul pe_int (pe_ix (kixL K) (pv 0) pe_int (fun _ _ => rfl)))) pe_int) (pg_sub (pv 0) pe_int set_list)))))))
      pss_nil)
      (pss_cons (ps_if (pt_cmpR op_gt (pe_ix (kixL K) (pv 0) pe_int (fun _ _ => rfl)) pe_int (nomark _))
      (pss_cons (ps_set (i := 3) sc__law_take.nd rfl (Or.inl rfl) (pe_op op_mod (pe_ix (kixL K) (pv 0) pe_int (fun _ _ => rfl)) (pv 1)))
      (pss_cons (ps_asg (pe_op op_fdivW (pe_ix (kixL K) (pv 0) pe_int (fun _ _ => rfl)) (pv 1)) (pg_sub (pv 0) pe_int set_list))
      (pss_one (ps_ret (pv 3)))))
      pss_nil)
      (pss_cons (ps_set (i := 4) sc__law_take.nd rfl (Or.inl rfl) (pe_op op_mod (pe_op op_mulW (pe_op op_add (pe_ix (kixL K) (pv 0) pe_int (fun _ _ => rfl)) pe_int) pe_int) pe_int))
      (pss_cons (ps_set (i := 5) sc__law_take.nd rfl (Or.inl rfl) (pe_op op_mod (pe_op op_mulW (pe_op op_mod (pe_op op_mulW (pv 4) (pv 4)) pe_int) pe_int) pe_int))
      (pss_cons (ps_if (pt_cmpR op_gt (pv 1) pe_int (nomark _))
      (pss_one (ps_ret (pe_op op_mod (pe_op op_add (pe_op op_mulW (pv 5) pe_int) (pv 4)) (pv 1))))
      pss_nil)
      (pss_one (ps_ret (pe_op op_mod (pe_op op_fdivW (pv 5) pe_int) (pv 1))))))))), ?_⟩
  refine ⟨fun σ H' => ∃ c, σ = [some (.ref b), some (.int m), c, none, none, none] ∧ Go b H H', ?_, ?_⟩
  · have hb' := hb
    obtain ⟨c, hbc⟩ := hb
    have hbc' := hbc
    obtain ⟨a, z, n, cs, h1, h2, hcb, a0, z0, s0, s1, k0⟩ := hbc
    refine ⟨_, rfl, b, _, _, _, rfl, rfl, SqL.of h1, rfl, rfl, _, rfl, ?_⟩
    refine ite2 (fun ha => ?_) (fun _ => ⟨_, rfl, Go.refl hb'⟩)
    refine ⟨fun σ H' => ∃ e : Int, 0 ≤ e ∧ σ = [some (.ref b), some (.int m), some (.int e), none, none, none] ∧ H' = H, ?_, ?_⟩
    · refine ⟨_, rfl, b, _, _, _, rfl, rfl, SqL.of h1, rfl, _, rfl, b, _, _, _, rfl, rfl, SqL.of h1, rfl, _, _, rfl, Or.inl ⟨_, SqL.of h2, rfl⟩, _, _, rfl, rfl, _, rfl, ?_⟩
      refine ite2 (fun hn => ?_) (fun _ => ⟨0, Int.le_refl _, rfl, rfl⟩)
      have hn' := of_decide_eq_true hn
      rw [List.length_map] at hn'
      obtain ⟨j, rfl⟩ := Int.eq_ofNat_of_zero_le k0
      have hj : j < cs.length := by omega
      refine ⟨_, rfl, b, _, _, _, rfl, rfl, SqL.of h1, rfl, _, rfl, b, _, _, _, rfl, rfl, SqL.of h1, rfl, c, _, _, .int cs[j], rfl, rfl, SqL.of h2, atI_nat (by rw [List.getElem?_map, List.getElem?_eq_getElem hj]; rfl), ?_⟩
      exact ⟨cs[j], z0 _ (List.getElem_mem hj), rfl, rfl⟩
    · rintro σ H' ⟨e, e0, rfl, rfl⟩
      refine ⟨_, rfl, b, _, 2, _, rfl, rfl, SqL.of h1, rfl, _, _, rfl, rfl, b, _, _, 2, rfl, rfl, h1, rfl, ?_⟩
      refine ⟨fun σ H1 => ∃ a' : Int, 0 ≤ a' ∧ σ = [some (.ref b), some (.int m), some (.int e), none, none, none] ∧ H1 b = some (.lst [.int a', .int z, .int (n + 1), .ref c]) ∧ hid b H1 = hid b H', ?_, ?_⟩
      · refine ⟨_, rfl, _, _, rfl, rfl, _, rfl, ?_⟩
        refine ite2 (fun _ => ?_) (fun _ => ⟨a, a0, rfl, upd_same, hid_upd⟩)
        refine ⟨_, rfl, _, rfl, b, _, _, 0, rfl, rfl, upd_same, rfl, ?_⟩
        exact ⟨e, e0, rfl, upd_same, by rw [hid_upd, hid_upd]⟩
      · rintro σ H1 ⟨a', a0', rfl, hH, hh⟩
        refine ⟨_, rfl, b, _, _, _, rfl, rfl, SqL.of hH, rfl, _, _, rfl, rfl, wide_mul (a := 64) (b := 64) (by omega) (by decide) (by decide) (by decide) (by decide), _, rfl, _, _, rfl, rfl, (by show (0 : Int) < 2147483647; decide), _, _, rfl, rfl, _, rfl, b, _, _, _, rfl, rfl, SqL.of hH, rfl, _, _, rfl, rfl, .inl ⟨by decide, by decide⟩, _, _, rfl, rfl, _, _, rfl, rfl, (by show (0 : Int) < 2147483647; decide), _, rfl, b, _, _, 1, rfl, rfl, hH, rfl, ?_⟩
        refine ⟨_, rfl, ⟨c, hbc', a', _, n + 1, cs, upd_same, ?_, hcb, a0', z0, Int.emod_nonneg _ (by decide), Int.emod_lt_of_pos _ (by decide), by omega⟩, ?_⟩
        · have q := congrFun hh c
          rw [hid_ne hcb, hid_ne hcb] at q
          rw [upd_ne hcb, q]
          exact h2
        · rw [hid_upd, hh]
          exact Same.refl _
  · rintro σ H1 ⟨c0, rfl, g⟩
    have g' := g
    obtain ⟨⟨c, hbc, a, z, n, cs, h1, h2, hcb, a0, z0, s0, s1, k0⟩, sm⟩ := g
    refine ⟨_, rfl, b, _, _, _, rfl, rfl, SqL.of h1, rfl, _, _, rfl, rfl, _, rfl, ?_⟩
    refine ite2 (fun ha => ?_) (fun _ => ?_)
    · refine ⟨_, rfl, b, _, _, _, rfl, rfl, SqL.of h1, rfl, _, rfl, _, _, rfl, rfl, m0, _, rfl, b, _, _, _, rfl, rfl, SqL.of h1, rfl, _, rfl, _, _, rfl, rfl, wide_div (b := 200) m0 (by omega) (by decide) (by decide), _, rfl, b, _, _, 0, rfl, rfl, h1, rfl, _, rfl, ?_⟩
      refine k _ _ (Int.emod_nonneg _ (by omega)) (Int.emod_lt_of_pos _ m0) ⟨⟨c, hbc, _, z, n, cs, upd_same, by rw [upd_ne hcb]; exact h2, hcb, Int.ediv_nonneg a0 (by omega), z0, s0, s1, k0⟩, ?_⟩
      rw [hid_upd]
      exact sm
    · refine ⟨_, rfl, b, _, _, _, rfl, rfl, SqL.of h1, rfl, _, _, rfl, rfl, _, _, rfl, rfl, wide_mul (a := 64) (b := 64) (by omega) (by decide) (by decide) (by decide) (by decide), _, _, rfl, rfl, (by show (0 : Int) < 1000000007; decide), ?_⟩
      have q1 : 0 ≤ (z + 1) * 39373 % 1000000007 := Int.emod_nonneg _ (by decide)
      have q2 : (z + 1) * 39373 % 1000000007 < 1000000007 := Int.emod_lt_of_pos _ (by decide)
      generalize (z + 1) * 39373 % 1000000007 = y at q1 q2
      refine ⟨_, rfl, _, rfl, _, _, rfl, rfl, wide_mul (a := 64) (b := 64) (by omega) (by omega) (by decide) (by decide) (by decide), _, _, rfl, rfl, (by show (0 : Int) < 998244353; decide), ?_⟩
      have q3 : 0 ≤ y * y % 998244353 := Int.emod_nonneg _ (by decide)
      have q4 : y * y % 998244353 < 998244353 := Int.emod_lt_of_pos _ (by decide)
      generalize y * y % 998244353 = y2 at q3 q4
      refine ⟨_, _, rfl, rfl, wide_mul (a := 64) (b := 64) (by omega) (by decide) (by decide) (by decide) (by decide), _, _, rfl, rfl, (by show (0 : Int) < 998244353; decide), ?_⟩
      have q5 : 0 ≤ y2 * 30011 % 998244353 := Int.emod_nonneg _ (by decide)
      have q6 : y2 * 30011 % 998244353 < 998244353 := Int.emod_lt_of_pos _ (by decide)
      generalize y2 * 30011 % 998244353 = y3 at q5 q6
      refine ⟨_, rfl, _, _, rfl, rfl, _, rfl, ?_⟩
      refine ite2 (fun _ => ?_) (fun _ => ?_)
      · refine ⟨_, rfl, _, _, rfl, rfl, wide_mul (a := 64) (b := 64) (by omega) (by decide) (by decide) (by decide) (by decide), _, rfl, _, _, rfl, rfl, _, rfl, _, _, rfl, rfl, m0, ?_⟩
        exact k _ _ (Int.emod_nonneg _ (by omega)) (Int.emod_lt_of_pos _ m0) g'
      · refine ⟨_, rfl, _, _, rfl, rfl, wide_div (b := 200) (by decide) (by decide) (by decide) (by decide), _, rfl, _, _, rfl, rfl, m0, ?_⟩
        exact k _ _ (Int.emod_nonneg _ (by omega)) (Int.emod_lt_of_pos _ m0) g'

abbrev s__law_amount : Stmt := top 26
abbrev sc__law_amount_N : List Str := ["_law_bag_here", "_law_great"]
theorem sc__law_amount : FnScope sc__law_amount_N ["_law_bag_here", "_law_great"] (defScope s__law_amount) := ⟨rfl, rfl, rfl, by decide +kernel, rfl, by decide +kernel, by decide +kernel⟩
theorem ok__law_amount (D : Def K mg "_law_amount" s__law_amount ["_law_bag_here", "_law_great"]) (B : Blt mg) (c__law_take : Cal P w K mg base CX0 1 "_law_take" ["_law_bag_here", "_law_many"] sp_take) : Cal P w K mg base CX0 2 "_law_amount" ["_law_bag_here", "_law_great"] sp_amount := by
  refine D.ok sc__law_amount (fun vs H Q E h => by obtain ⟨b, g, rfl, _⟩ := h; rfl) (fun f cdv A out s H vs Q E hr h => ?_)
  obtain ⟨b, g, rfl, hb, k⟩ := h
  refine ⟨_, (pss_cons (ps_if (PW.pt (pw_and (pt_val (pv 1)) (pw_and1 (pt_cmpR op_eq (pe_c c__law_take (hr.mono (by decide)) pass0 (pa_cons (pv 0) (pa_cons pe_int pa_nil))) pe_int (nomark _)))))
      (pss_one (ps_ret (pe_ix (kixL K) (pe_lst (pa_cons (pe_op op_sub (pe_op op_pow pe_int pe_int) (pe_c c__law_take (hr.mono (by decide)) pass0 (pa_cons (pv 0) (pa_cons pe_int pa_nil)))) (pa_cons (pe_op op_add pe_int (pe_c c__law_take (hr.mono (by decide)) pass0 (pa_cons (pv 0) (pa_cons (pe_op op_pow pe_int pe_int) pa_nil)))) pa_nil))) (pe_c c__law_take (hr.mono (by decide)) pass0 (pa_cons (pv 0) (pa_cons pe_int pa_nil))) (fun _ _ => rfl))))
      pss_nil)
      (pss_one (ps_ret (pe_op op_add pe_int (pe_c c__law_take (hr.mono (by decide)) pass0 (pa_cons (pv 0) (pa_cons (pe_ix (kixL K) (pe_lst (pa_cons pe_int (pa_cons pe_int (pa_cons pe_int pa_nil)))) (pe_c c__law_take (hr.mono (by decide)) pass0 (pa_cons (pv 0) (pa_cons pe_int pa_nil))) (fun _ _ => rfl)) pa_nil))))))), ?_⟩
  have e18 : (10 : Int) ^ (18 : Int).toNat = 1000000000000000000 := by decide
  have low : ∀ H1, Go b H H1 → ∀ (a : V), tCall sp_take [] E (tCons (tVar 0) (tCons (tOp (rIxL K) (tLst (tCons (tC (.int 1)) (tCons (tC (.int 3)) (tCons (tC (.int 9)) tNil)))) (tCall sp_take [] E (tCons (tVar 0) (tCons (tC (.int 3)) tNil)))) tNil)) [some (.ref b), some a] H1 (fun x H2 => ∃ i j : Int, V.int 1 = .int i ∧ x = .int j ∧ Q (.int (i + j)) H2) := by
    intro H1 g1 a
    refine ⟨_, rfl, by show 3 ≤ sizeLine; decide, fun p hp => ?_⟩
    have t2 := g1.new (o := .lst ([1, 3, 9].map V.int)) hp
    have np := g1.bag.ne hp
    refine ⟨_, rfl, b, _, rfl, t2.bag, by decide, by decide, fun v H3 v0 v1 g3 => ?_⟩
    obtain ⟨m, hm, em⟩ := pickI (ns := [1, 3, 9]) v0 (by simpa using v1)
    simp only [List.mem_cons, List.not_mem_nil, or_false] at hm
    refine ⟨p, _, _, _, rfl, rfl, SqL.of (g3.get upd_same np), em, b, _, rfl, g3.bag, by omega, by omega, fun u H4 u0 u1 g4 => ?_⟩
    exact ⟨_, _, rfl, rfl, k _ _ (by omega) (by omega) ((t2.trans g3).trans g4)⟩
  cases g with
  | false =>
    refine ⟨_, rfl, _, rfl, iteF ?_⟩
    exact low H (Go.refl hb) _
  | true =>
    refine ⟨_, rfl, _, rfl, iteT ?_⟩
    refine ⟨_, rfl, b, _, rfl, hb, by decide, by decide, fun v H1 v0 v1 g1 => ⟨rfl, _, rfl, ite2 (fun _ => ?_) (fun _ => low H1 g1 _)⟩⟩
    refine ⟨_, _, rfl, rfl, cp10 (by decide) (by decide), _, rfl, b, _, rfl, g1.bag, by decide, by decide, fun u H2 u0 u1 g2 => ?_⟩
    refine ⟨_, _, rfl, rfl, _, rfl, _, _, rfl, rfl, cp10 (by decide) (by decide), b, _, rfl, g2.bag, by decide, by decide, fun z H3 z0 z1 g3 => ?_⟩
    refine ⟨_, _, rfl, rfl, by show 2 ≤ sizeLine; decide, fun p hp => ?_⟩
    have t4 := ((g1.trans g2).trans g3).new (o := .lst ([10 ^ (18 : Int).toNat - u, 1 + z].map V.int)) hp
    have np := g3.bag.ne hp
    refine ⟨_, rfl, b, _, rfl, t4.bag, by decide, by decide, fun y H5 y0 y1 g5 => ?_⟩
    obtain ⟨m, hm, em⟩ := pickI (ns := [10 ^ (18 : Int).toNat - u, 1 + z]) y0 (by simpa using y1)
    rw [e18] at z1
    simp only [List.mem_cons, List.not_mem_nil, or_false, e18] at hm
    exact ⟨p, _, _, _, rfl, rfl, SqL.of (g5.get upd_same np), em, k _ _ (by omega) (by omega) (t4.trans g5)⟩

abbrev s__law_bundles : Stmt := top 27
abbrev sc__law_bundles_N : List Str := ["_law_bag_here", "_law_size", "_law_great", "_law_rare", "_law_found", "_law_first", "_law_second"]
theorem sc__law_bundles : FnScope sc__law_bundles_N ["_law_bag_here", "_law_size", "_law_great"] (defScope s__law_bundles) := ⟨rfl, rfl, rfl, by decide +kernel, rfl, by decide +kernel, by decide +kernel⟩
theorem ok__law_bundles (D : Def K mg "_law_bundles" s__law_bundles ["_law_bag_here", "_law_size", "_law_great"]) (B : Blt mg) (c__law_take : Cal P w K mg base CX0 1 "_law_take" ["_law_bag_here", "_law_many"] sp_take) (c__law_amount : Cal P w K mg base CX0 2 "_law_amount" ["_law_bag_here", "_law_great"] sp_amount) : Cal P w K mg base CX0 3 "_law_bundles" ["_law_bag_here", "_law_size", "_law_great"] (sp_bundles K) := by
  refine D.ok sc__law_bundles (fun vs H Q E h => by obtain ⟨b, n, g, rfl, _⟩ := h; rfl) (fun f cdv A out s H vs Q E hr h => ?_)
  obtain ⟨b, n, g, rfl, hb, n0, n1, k⟩ := h
  refine ⟨_, (pss_cons (ps_par (i := 3) (j := 4) (by rfl) sc__law_bundles.nd rfl rfl (by decide) rfl rfl (pa_cons (pe_op op_add pe_int (pe_c c__law_take (hr.mono (by decide)) pass0 (pa_cons (pv 0) (pa_cons pe_int pa_nil)))) (pa_cons (pe_lst pa_nil) pa_nil)) (by rfl))
      (pss_cons (ps_for PassesOwn.never rfl (pi_range1 rfl B.range (pa_cons (pv 1) pa_nil)) (pg_name (i := 5) sc__law_bundles.nd rfl (Or.inl rfl))
      (pss_one (ps_for PassesOwn.never rfl (pi_range2 rfl B.range (pa_cons (pe_op op_add (pv 5) pe_int) (pa_cons (pv 1) pa_nil))) (pg_name (i := 6) sc__law_bundles.nd rfl (Or.inl rfl))
      (pss_one (ps_if (pt_cmpR op_eq (pe_c c__law_take (hr.mono (by decide)) pass0 (pa_cons (pv 0) (pa_cons (pv 3) pa_nil))) pe_int (nomark _))
      (pss_one (ps_expr (pe_bm PySem.F.plainAttrs_list PySem.F.slot_list_append PySem.F.type_list_append mt_append (pv 4) (pa_cons (pe_tup (pa_cons (pv 5) (pa_cons (pv 6) (pa_cons (pe_c c__law_amount (hr.mono (by decide)) pass0 (pa_cons (pv 0) (pa_cons (pv 2) pa_nil))) pa_nil)))) pa_nil))))
      pss_nil)))))
      (pss_cons (ps_set (i := 4) sc__law_bundles.nd rfl (Or.inl rfl) (pe_orT (pv 4) (pe_one (pe_lst (pa_cons (pe_tup (pa_cons pe_int (pa_cons pe_int (pa_cons (pe_c c__law_amount (hr.mono (by decide)) pass0 (pa_cons (pv 0) (pa_cons (pv 2) pa_nil))) pa_nil)))) pa_nil)))))
      (pss_one (ps_ret (pe_ifExp (pt_cmpR op_eq (pe_c c__law_take (hr.mono (by decide)) pass0 (pa_cons (pv 0) (pa_cons pe_int pa_nil))) pe_int (nomark _)) (pe_revL (pv 4)) (pv 4))))))), ?_⟩
  refine ⟨_, rfl, b, _, rfl, hb, by decide, by decide, fun r0 H1 r1 r2 g1 => ⟨_, _, rfl, rfl, ?_⟩⟩
  refine ⟨by show 0 ≤ sizeLine; decide, fun L hL1 => ?_⟩
  have nL := g1.bag.ne hL1
  have hL : H L = none := by
    cases e : H L with
    | none => rfl
    | some o => have := g1.get e nL; rw [hL1] at this; cases this
  have g0 := g1.new (o := .lst []) hL1
  refine ⟨_, _, rfl, ?_⟩
  refine ⟨_, rfl, _, rfl, by omega, by omega, for_range (lo := 0) (n := n.toNat) (fun i σ H' => ∃ us bs x5 x6, σ = [some (.ref b), some (.int n), some (.bl g), some (.int (1 + r0)), some (.ref L), x5, x6] ∧ Go b H H' ∧ H' L = some (.lst us) ∧ DaL K (hid L (hid b H')) us (bs.map bD) ∧ BunsTo n i 0 bs ∧ bs.length ≤ tri i) ⟨[], [], _, _, rfl, g0, upd_same, .nil, BunsTo.nil, Nat.le_refl _⟩ ?_ ?_⟩
  · rintro i σ H2 hi ⟨us, bs, x5, x6, rfl, g2, hus, hda, ho, hlen⟩
    refine ⟨_, rfl, _, _, rfl, rfl, _, rfl, _, _, rfl, ⟨by omega, by omega, by omega, by omega⟩, for_range (lo := 0 + (i : Int) + 1) (n := (n - (0 + (i : Int) + 1)).toNat) (fun j σ H' => ∃ us bs x6, σ = [some (.ref b), some (.int n), some (.bl g), some (.int (1 + r0)), some (.ref L), some (.int (0 + (i : Int))), x6] ∧ Go b H H' ∧ H' L = some (.lst us) ∧ DaL K (hid L (hid b H')) us (bs.map bD) ∧ BunsTo n (0 + (i : Int)) (0 + (i : Int) + 1 + (j : Int)) bs ∧ bs.length ≤ tri i + j) ⟨us, bs, _, rfl, g2, hus, hda, ho.on (Or.inr ⟨by omega, by omega⟩), by omega⟩ ?_ ?_⟩
    · rintro j σ H3 hj ⟨us, bs, x6, rfl, g3, hus, hda, ho, hlen⟩
      have hul : us.length ≤ tri i + j := by rw [hda.len, List.length_map]; exact hlen
      have ht := tri45 i (by omega)
      refine ⟨_, rfl, _, rfl, b, _, rfl, g3.bag, by omega, by omega, fun v H4 v0 v1 g4 => ?_⟩
      refine ⟨rfl, _, rfl, ite2 (fun _ => ?_) (fun _ => ?_)⟩
      · refine ⟨_, rfl, .inl ⟨rfl, _, SqL.of (g4.get hus nL)⟩, _, rfl, _, rfl, _, rfl, _, rfl, b, g, rfl, g4.bag, fun c H5 c0 c1 g5 => ?_⟩
        refine ⟨by show 3 ≤ sizeLine; decide, fun r hr' => ?_⟩
        have g35 := g4.trans g5
        have hus5 := g35.get hus nL
        have t6 := Go.of g5.bag (same_new (o := .tup ([0 + (i : Int), 0 + (i : Int) + 1 + (j : Int), c].map V.int)) hr')
        have hus6 := t6.get hus5 nL
        have dnew : Da K (hid L (hid b (upd H5 r (.tup ([0 + (i : Int), 0 + (i : Int) + 1 + (j : Int), c].map V.int))))) (.ref r) (bD (0 + (i : Int), 0 + (i : Int) + 1 + (j : Int), c)) := da_newT2 g5.bag hus5 (DaL.ints _) hr'
        refine ⟨L, us, _, rfl, rfl, hus6, by rw [sizeLine_eq]; omega, us ++ [.ref r], bs ++ [(0 + (i : Int), 0 + (i : Int) + 1 + (j : Int), c)], _, rfl, ((g3.trans g35).trans t6).mut hL, upd_same, ?_, ?_, ?_⟩
        · rw [hid2_upd nL, List.map_append]
          exact (hda.mono (g35.trans t6).sm2).app (.cons dnew .nil)
        · exact ho.snoc ⟨by show (0 : Int) ≤ 0 + i; omega, by show 0 + (i : Int) < 0 + i + 1 + j; omega, by show 0 + (i : Int) + 1 + j < n; omega, c0, c1⟩ (by omega)
        · rw [List.length_append, List.length_singleton]
          omega
      · exact ⟨us, bs, _, rfl, g3.trans g4, g4.get hus nL, hda.mono g4.sm2, ho.on (Or.inr ⟨rfl, by omega⟩), by omega⟩
    · rintro σ H3 ⟨us, bs, x6, rfl, g3, hus, hda, ho, hlen⟩
      refine ⟨us, bs, _, _, rfl, g3, hus, hda, ho.on (Or.inl (by omega)), ?_⟩
      show bs.length ≤ tri i + (9 - i)
      omega
  · rintro σ H2 ⟨us, bs, x5, x6, rfl, g2, hus, hda, ho, hlen⟩
    have ends : ∀ (a : Addr) (us : List V) (bs : List Bun) (H2 : Hp), Go b H H2 → a ≠ b → H2 a = some (.lst us) → DaL K (hid b H2) us (bs.map bD) → BunsOk n bs → bs ≠ [] →
        tRet (tIf (tTest (tOp rEq (tCall sp_take [] E0 (tCons (tVar 0) (tCons (tC (.int 3)) tNil))) (tC (.int 0)))) (tRevL K (tVar 4)) (tVar 4)) { nx := fun x H' => Q .non H', rt := Q } [some (.ref b), some (.int n), some (.bl g), some (.int (1 + r0)), some (.ref a), x5, x6] H2 := by
      intro a us bs H2 g2 na hus hda ho hne
      refine ⟨_, rfl, b, _, rfl, g2.bag, by decide, by decide, fun v H3 v0 v1 g3 => ⟨rfl, _, rfl, ite2 (fun _ => ?_) (fun _ => ?_)⟩⟩
      · have hus3 := g3.get hus na
        refine ⟨_, rfl, a, us, rfl, SqL.of hus3, fun p hp => ?_⟩
        have t4 := Go.of g3.bag (same_new (o := .lst us.reverse) hp)
        refine k p _ bs.reverse _ ((g2.trans g3).trans t4) (g3.bag.ne hp) upd_same ?_ ho.rev (by simpa using hne)
        rw [List.map_reverse]
        exact ((hda.mono g3.sm).mono t4.sm).rev
      · exact ⟨_, rfl, k a us bs H3 (g2.trans g3) na (g3.get hus na) (hda.mono g3.sm) ho hne⟩
    have hul : us.length = bs.length := by rw [hda.len, List.length_map]
    have ht := tri45 n.toNat (by omega)
    refine ⟨_, rfl, !us.isEmpty, .inl ⟨us, SqL.of hus, rfl⟩, ?_⟩
    cases us with
    | cons u us =>
      refine iteT ?_
      exact ends L _ bs H2 g2 nL hus (hda.mono hid2_le) ⟨n0, n1, by omega, ho.each, ho.nd⟩ (by intro e; subst e; cases hul)
    | nil =>
      refine iteF ?_
      refine ⟨_, rfl, _, rfl, b, g, rfl, g2.bag, fun c H3 c0 c1 g3 => ⟨by show 3 ≤ sizeLine; decide, fun p hp => ⟨by show 1 ≤ sizeLine; decide, fun q hq => ?_⟩⟩⟩
      have dp : Da K (hid b (upd H3 p (.tup ([0, 1, c].map V.int)))) (.ref p) (bD (0, 1, c)) := da_newT g3.bag (DaL.ints [0, 1, c]) hp
      have t4 := (g2.trans g3).new (o := .tup ([0, 1, c].map V.int)) hp
      refine ends q [.ref p] [(0, 1, c)] _ (t4.new hq) (t4.bag.ne hq) upd_same (DaL.mono (.cons dp .nil) (hid_same (same_new hq))) ⟨n0, n1, by show 1 ≤ 45; decide, fun t ht => ?_, by simp⟩ (by simp)
      rw [List.mem_singleton.mp ht]
      exact ⟨by show (0 : Int) ≤ 0; decide, by show (0 : Int) < 1; decide, by show 1 < n; omega, c0, c1⟩

abbrev s__law_bounds : Stmt := top 29
abbrev sc__law_bounds_N : List Str := ["_law_bag_here", "_law_held", "_law_found", "_law_load", "_law_under", "_law_over"]
theorem sc__law_bounds : FnScope sc__law_bounds_N ["_law_bag_here", "_law_held"] (defScope s__law_bounds) := ⟨rfl, rfl, rfl, by decide +kernel, rfl, by decide +kernel, by decide +kernel⟩
theorem ok__law_bounds (D : Def K mg "_law_bounds" s__law_bounds ["_law_bag_here", "_law_held"]) (B : Blt mg) (c__law_take : Cal P w K mg base CX0 1 "_law_take" ["_law_bag_here", "_law_many"] sp_take) : Cal P w K mg base CX0 2 "_law_bounds" ["_law_bag_here", "_law_held"] (sp_bounds K) := by
  refine D.ok sc__law_bounds (fun vs H Q E h => by obtain ⟨b, h, hs, rfl, _⟩ := h; rfl) (fun f cdv A out s H vs Q E hr h => ?_)
  obtain ⟨b, h, hs, rfl, hb, sh, hlen, hx, k⟩ := h
  refine ⟨_, (pss_cons (ps_set (i := 2) sc__law_bounds.nd rfl (Or.inl rfl) (pe_lst pa_nil))
      (pss_cons (ps_for PassesOwn.never rfl (pi_list (pv 1)) (pg_name (i := 3) sc__law_bounds.nd rfl (Or.inl rfl))
      (pss_cons (ps_set (i := 4) sc__law_bounds.nd rfl (Or.inl rfl) (pe_ix (kixL K) (pe_lst (pa_cons pe_int (pa_cons pe_int (pa_cons pe_int (pa_cons (pe_c c__law_take (hr.mono (by decide)) pass0 (pa_cons (pv 0) (pa_cons pe_int pa_nil))) (pa_cons (pv 3) pa_nil)))))) (pe_c c__law_take (hr.mono (by decide)) pass0 (pa_cons (pv 0) (pa_cons pe_int pa_nil))) (fun _ _ => rfl)))
      (pss_cons (ps_set (i := 5) sc__law_bounds.nd rfl (Or.inl rfl) (pe_ix (kixL K) (pe_lst (pa_cons pe_int (pa_cons pe_int (pa_cons pe_int (pa_cons (pe_c c__law_take (hr.mono (by decide)) pass0 (pa_cons (pv 0) (pa_cons pe_int pa_nil))) (pa_cons (pe_op op_pow pe_int pe_int) pa_nil)))))) (pe_c c__law_take (hr.mono (by decide)) pass0 (pa_cons (pv 0) (pa_cons pe_int pa_nil))) (fun _ _ => rfl)))
      (pss_one (ps_expr (pe_bm PySem.F.plainAttrs_list PySem.F.slot_list_append PySem.F.type_list_append mt_append (pv 2) (pa_cons (pe_tup (pa_cons (pe_callB (call_max2 rfl) (by rfl) B.max (by decide +kernel) (pa_cons pe_int (pa_cons (pe_op op_sub (pv 3) (pv 4)) pa_nil))) (pa_cons (pe_op op_add (pv 3) (pv 5)) pa_nil))) pa_nil)))))))
      (pss_one (ps_ret (pv 2))))), ?_⟩
  refine ⟨by show 0 ≤ sizeLine; decide, fun L hL => ?_⟩
  have nL := hb.ne hL
  have g0 := (Go.refl hb).new (o := .lst []) hL
  refine ⟨_, rfl, h, rfl, ⟨_, sql_up hid_le (sql_up g0.sm sh)⟩, for_list (K := K) (a := h) (xs := hs.map V.int) (fun i σ H' => ∃ us cs x3 x4 x5, σ = [some (.ref b), some (.ref h), some (.ref L), x3, x4, x5] ∧ Go b H H' ∧ H' L = some (.lst us) ∧ DaL K (hid L (hid b H')) us (cs.map cD) ∧ BndsAt cs (hs.take i)) ⟨[], [], _, _, _, rfl, g0, upd_same, .nil, ⟨rfl, fun i c x h => by cases h⟩⟩ (fun _ _ _ _ hh => by obtain ⟨_, _, _, _, _, _, g, _⟩ := hh; exact sql_up hid_le (sql_up g.sm sh)) ?_ ?_⟩
  · rintro i y σ H2 hy ⟨us, cs, x3, x4, x5, rfl, g2, hus, hda, ho⟩
    rw [List.getElem?_map] at hy
    cases em : hs[i]? with
    | none => rw [em] at hy; cases hy
    | some z =>
    rw [em] at hy
    obtain rfl : V.int z = y := Option.some.inj hy
    obtain ⟨z0, z1⟩ := hx z (List.mem_of_getElem? em)
    have hil : i < hs.length := (List.getElem?_eq_some_iff.mp em).1
    have hul : us.length = i := by rw [hda.len, List.length_map, ho.1, List.length_take]; omega
    refine ⟨_, rfl, b, _, rfl, g2.bag, by decide, by decide, fun u H3 u0 u1 g3 => ?_⟩
    refine ⟨_, rfl, by show 5 ≤ sizeLine; decide, fun p hp => ?_⟩
    have np := g3.bag.ne hp
    have t4 := Go.of g3.bag (same_new (o := .lst ([0, 0, 1, u, z].map V.int)) hp)
    refine ⟨_, rfl, b, _, rfl, t4.bag, by decide, by decide, fun v H5 v0 v1 g5 => ?_⟩
    obtain ⟨un, hun, eun⟩ := pickI (ns := [0, 0, 1, u, z]) v0 (by simpa using v1)
    refine ⟨p, _, _, _, rfl, rfl, SqL.of (g5.get upd_same np), eun, ?_⟩
    refine ⟨_, rfl, b, _, rfl, g5.bag, by decide, by decide, fun w' H6 w0 w1 g6 => ?_⟩
    refine ⟨_, _, rfl, rfl, cp10 (by decide) (by decide), by show 5 ≤ sizeLine; decide, fun q hq => ?_⟩
    have nq := g6.bag.ne hq
    have t7 := Go.of g6.bag (same_new (o := .lst ([0, 0, 1, w', 10 ^ (19 : Int).toNat].map V.int)) hq)
    refine ⟨_, rfl, b, _, rfl, t7.bag, by decide, by decide, fun v' H8 v0' v1' g8 => ?_⟩
    obtain ⟨ov, hov, eov⟩ := pickI (ns := [0, 0, 1, w', 10 ^ (19 : Int).toNat]) v0' (by simpa using v1')
    refine ⟨q, _, _, _, rfl, rfl, SqL.of (g8.get upd_same nq), eov, ?_⟩
    have g28 := ((((g3.trans t4).trans g5).trans g6).trans t7).trans g8
    have hus8 := g28.get hus nL
    refine ⟨_, rfl, .inl ⟨rfl, _, SqL.of hus8⟩, ?_⟩
    refine ⟨_, rfl, _, rfl, _, _, rfl, rfl, _, _, rfl, ?_⟩
    refine ⟨_, rfl, _, rfl, _, _, rfl, rfl, by show 2 ≤ sizeLine; decide, fun r hr' => ?_⟩
    generalize elo : (if z - un > 0 then z - un else 0) = lo at hr' ⊢
    have t9 := Go.of g8.bag (same_new (o := .tup ([lo, z + ov].map V.int)) hr')
    have hus9 := t9.get hus8 nL
    have dnew : Da K (hid L (hid b (upd H8 r (.tup ([lo, z + ov].map V.int))))) (.ref r) (cD (lo, z + ov)) := da_newT2 g8.bag hus8 (DaL.ints _) hr'
    refine ⟨L, us, _, rfl, rfl, hus9, by rw [sizeLine_eq]; omega, us ++ [.ref r], cs ++ [(lo, z + ov)], _, _, _, rfl, ((g2.trans g28).trans t9).mut hL, upd_same, ?_, ho.snoc em ?_⟩
    · rw [hid2_upd nL, List.map_append]
      exact (hda.mono (g28.trans t9).sm2).app (.cons dnew .nil)
    · have e19 : (10 : Int) ^ (19 : Int).toNat = 10000000000000000000 := by decide
      simp only [List.mem_cons, List.not_mem_nil, or_false, e19] at hun hov
      have hlo : 0 ≤ lo ∧ lo ≤ z := by
        subst elo
        split <;> omega
      exact ⟨hlo.1, hlo.2, by show z ≤ z + ov; omega, by show z + ov ≤ 1000000000000000000000; omega⟩
  · rintro σ H2 ⟨us, cs, x3, x4, x5, rfl, g2, hus, hda, ho⟩
    rw [List.length_map, List.take_length] at ho
    exact ⟨_, rfl, k L us cs H2 g2 nL hus (hda.mono hid2_le) ho⟩

abbrev s__law_loads : Stmt := top 28
abbrev sc__law_loads_N : List Str := ["_law_size", "_law_bundles_here", "_law_leads", "_law_found", "_law_many", "_law_first", "_law_second", "_law_partitions"]
theorem sc__law_loads : FnScope sc__law_loads_N ["_law_size", "_law_bundles_here", "_law_leads"] (defScope s__law_loads) := ⟨rfl, rfl, rfl, by decide +kernel, rfl, by decide +kernel, by decide +kernel⟩
theorem ok__law_loads (D : Def K mg "_law_loads" s__law_loads ["_law_size", "_law_bundles_here", "_law_leads"]) (B : Blt mg) : Cal P w K mg base CX0 1 "_law_loads" ["_law_size", "_law_bundles_here", "_law_leads"] (sp_loads K) := by
  refine D.ok sc__law_loads (fun vs H Q E h => by obtain ⟨n, x, l, t, us, bs, ms, rfl, _⟩ := h; rfl) (fun f cdv A out s H vs Q E hr h => ?_)
  obtain ⟨n, x, l, t, us, bs, ms, rfl, n0, n1, sx, dx, sl, hl, hb, k⟩ := h
  refine ⟨_, (pss_cons (ps_set (i := 3) sc__law_loads.nd rfl (Or.inl rfl) (pe_op op_rep (pe_lst (pa_cons pe_int pa_nil)) (pv 0)))
      (pss_cons (ps_for PassesOwn.never rfl (pi_zipP (by rfl) B.zip (pa_cons (pv 2) (pa_cons (pv 1) pa_nil))) (pg_tup rfl (pgs_cons (pg_name (i := 4) sc__law_loads.nd rfl (Or.inl rfl)) (pgs_cons (pg_tup rfl (pgs_cons (pg_name (i := 5) sc__law_loads.nd rfl (Or.inl rfl)) (pgs_cons (pg_name (i := 6) sc__law_loads.nd rfl (Or.inl rfl)) (pgs_cons (pg_name (i := 7) sc__law_loads.nd rfl (Or.inl rfl)) pgs_nil)))) pgs_nil)))
      (pss_cons (ps_asg (pe_op op_add (pe_ix (kixL K) (pv 3) (pv 5) (fun _ _ => rfl)) (pv 4)) (pg_sub (pv 3) (pv 5) set_list))
      (pss_one (ps_asg (pe_op op_sub (pe_op op_add (pe_ix (kixL K) (pv 3) (pv 6) (fun _ _ => rfl)) (pv 7)) (pv 4)) (pg_sub (pv 3) (pv 6) set_list)))))
      (pss_one (ps_ret (pv 3))))), ?_⟩
  refine ⟨by show 1 ≤ sizeLine; decide, fun p hp => ?_⟩
  refine ⟨_, rfl, p, _, _, rfl, rfl, upd_same, by omega, by omega, by show 1 * n.toNat ≤ sizeLine; rw [sizeLine_eq]; omega, fun L hL1 => ?_⟩
  have s1 : Same H (upd (upd H p (.lst [.int 0])) L (.lst (List.replicate n.toNat [V.int 0]).flatten)) := (same_new hp).trans (same_new hL1)
  have hL : H L = none := (same_new hp).free hL1
  have e0 : (List.replicate n.toNat [V.int 0]).flatten = (List.replicate n.toNat (0 : Int)).map V.int := by rw [List.flatten_replicate_singleton, List.map_replicate]
  have hul : us.length = bs.length := by rw [dx.len, List.length_map]
  refine ⟨_, rfl, _, rfl, t, l, x, ms.map V.int, us, rfl, lt_up s1 sl, sql_up s1 sx, for_zipP (xs := ms.map V.int) (ys := us) (by rw [List.length_map]; omega) (fun i σ H' => ∃ x4 x5 x6 x7, σ = [some (.int n), some (.ref x), some (.ref l), some (.ref L), x4, x5, x6, x7] ∧ Same H H' ∧ H' L = some (.lst ((ldAll (List.replicate n.toNat 0) (ms.take i) (bs.take i)).map V.int))) ⟨_, _, _, _, rfl, s1, by rw [upd_same, e0]; rfl⟩ (fun i σ H' h => by obtain ⟨_, _, _, _, _, e, _⟩ := h; exact ⟨lt_up e sl, sql_up e sx⟩) ?_ ?_⟩
  · rintro i y z T σ H2 hy hz ⟨x4, x5, x6, x7, rfl, e2, hL2⟩ hT
    have nT : L ≠ T := ne_of_none hL2 hT
    rw [List.getElem?_map] at hy
    cases em : ms[i]? with
    | none => rw [em] at hy; cases hy
    | some m =>
    rw [em] at hy
    obtain rfl : V.int m = y := Option.some.inj hy
    obtain ⟨d, ed, hd⟩ := dx.getV hz
    rw [List.getElem?_map] at ed
    cases et : bs[i]? with
    | none => rw [et] at ed; cases ed
    | some b =>
    rw [et] at ed
    obtain rfl : bD b = d := Option.some.inj ed
    obtain ⟨c, rfl, sc⟩ := da_bun hd
    have ob := hb b (List.mem_of_getElem? et)
    have f0 := ob.f0
    have fs := ob.fs
    have sn := ob.sn
    have eT := same_new (o := .tup [.int m, .ref c]) hT
    have hL3 := eT _ _ hL2
    generalize ea : ldAll (List.replicate n.toNat 0) (ms.take i) (bs.take i) = acc at hL2 hL3
    have la : acc.length = n.toNat := by rw [← ea, ldAll_len, List.length_replicate]
    refine ⟨T, _, rfl, .inl (.inl upd_same), rfl, _, _, rfl, _, _, rfl, c, _, rfl, sqt_up (e2.trans eT) sc, rfl, _, _, rfl, _, _, rfl, _, _, rfl, rfl, rfl, ?_⟩
    refine ⟨_, rfl, _, rfl, L, _, _, _, rfl, rfl, SqL.of hL3, atI_ints f0 (by omega), ?_⟩
    refine ⟨_, rfl, _, _, rfl, rfl, _, rfl, _, rfl, L, _, _, _, rfl, rfl, hL3, ixN_nat f0 (by rw [List.length_map]; omega), ?_⟩
    rw [← List.map_set]
    refine ⟨_, rfl, _, rfl, L, _, _, _, rfl, rfl, SqL.of upd_same, atI_ints (by omega) (by rw [List.length_set]; omega), ?_⟩
    refine ⟨_, rfl, _, _, rfl, rfl, _, rfl, _, _, rfl, rfl, _, rfl, _, rfl, L, _, _, _, rfl, rfl, upd_same, ixN_nat (by omega) (by rw [List.length_map, List.length_set]; omega), ?_⟩
    rw [← List.map_set]
    refine ⟨_, _, _, _, rfl, fun a o e => ?_, ?_⟩
    · have na : a ≠ L := ne_of_none e hL
      rw [upd_ne na, upd_ne na]
      exact eT _ _ (e2 _ _ e)
    · rw [upd_same, ldAll_step i ms bs _ m b em et, ea]
      rfl
  · rintro σ H2 ⟨x4, x5, x6, x7, rfl, e2, hL2⟩
    rw [List.length_map, List.take_length, hl, List.take_length] at hL2
    exact ⟨_, rfl, k L H2 hL e2 hL2⟩

abbrev s__law_net : Stmt := top 30
abbrev sc__law_net_N : List Str := ["_law_bag_here", "_law_most", "_law_great", "_law_size", "_law_bundles_here", "_law_leads", "_law_first", "_law_second", "_law_partitions"]
theorem sc__law_net : FnScope sc__law_net_N ["_law_bag_here", "_law_most", "_law_great"] (defScope s__law_net) := ⟨rfl, rfl, rfl, by decide +kernel, rfl, by decide +kernel, by decide +kernel⟩
theorem ok__law_net (D : Def K mg "_law_net" s__law_net ["_law_bag_here", "_law_most", "_law_great"]) (B : Blt mg) (c__law_take : Cal P w K mg base CX0 1 "_law_take" ["_law_bag_here", "_law_many"] sp_take) (c__law_bundles : Cal P w K mg base CX0 3 "_law_bundles" ["_law_bag_here", "_law_size", "_law_great"] (sp_bundles K)) (c__law_loads : Cal P w K mg base CX0 1 "_law_loads" ["_law_size", "_law_bundles_here", "_law_leads"] (sp_loads K)) (c__law_bounds : Cal P w K mg base CX0 2 "_law_bounds" ["_law_bag_here", "_law_held"] (sp_bounds K)) : Cal P w K mg base CX0 4 "_law_net" ["_law_bag_here", "_law_most", "_law_great"] (sp_net K) := by
  refine D.ok sc__law_net (fun vs H Q E h => by obtain ⟨b, m, g, rfl, _⟩ := h; rfl) (fun f cdv A out s H vs Q E hr h => ?_)
  obtain ⟨b, m, g, rfl, hb, m0, m1, k⟩ := h
  refine ⟨_, (pss_cons (ps_set (i := 3) sc__law_net.nd rfl (Or.inl rfl) (pe_op op_add pe_int (pe_c c__law_take (hr.mono (by decide)) pass0 (pa_cons (pv 0) (pa_cons (pe_op op_sub (pv 1) pe_int) pa_nil)))))
      (pss_cons (ps_set (i := 4) sc__law_net.nd rfl (Or.inl rfl) (pe_c c__law_bundles (hr.mono (by decide)) pass0 (pa_cons (pv 0) (pa_cons (pv 3) (pa_cons (pv 2) pa_nil)))))
      (pss_cons (ps_set (i := 5) sc__law_net.nd rfl (Or.inl rfl) (pe_lst pa_nil))
      (pss_cons (ps_for PassesOwn.never rfl (pi_list (pv 4)) (pg_tup rfl (pgs_cons (pg_name (i := 6) sc__law_net.nd rfl (Or.inl rfl)) (pgs_cons (pg_name (i := 7) sc__law_net.nd rfl (Or.inl rfl)) (pgs_cons (pg_name (i := 8) sc__law_net.nd rfl (Or.inl rfl)) pgs_nil))))
      (pss_one (ps_expr (pe_bm PySem.F.plainAttrs_list PySem.F.slot_list_append PySem.F.type_list_append mt_append (pv 5) (pa_cons (pe_ix (kixL K) (pe_lst (pa_cons pe_int (pa_cons (pv 8) (pa_cons (pe_c c__law_take (hr.mono (by decide)) pass0 (pa_cons (pv 0) (pa_cons (pe_op op_add (pv 8) pe_int) pa_nil))) pa_nil)))) (pe_c c__law_take (hr.mono (by decide)) pass0 (pa_cons (pv 0) (pa_cons pe_int pa_nil))) (fun _ _ => rfl)) pa_nil)))))
      (pss_one (ps_ret (pe_tup (pa_cons (pe_c c__law_bounds (hr.mono (by decide)) pass0 (pa_cons (pv 0) (pa_cons (pe_c c__law_loads (hr.mono (by decide)) pass0 (pa_cons (pv 3) (pa_cons (pv 4) (pa_cons (pv 5) pa_nil)))) pa_nil))) (pa_cons (pv 4) (pa_cons (pe_callTy (ktup K) (by rfl) B.tuple (by decide +kernel) (pa_cons (pv 5) pa_nil)) pa_nil)))))))))), ?_⟩
  refine ⟨_, rfl, _, rfl, _, _, rfl, rfl, b, _, rfl, hb, by omega, by omega, fun v H1 v0 v1 g1 => ⟨_, _, rfl, rfl, ?_⟩⟩
  refine ⟨_, rfl, _, rfl, _, rfl, b, _, g, rfl, g1.bag, by omega, by omega, fun x us bs H2 g2 nx hx dx ho hne => ?_⟩
  refine ⟨by show 0 ≤ sizeLine; decide, fun L hL2 => ?_⟩
  have g12 := g1.trans g2
  have nL := g12.bag.ne hL2
  have sx : SqL K (hid b H2) x us := SqL.of (by rw [hid_ne nx]; exact hx)
  have g0 := (Go.refl g2.bag).new (o := .lst []) hL2
  have hul : us.length = bs.length := by rw [dx.len, List.length_map]
  refine ⟨_, rfl, x, rfl, ⟨_, sql_up hid_le (sql_up g0.sm sx)⟩, for_list (K := K) (a := x) (xs := us) (fun i σ H' => ∃ ms y6 y7 y8, σ = [some (.ref b), some (.int m), some (.bl g), some (.int (2 + v)), some (.ref x), some (.ref L), y6, y7, y8] ∧ Go b H2 H' ∧ H' L = some (.lst (ms.map V.int)) ∧ LeadsOk ms (bs.take i)) ⟨[], _, _, _, rfl, g0, upd_same, ⟨rfl, fun i c x h => by cases h⟩⟩ (fun _ _ _ _ hh => by obtain ⟨_, _, _, _, _, g, _⟩ := hh; exact sql_up hid_le (sql_up g.sm sx)) ?_ ?_⟩
  · rintro i y σ H3 hy ⟨ms, y6, y7, y8, rfl, g3, hL3, hm⟩
    obtain ⟨d, ed, hd⟩ := dx.getV hy
    rw [List.getElem?_map] at ed
    cases et : bs[i]? with
    | none => rw [et] at ed; cases ed
    | some t =>
    rw [et] at ed
    obtain rfl : bD t = d := Option.some.inj ed
    obtain ⟨c, rfl, sc⟩ := da_bun hd
    have ob := ho.each t (List.mem_of_getElem? et)
    have p1 := ob.p1
    have pm := ob.pm
    have hil : i < bs.length := (List.getElem?_eq_some_iff.mp et).1
    have hml : ms.length ≤ 45 := by rw [hm.1, List.length_take]; have := ho.len; omega
    refine ⟨c, _, rfl, sqt_up hid_le (sqt_up g3.sm sc), rfl, _, _, rfl, _, _, rfl, _, _, rfl, rfl, ?_⟩
    refine ⟨_, rfl, .inl ⟨rfl, _, SqL.of hL3⟩, ?_⟩
    refine ⟨_, rfl, _, rfl, _, rfl, _, _, rfl, rfl, b, _, rfl, g3.bag, by omega, by omega, fun u H4 u0 u1 g4 => ?_⟩
    refine ⟨by show 3 ≤ sizeLine; decide, fun p hp => ?_⟩
    have np := g4.bag.ne hp
    have t5 := Go.of g4.bag (same_new (o := .lst ([0, t.2.2, u].map V.int)) hp)
    refine ⟨_, rfl, b, _, rfl, t5.bag, by decide, by decide, fun w' H6 w0 w1 g6 => ?_⟩
    obtain ⟨q, hq, eq⟩ := pickI (ns := [0, t.2.2, u]) w0 (by simpa using w1)
    simp only [List.mem_cons, List.not_mem_nil, or_false] at hq
    have g36 := (g4.trans t5).trans g6
    have hL6 := g36.get hL3 nL
    refine ⟨p, _, _, _, rfl, rfl, SqL.of (g6.get upd_same np), eq, L, _, _, rfl, rfl, hL6, by rw [List.length_map, sizeLine_eq]; omega, ms ++ [q], _, _, _, rfl, (g3.trans g36).mut hL2, ?_, hm.snoc et (by omega) (by omega)⟩
    rw [upd_same, List.map_append]
    rfl
  · rintro σ H3 ⟨ms, y6, y7, y8, rfl, g3, hL3, hm⟩
    rw [hul, List.take_length] at hm
    have ldin := loads_in (k := (2 + v).toNat) ho hm
    have ldln := loadsP_len (2 + v).toNat ms bs
    refine ⟨_, rfl, _, rfl, _, rfl, _, rfl, 2 + v, x, L, false, us, bs, ms, rfl, by omega, by omega, sql_up hid_le (sql_up g3.sm sx), dal_of (g3.dal dx), SqL.of hL3, hm.1, ho.each, fun q H4 hq e4 hq4 => ?_⟩
    have t4 := Go.of g3.bag e4
    have nq := g3.bag.ne hq
    refine ⟨b, q, loadsP (2 + v).toNat ms bs, rfl, t4.bag, SqL.of (by rw [hid_ne nq]; exact hq4), by omega, ldin, fun c cus cs H5 g5 nc hc dc hcs => ?_⟩
    have g35 := t4.trans g5
    have hL5 := g35.get hL3 nL
    refine ⟨_, rfl, _, rfl, L, _, rfl, .inl ⟨SqL.of hL5, fun l hl => ?_⟩⟩
    have t6 := Go.of g5.bag (same_new (o := .tup (ms.map V.int)) hl)
    refine ⟨by show 3 ≤ sizeLine; decide, fun r hr' => ?_⟩
    have t7 := Go.of t6.bag (same_new (o := .tup [.ref c, .ref x, .ref l]) hr')
    refine k r _ _ _ (2 + v) bs ms cs _ ((((g12.trans g3).trans g35).trans t6).trans t7) (t6.bag.ne hr') upd_same ⟨?_, ?_, ?_⟩ (by omega) ⟨ho, hne, hm, hcs⟩
    · exact (t6.trans t7).da (.lst (SqL.of (by rw [hid_ne nc]; exact hc)) dc)
    · exact (((g3.trans g35).trans t6).trans t7).da (.lst sx dx)
    · exact t7.da (da_newT g5.bag (DaL.ints ms) hl)

abbrev s_Cluster___len__ : Stmt := inClass (top 21) 2
abbrev sc_Cluster___len___N : List Str := ["self"]
theorem sc_Cluster___len__ : FnScope sc_Cluster___len___N ["self"] (defScope s_Cluster___len__) := ⟨rfl, rfl, rfl, by decide +kernel, rfl, by decide +kernel, by decide +kernel⟩
theorem ok_Cluster___len__ {C : Addr} (T : ClsT K mg C) (D : MDef K C "__len__" "Cluster.__len__" s_Cluster___len__ ["self"]) (B : Blt mg) : MCal P w K mg base CX0 1 C "__len__" ["self"] (sp_clen K C) := by
  refine D.ok sc_Cluster___len__ (fun vs H Q E h => by obtain ⟨p, bs, cs, rfl, _⟩ := h; rfl) (fun f cdv A out s H vs Q E hr h => ?_)
  obtain ⟨p, bs, cs, rfl, hc, k⟩ := h
  obtain ⟨dx, l, r, d, us, ws, kvs, h1, h2, h3, h4, h5, h6, h7⟩ := hc.ex
  refine ⟨_, (pss_one (ps_ret (pe_callB (klen K) (by rfl) B.len (by decide +kernel) (pa_cons (pe_fld (pv 0) rfl) pa_nil)))), ?_⟩
  have wl : ws.length = bs.length := by rw [h5.len, List.length_map]
  refine ⟨_, rfl, p, C, dx, _, _, rfl, h1, T.cl, T.nR, fC_r, _, _, rfl, Or.inl ⟨ws, SqL.of h4, rfl⟩, ?_⟩
  rw [wl]
  exact k

abbrev s_Cluster_bundles : Stmt := inClass (top 21) 5
abbrev sc_Cluster_bundles_N : List Str := ["self"]
theorem sc_Cluster_bundles : FnScope sc_Cluster_bundles_N ["self"] (defScope s_Cluster_bundles) := ⟨rfl, rfl, rfl, by decide +kernel, rfl, by decide +kernel, by decide +kernel⟩
theorem ok_Cluster_bundles {C : Addr} (T : ClsT K mg C) (D : MDef K C "bundles" "Cluster.bundles" s_Cluster_bundles ["self"]) (B : Blt mg) : MCal P w K mg base CX0 1 C "bundles" ["self"] (sp_blist K C) := by
  refine D.ok sc_Cluster_bundles (fun vs H Q E h => by obtain ⟨p, G, bs, cs, rfl, _⟩ := h; rfl) (fun f cdv A out s H vs Q E hr h => ?_)
  obtain ⟨p, G, bs, cs, rfl, e, hc, k⟩ := h
  obtain ⟨dx, l, r, d, us, ws, kvs, h1, h2, h3, h4, h5, h6, h7⟩ := hc.ex
  refine ⟨_, (pss_one (ps_ret (pe_callTy (klist K) (by rfl) B.list (by decide +kernel) (pa_cons (pe_fld (pv 0) rfl) pa_nil)))), ?_⟩
  exact ⟨_, rfl, p, C, dx, _, _, rfl, e _ _ h1, T.cl, T.nR, fC_r, r, ws, rfl, .inl (SqL.of (e _ _ h4)), fun q hq => k q ws hq h5⟩

abbrev s_are_leads : Stmt := top 16
abbrev sc_are_leads_N : List Str := ["cluster", "thing", "led_by_first", "bundle"]
theorem sc_are_leads : FnScope sc_are_leads_N ["cluster", "thing"] (defScope s_are_leads) := ⟨rfl, rfl, rfl, by decide +kernel, rfl, by decide +kernel, by decide +kernel⟩
theorem ok_are_leads (D : Def K mg "are_leads" s_are_leads ["cluster", "thing"]) (B : Blt mg) {C : Addr} (T : ClsT K mg C) (c_is_between : Cal P w K mg base CX0 2 "is_between" ["thing", "least", "most"] (sp_is_between K)) (c_Cluster___len__ : MCal P w K mg base CX0 1 C "__len__" ["self"] (sp_clen K C)) (c_Cluster_bundles : MCal P w K mg base CX0 1 C "bundles" ["self"] (sp_blist K C)) : Cal P w K mg base CX0 3 "are_leads" ["cluster", "thing"] (sp_are_leads K C) := by
  refine D.ok sc_are_leads (fun vs H Q E h => by obtain ⟨p, v, d, bs, cs, rfl, _⟩ := h; rfl) (fun f cdv A out s H vs Q E hr h => ?_)
  obtain ⟨p, v, d, bs, cs, rfl, hc, hlen, hd, k⟩ := h
  refine ⟨_, (pss_cons (ps_if (PW.pt (pw_or (pt_not (pt_val (pe_callB (kisi K) (by rfl) B.isinstance (by decide +kernel) (pa_cons (pv 1) (pa_cons (pe_ty (n := "tuple") B.tuple (by decide +kernel)) pa_nil))))) (pw_or1 (pt_cmpR op_ne (pe_callB (klen K) (by rfl) B.len (by decide +kernel) (pa_cons (pv 1) pa_nil)) (pe_callB (call_lenO c_Cluster___len__ (hr.mono (by decide)) pass0) (by rfl) B.len (by decide +kernel) (pa_cons (pv 0) pa_nil)) (nomark _)))))
      (pss_one (ps_ret pe_bl))
      pss_nil)
      (pss_one (ps_ret (pe_callB (kall K) (by rfl) B.all (by decide +kernel) (pa_cons (pe_lc (own := [("led_by_first", 2), ("bundle", 3)]) (g := (gTup K 2 (gCons (gName 2) (gCons (gName 3) gNil)))) (tt := tYes) rfl sc_are_leads.nd (pi_zipP (by rfl) B.zip (pa_cons (pv 1) (pa_cons (pe_m0 c_Cluster_bundles T.cl (hr.mono (by decide)) pass0 (pv 0)) pa_nil))) (blkOk_by (own := [("led_by_first", 2), ("bundle", 3)]) (N := sc_are_leads_N) (sc := defScope s_are_leads) (by decide +kernel)) (fun _ _ _ _ _ => (pg_tup rfl (pgs_cons (pg_name (i := 2) sc_are_leads.nd rfl (Or.inl rfl)) (pgs_cons (pg_name (i := 3) sc_are_leads.nd rfl (Or.inl rfl)) pgs_nil)))) (fun _ _ _ _ _ => pts_nil) (fun _ _ _ _ _ => (pe_c c_is_between (hr.mono (by decide)) pass0 (pa_cons (pv 2) (pa_cons pe_int (pa_cons (pe_ix (kixT K) (pv 3) pe_int (fun _ _ => rfl)) pa_nil)))))) pa_nil))))), ?_⟩
  obtain ⟨dx, l, r, dn, cus, ws, kvs, h1, h2, h3, h4, h5, h6, h7⟩ := hc.ex
  refine ⟨_, rfl, _, _, _, _, _, rfl, .ty "tuple", hd.ty, kit_tuple d, _, rfl, ?_⟩
  cases d with
  | tuple ds =>
    cases hd with
    | @tup a xs _ hS hL =>
      have hl := hL.len
      refine iteF ⟨_, rfl, _, _, rfl, Or.inr ⟨_, hS, rfl⟩, _, rfl, p, dx, _, rfl, h1, p, bs, cs, rfl, hc, _, rfl, by omega, by omega, rfl, _, rfl, ?_⟩
      have hk : areLeadsD bs (.tuple ds) = (decide (ds.length = bs.length) && (List.zipWith leadB ds bs).all id) := rfl
      by_cases hE : ds.length = bs.length
      · rw [hl, hE]
        refine iteNS rfl ?_
        rw [hk, decide_eq_true hE, Bool.true_and] at k
        refine ⟨_, rfl, _, rfl, p, dx, _, rfl, h1, fC_no (by decide +kernel) (by decide +kernel) (by decide +kernel), p, H, bs, cs, rfl, Same.refl _, hc, fun q zs hq dz => ?_⟩
        have eq := same_new (o := .lst zs) hq
        have zl : zs.length = bs.length := by rw [dz.len, List.length_map]
        have wl : (List.zipWith leadB ds bs).length = xs.length := by rw [List.length_zipWith]; omega
        refine ⟨true, a, q, xs, zs, rfl, sqt_up eq hS, SqL.of upd_same, fun L hD => ?_⟩
        refine lc_gen (walk_zipP (K := K) (t := true) (xs := xs) (ys := zs) (by omega)) (fun i => ((List.zipWith leadB ds bs).map V.bl)[i]?) hD (by omega) (fun H' e => ⟨sqt_up (eq.trans e) hS, SqL.of (e _ _ upd_same)⟩) ?_ ?_
        · rintro i z H1 H2 hi e1 ⟨T0, x, y, rfl, hT, rfl, hx, hy⟩ R1 R0 r1 _
          obtain ⟨d, ed, hd⟩ := hL.getV hx
          obtain ⟨d2, ed2, hd2⟩ := dz.getV hy
          rw [List.getElem?_map] at ed2
          cases et : bs[i]? with
          | none => rw [et] at ed2; cases ed2
          | some t =>
          rw [et] at ed2
          obtain rfl : bD t = d2 := Option.some.inj ed2
          obtain ⟨c, rfl, sc⟩ := da_bun hd2
          have e2 := (eq.trans e1).trans (same_new (o := .tup [x, .ref c]) hT)
          refine ⟨T0, _, rfl, .inl (.inl upd_same), rfl, _, _, rfl, _, _, rfl, rfl, rfl, ?_⟩
          unfold tYes
          refine iteT ⟨_, rfl, _, rfl, c, _, 2, _, rfl, rfl, sqt_up e2 sc, rfl, x, d, _, _, rfl, hd.mono e2, r1 _ _ ?_ (same_new hT)⟩
          show ((List.zipWith leadB ds bs).map V.bl)[i]? = _
          rw [List.getElem?_map, zw_get ed et]
          rfl
        · intro H1 e1 hL1
          have q1 := fm_get ((List.zipWith leadB ds bs).map V.bl)
          rw [List.length_map, wl] at q1
          rw [q1] at hL1
          exact ⟨L, _, rfl, SqL.of hL1, k H1 (eq.trans e1)⟩
      · rw [hk, decide_eq_false hE, Bool.false_and] at k
        rw [hl, len_ne (by omega)]
        exact iteT (k H (Same.refl _))
  | _ => exact iteT (k H (Same.refl _))

abbrev s__law_odd : Stmt := top 31
abbrev sc__law_odd_N : List Str := ["_law_bag_here", "_law_deep", "_law_k", "_law_some"]
theorem sc__law_odd : FnScope sc__law_odd_N ["_law_bag_here"] (defScope s__law_odd) := ⟨rfl, rfl, rfl, by decide +kernel, rfl, by decide +kernel, by decide +kernel⟩
theorem ok__law_odd (D : Def K mg "_law_odd" s__law_odd ["_law_bag_here"]) (B : Blt mg) (c__law_take : Cal P w K mg base CX0 1 "_law_take" ["_law_bag_here", "_law_many"] sp_take) : Cal P w K mg base CX0 2 "_law_odd" ["_law_bag_here"] (sp_odd K) := by
  refine D.ok sc__law_odd (fun vs H Q E h => by obtain ⟨b, rfl, _⟩ := h; rfl) (fun f cdv A out s H vs Q E hr h => ?_)
  obtain ⟨b, rfl, hb, k⟩ := h
  refine ⟨_, (pss_cons (ps_set (i := 1) sc__law_odd.nd rfl (Or.inl rfl) (pe_lst pa_nil))
      (pss_cons (ps_for PassesOwn.never rfl (pi_range1 rfl B.range (pa_cons pe_int pa_nil)) (pg_name (i := 2) sc__law_odd.nd rfl (Or.inl rfl))
      (pss_one (ps_set (i := 1) sc__law_odd.nd rfl (Or.inl rfl) (pe_lst (pa_cons (pv 1) pa_nil)))))
      (pss_cons (ps_set (i := 3) sc__law_odd.nd rfl (Or.inl rfl) (pe_lst (pa_cons pe_int (pa_cons pe_int (pa_cons (pe_un un_neg pe_int) (pa_cons pe_int (pa_cons pe_int (pa_cons (pe_op op_pow pe_int pe_int) (pa_cons (pe_op op_add (pe_op op_pow pe_int pe_int) pe_int) (pa_cons (pe_op op_pow pe_int pe_int) (pa_cons (pe_op op_add (pe_op op_pow pe_int pe_int) pe_int) (pa_cons (pe_un un_neg (pe_op op_pow pe_int pe_int)) (pa_cons pe_bl (pa_cons pe_bl (pa_cons pe_non (pa_cons pe_str (pa_cons pe_str pa_nil)))))))))))))))))
      (pss_cons (ps_set (i := 3) sc__law_odd.nd rfl (Or.inl rfl) (pe_op op_cat (pv 3) (pe_lst (pa_cons (pe_tup pa_nil) (pa_cons (pe_tup (pa_cons pe_int pa_nil)) (pa_cons (pe_tup (pa_cons pe_int (pa_cons pe_int pa_nil))) (pa_cons (pe_tup (pa_cons pe_int (pa_cons pe_int (pa_cons pe_int pa_nil)))) (pa_cons (pe_tup (pa_cons pe_int (pa_cons pe_int pa_nil))) (pa_cons (pe_lst pa_nil) (pa_cons (pe_lst (pa_cons pe_int pa_nil)) (pa_cons (pe_lst (pa_cons pe_int (pa_cons pe_int pa_nil))) (pa_cons (pe_lst (pa_cons (pe_lst (pa_cons pe_int (pa_cons pe_int pa_nil))) pa_nil)) (pa_cons pe_dnewK (pa_cons (pe_disp (pps_cons pe_int pe_int pps_nil) (by rfl) (by rfl) (fun z => by cases z) (by decide)) (pa_cons (pv 1) (pa_cons (pe_op op_rep (pe_lst (pa_cons pe_int pa_nil)) pe_int) pa_nil))))))))))))))))
      (pss_cons (ps_set (i := 3) sc__law_odd.nd rfl (Or.inl rfl) (pe_op op_cat (pv 3) (pe_lst (pa_cons (pe_op op_mulS pe_str pe_int) pa_nil))))
      (pss_one (ps_ret (pe_ix (kixL K) (pv 3) (pe_c c__law_take (hr.mono (by decide)) pass0 (pa_cons (pv 0) (pa_cons pe_int pa_nil))) (fun _ _ => rfl))))))))), ?_⟩
  refine ⟨by show 0 ≤ sizeLine; decide, fun p0 h0 => ?_⟩
  refine ⟨3, rfl, by decide, by decide, for_range (lo := 0) (n := 3) (fun i σ H' => ∃ v z, σ = [some (.ref b), some v, z, none] ∧ Go b H H' ∧ Da K (hid b H') v (nestL i)) ⟨_, _, rfl, (Go.refl hb).new h0, da_newL hb .nil h0⟩ ?_ ?_⟩
  · rintro i σ H' hi ⟨v, z, rfl, g, hd⟩
    refine ⟨_, rfl, by show 1 ≤ sizeLine; decide, fun p hp => ?_⟩
    exact ⟨_, _, rfl, g.new hp, da_newL g.bag (.cons hd .nil) hp⟩
  rintro σ H0 ⟨dv, z, rfl, g0, hdeep⟩
  refine ⟨_, rfl, _, _, rfl, rfl, cp10 (by decide) (by decide), _, _, rfl, rfl, cp10 (by decide) (by decide), _, _, rfl, rfl, _, _, rfl, rfl, cp10 (by decide) (by decide), _, _, rfl, rfl, cp10 (by decide) (by decide), _, _, rfl, rfl, _, _, rfl, rfl, cp10 (by decide) (by decide), _, rfl, by show 15 ≤ sizeLine; decide, fun pa ha => ?_⟩
  have na := g0.bag.ne ha
  have dA : DaL K (hid b H0) oddVA oddA := by
    unfold oddA
    repeat first | exact .nil | refine .cons (by first | exact .int _ | exact .bl _ | exact .non | exact .str _) ?_
  have gA := g0.new (o := .lst oddVA) ha
  have tA : Go b H0 (upd H0 pa (.lst oddVA)) := (Go.refl g0.bag).new ha
  have hA : upd H0 pa (.lst oddVA) pa = some _ := upd_same
  generalize upd H0 pa (HO.lst oddVA) = H1 at gA tA hA ⊢
  refine ⟨_, rfl, ?_⟩
  refine ⟨by show 0 ≤ sizeLine; decide, fun q2 e2 => ?_⟩
  have d2 := da_newT (K := K) (vs := []) (ds := []) gA.bag .nil e2
  have g2 := gA.new (o := .tup []) e2
  have t2 := Go.of gA.bag (same_new (o := .tup []) e2)
  generalize upd H1 q2 (HO.tup []) = H2 at d2 g2 t2 ⊢
  refine ⟨by show 1 ≤ sizeLine; decide, fun q3 e3 => ?_⟩
  have d3 := da_newT (K := K) (vs := [V.int 0]) (ds := [PyData.int 0]) g2.bag (.cons (.int _) .nil) e3
  have g3 := g2.new (o := .tup [V.int 0]) e3
  have t3 := Go.of g2.bag (same_new (o := .tup [V.int 0]) e3)
  generalize upd H2 q3 (HO.tup [V.int 0]) = H3 at d3 g3 t3 ⊢
  refine ⟨by show 2 ≤ sizeLine; decide, fun q4 e4 => ?_⟩
  have d4 := da_newT (K := K) (vs := [V.int 0, V.int 1]) (ds := [PyData.int 0, PyData.int 1]) g3.bag (.cons (.int _) (.cons (.int _) .nil)) e4
  have g4 := g3.new (o := .tup [V.int 0, V.int 1]) e4
  have t4 := Go.of g3.bag (same_new (o := .tup [V.int 0, V.int 1]) e4)
  generalize upd H3 q4 (HO.tup [V.int 0, V.int 1]) = H4 at d4 g4 t4 ⊢
  refine ⟨by show 3 ≤ sizeLine; decide, fun q5 e5 => ?_⟩
  have d5 := da_newT (K := K) (vs := [V.int 0, V.int 1, V.int 2]) (ds := [PyData.int 0, PyData.int 1, PyData.int 2]) g4.bag (.cons (.int _) (.cons (.int _) (.cons (.int _) .nil))) e5
  have g5 := g4.new (o := .tup [V.int 0, V.int 1, V.int 2]) e5
  have t5 := Go.of g4.bag (same_new (o := .tup [V.int 0, V.int 1, V.int 2]) e5)
  generalize upd H4 q5 (HO.tup [V.int 0, V.int 1, V.int 2]) = H5 at d5 g5 t5 ⊢
  refine ⟨by show 2 ≤ sizeLine; decide, fun q6 e6 => ?_⟩
  have d6 := da_newT (K := K) (vs := [V.int 1, V.int 0]) (ds := [PyData.int 1, PyData.int 0]) g5.bag (.cons (.int _) (.cons (.int _) .nil)) e6
  have g6 := g5.new (o := .tup [V.int 1, V.int 0]) e6
  have t6 := Go.of g5.bag (same_new (o := .tup [V.int 1, V.int 0]) e6)
  generalize upd H5 q6 (HO.tup [V.int 1, V.int 0]) = H6 at d6 g6 t6 ⊢
  refine ⟨by show 0 ≤ sizeLine; decide, fun q7 e7 => ?_⟩
  have d7 := da_newL (K := K) (vs := []) (ds := []) g6.bag .nil e7
  have g7 := g6.new (o := .lst []) e7
  have t7 := Go.of g6.bag (same_new (o := .lst []) e7)
  generalize upd H6 q7 (HO.lst []) = H7 at d7 g7 t7 ⊢
  refine ⟨by show 1 ≤ sizeLine; decide, fun q8 e8 => ?_⟩
  have d8 := da_newL (K := K) (vs := [V.int 0]) (ds := [PyData.int 0]) g7.bag (.cons (.int _) .nil) e8
  have g8 := g7.new (o := .lst [V.int 0]) e8
  have t8 := Go.of g7.bag (same_new (o := .lst [V.int 0]) e8)
  generalize upd H7 q8 (HO.lst [V.int 0]) = H8 at d8 g8 t8 ⊢
  refine ⟨by show 2 ≤ sizeLine; decide, fun q9 e9 => ?_⟩
  have d9 := da_newL (K := K) (vs := [V.int 0, V.int 1]) (ds := [PyData.int 0, PyData.int 1]) g8.bag (.cons (.int _) (.cons (.int _) .nil)) e9
  have g9 := g8.new (o := .lst [V.int 0, V.int 1]) e9
  have t9 := Go.of g8.bag (same_new (o := .lst [V.int 0, V.int 1]) e9)
  generalize upd H8 q9 (HO.lst [V.int 0, V.int 1]) = H9 at d9 g9 t9 ⊢
  refine ⟨by show 2 ≤ sizeLine; decide, fun q10 e10 => ?_⟩
  have d10 := da_newL (K := K) (vs := [V.int 0, V.int 1]) (ds := [PyData.int 0, PyData.int 1]) g9.bag (.cons (.int _) (.cons (.int _) .nil)) e10
  have g10 := g9.new (o := .lst [V.int 0, V.int 1]) e10
  have t10 := Go.of g9.bag (same_new (o := .lst [V.int 0, V.int 1]) e10)
  generalize upd H9 q10 (HO.lst [V.int 0, V.int 1]) = H10 at d10 g10 t10 ⊢
  refine ⟨by show 1 ≤ sizeLine; decide, fun q11 e11 => ?_⟩
  have d11 := da_newL (K := K) (vs := [.ref q10]) (ds := [PyData.list [PyData.int 0, PyData.int 1]]) g10.bag (.cons d10 .nil) e11
  have g11 := g10.new (o := .lst [.ref q10]) e11
  have t11 := Go.of g10.bag (same_new (o := .lst [.ref q10]) e11)
  generalize upd H10 q11 (HO.lst [.ref q10]) = H11 at d11 g11 t11 ⊢
  refine fun q12 e12 => ?_
  have d12 : Da K (hid b (upd H11 q12 (.dK []))) (.ref q12) (.dict []) := .dct (by rw [hid_ne (g11.bag.ne e12)]; exact upd_same) .nil
  have g12 := g11.new (o := .dK []) e12
  have t12 := Go.of g11.bag (same_new (o := .dK []) e12)
  generalize upd H11 q12 (HO.dK []) = H12 at d12 g12 t12 ⊢
  refine fun q13 e13 => ?_
  refine ⟨upd_same, [(.inl 0, .int 1)], rfl, by decide, ?_⟩
  rw [upd_upd]
  have em : mergeK [] [((.inl 0 : Key), V.int 1)] = [(.inl 0, .int 1)] := rfl
  rw [em]
  have d13 : Da K (hid b (upd H12 q13 (.dK [(.inl 0, .int 1)]))) (.ref q13) (.dict [(PyData.int 0, PyData.int 1)]) := .dct (by rw [hid_ne (g12.bag.ne e13)]; exact upd_same) (.cons (.int 1) .nil)
  have g13 := g12.new (o := .dK [(.inl 0, .int 1)]) e13
  have t13 := Go.of g12.bag (same_new (o := .dK [(.inl 0, .int 1)]) e13)
  generalize upd H12 q13 (HO.dK [(.inl 0, .int 1)]) = H13 at d13 g13 t13 ⊢
  refine ⟨_, rfl, ?_⟩
  refine ⟨by show 1 ≤ sizeLine; decide, fun q14 e14 => ?_⟩
  have d14 := da_newL (K := K) (vs := [V.int 0]) (ds := [PyData.int 0]) g13.bag (.cons (.int _) .nil) e14
  have g14 := g13.new (o := .lst [V.int 0]) e14
  have t14 := Go.of g13.bag (same_new (o := .lst [V.int 0]) e14)
  have hz := @upd_same H13 q14 (.lst [V.int 0])
  generalize upd H13 q14 (HO.lst [V.int 0]) = H14 at d14 g14 t14 hz ⊢
  have hz14 : H14 q14 = some (.lst [V.int 0]) := hz
  refine ⟨q14, 2000, _, rfl, rfl, hz14, by decide, by decide, by decide, fun q15 e15 => ?_⟩
  have er : (List.replicate (2000 : Int).toNat [V.int 0]).flatten = List.replicate 2000 (V.int 0) := flat_rep _ _
  rw [er]
  have d15 := da_newL (K := K) g14.bag (DaL.rep (.int 0) 2000) e15
  have g15 := g14.new (o := .lst (List.replicate 2000 (V.int 0))) e15
  have t15 := Go.of g14.bag (same_new (o := .lst (List.replicate 2000 (V.int 0))) e15)
  generalize upd H14 q15 (HO.lst (List.replicate 2000 (V.int 0))) = H15 at d15 g15 t15 ⊢
  have T15 := Go.refl g15.bag
  have T14 := t15.trans T15
  have T13 := t14.trans T14
  have T12 := t13.trans T13
  have T11 := t12.trans T12
  have T10 := t11.trans T11
  have T9 := t10.trans T10
  have T8 := t9.trans T9
  have T7 := t8.trans T8
  have T6 := t7.trans T7
  have T5 := t6.trans T6
  have T4 := t5.trans T5
  have T3 := t4.trans T4
  have T2 := t3.trans T3
  have T1 := t2.trans T2
  have T0 := tA.trans T1
  have dB : DaL K (hid b H15) [V.ref q2, V.ref q3, V.ref q4, V.ref q5, V.ref q6, V.ref q7, V.ref q8, V.ref q9, V.ref q11, V.ref q12, V.ref q13, dv, V.ref q15] oddB := (.cons (T2.da d2) (.cons (T3.da d3) (.cons (T4.da d4) (.cons (T5.da d5) (.cons (T6.da d6) (.cons (T7.da d7) (.cons (T8.da d8) (.cons (T9.da d9) (.cons (T11.da d11) (.cons (T12.da d12) (.cons (T13.da d13) (.cons (T0.da hdeep) (.cons (T15.da d15) .nil)))))))))))))
  refine ⟨by show 13 ≤ sizeLine; decide, fun pb hpb => ?_⟩
  have nb := g15.bag.ne hpb
  have t16 := Go.of g15.bag (same_new (o := .lst [V.ref q2, V.ref q3, V.ref q4, V.ref q5, V.ref q6, V.ref q7, V.ref q8, V.ref q9, V.ref q11, V.ref q12, V.ref q13, dv, V.ref q15]) hpb)
  have hB : upd H15 pb (.lst [V.ref q2, V.ref q3, V.ref q4, V.ref q5, V.ref q6, V.ref q7, V.ref q8, V.ref q9, V.ref q11, V.ref q12, V.ref q13, dv, V.ref q15]) pb = some _ := upd_same
  have g16 := g15.new (o := .lst [V.ref q2, V.ref q3, V.ref q4, V.ref q5, V.ref q6, V.ref q7, V.ref q8, V.ref q9, V.ref q11, V.ref q12, V.ref q13, dv, V.ref q15]) hpb
  generalize upd H15 pb (HO.lst [V.ref q2, V.ref q3, V.ref q4, V.ref q5, V.ref q6, V.ref q7, V.ref q8, V.ref q9, V.ref q11, V.ref q12, V.ref q13, dv, V.ref q15]) = H16 at t16 hB g16 ⊢
  have T1' := T1.trans t16
  refine ⟨pa, pb, _, _, rfl, rfl, T1'.get hA na, hB, by show 15 + 13 ≤ sizeLine; decide, fun pc hpc => ?_⟩
  have nc := g16.bag.ne hpc
  have dC := ((tA.trans T1').dal dA).app (t16.dal dB)
  have hC := @upd_same H16 pc (.lst (oddVA ++ [V.ref q2, V.ref q3, V.ref q4, V.ref q5, V.ref q6, V.ref q7, V.ref q8, V.ref q9, V.ref q11, V.ref q12, V.ref q13, dv, V.ref q15]))
  have gC := g16.new (o := .lst (oddVA ++ [V.ref q2, V.ref q3, V.ref q4, V.ref q5, V.ref q6, V.ref q7, V.ref q8, V.ref q9, V.ref q11, V.ref q12, V.ref q13, dv, V.ref q15])) hpc
  have dC' := (Go.of g16.bag (same_new (o := .lst (oddVA ++ [V.ref q2, V.ref q3, V.ref q4, V.ref q5, V.ref q6, V.ref q7, V.ref q8, V.ref q9, V.ref q11, V.ref q12, V.ref q13, dv, V.ref q15])) hpc)).dal dC
  refine ⟨_, rfl, _, _, rfl, rfl, mul99, by show 1 ≤ sizeLine; decide, fun pd hpd => ?_⟩
  have gD := gC.new (o := .lst [V.str (Txt.mul "a" 99)]) hpd
  have tD := Go.of gC.bag (same_new (o := .lst [V.str (Txt.mul "a" 99)]) hpd)
  refine ⟨pc, pd, _, _, rfl, rfl, tD.get hC nc, upd_same, by show 28 + 1 ≤ sizeLine; decide, fun pe hpe => ?_⟩
  have ne := gD.bag.ne hpe
  have gE := gD.new (o := .lst ((oddVA ++ [V.ref q2, V.ref q3, V.ref q4, V.ref q5, V.ref q6, V.ref q7, V.ref q8, V.ref q9, V.ref q11, V.ref q12, V.ref q13, dv, V.ref q15]) ++ [V.str (Txt.mul "a" 99)])) hpe
  have dE := (Go.of gD.bag (same_new (o := .lst ((oddVA ++ [V.ref q2, V.ref q3, V.ref q4, V.ref q5, V.ref q6, V.ref q7, V.ref q8, V.ref q9, V.ref q11, V.ref q12, V.ref q13, dv, V.ref q15]) ++ [V.str (Txt.mul "a" 99)])) hpe)).dal ((tD.dal dC').app (.cons (.str (Txt.mul "a" 99)) .nil))
  refine ⟨_, rfl, _, rfl, b, _, rfl, gE.bag, by decide, by decide, fun v HF v0 v1 gF => ?_⟩
  obtain ⟨x, d, ex, hm, _, hx⟩ := (gF.dal dE).pick v0 (by simpa [oddA, oddB] using v1)
  refine ⟨pe, _, _, _, rfl, rfl, SqL.of (gF.get upd_same ne), ex, ?_⟩
  obtain ⟨s1, s2⟩ := odd_ok d hm
  exact k x d HF (gE.trans gF) hx s1 s2

abbrev s__law_bent : Stmt := top 33
abbrev sc__law_bent_N : List Str := ["_law_bag_here", "_law_bundles_here", "_law_leads", "_law_at", "_law_near", "_law_some"]
theorem sc__law_bent : FnScope sc__law_bent_N ["_law_bag_here", "_law_bundles_here", "_law_leads"] (defScope s__law_bent) := ⟨rfl, rfl, rfl, by decide +kernel, rfl, by decide +kernel, by decide +kernel⟩
theorem ok__law_bent (D : Def K mg "_law_bent" s__law_bent ["_law_bag_here", "_law_bundles_here", "_law_leads"]) (B : Blt mg) (c__law_take : Cal P w K mg base CX0 1 "_law_take" ["_law_bag_here", "_law_many"] sp_take) (c__law_odd : Cal P w K mg base CX0 2 "_law_odd" ["_law_bag_here"] (sp_odd K)) : Cal P w K mg base CX0 3 "_law_bent" ["_law_bag_here", "_law_bundles_here", "_law_leads"] (sp_bentL K) := by
  refine D.ok sc__law_bent (fun vs H Q E h => by obtain ⟨b, x, l, n, bs, ms, rfl, _⟩ := h; rfl) (fun f cdv A out s H vs Q E hr h => ?_)
  obtain ⟨b, x, l, n, bs, ms, rfl, hb, hx, hl, ho, hm, hne, k⟩ := h
  refine ⟨_, (pss_cons (ps_set (i := 3) sc__law_bent.nd rfl (Or.inl rfl) (pe_c c__law_take (hr.mono (by decide)) pass0 (pa_cons (pv 0) (pa_cons (pe_callB (klen K) (by rfl) B.len (by decide +kernel) (pa_cons (pv 2) pa_nil)) pa_nil))))
      (pss_cons (ps_set (i := 4) sc__law_bent.nd rfl (Or.inl rfl) (pe_ix (kixL K) (pe_lst (pa_cons (pe_un un_neg pe_int) (pa_cons (pe_op op_add (pe_ix (kixT K) (pe_ix (kixL K) (pv 1) (pv 3) (fun _ _ => rfl)) pe_int (fun _ _ => rfl)) pe_int) (pa_cons pe_bl (pa_cons (pe_c c__law_odd (hr.mono (by decide)) pass0 (pa_cons (pv 0) pa_nil)) (pa_cons (pe_callTy call_str_int (by rfl) B.str (by decide +kernel) (pa_cons (pe_ix (kixT K) (pv 2) (pv 3) (fun _ _ => rfl)) pa_nil)) (pa_cons (pe_ix (kixT K) (pe_ix (kixL K) (pv 1) (pv 3) (fun _ _ => rfl)) pe_int (fun _ _ => rfl)) (pa_cons pe_int pa_nil)))))))) (pe_c c__law_take (hr.mono (by decide)) pass0 (pa_cons (pv 0) (pa_cons pe_int pa_nil))) (fun _ _ => rfl)))
      (pss_cons (ps_set (i := 5) sc__law_bent.nd rfl (Or.inl rfl) (pe_lst (pa_cons (pe_op (kcatT K) (pe_op (kcatT K) (pe_slice (kslT K) (pv 2) po_none (po_some (pv 3))) (pe_tup (pa_cons (pv 4) pa_nil))) (pe_slice (kslT K) (pv 2) (po_some (pe_op op_add (pv 3) pe_int)) po_none)) (pa_cons (pe_op (kcatT K) (pe_slice (kslT K) (pv 2) po_none (po_some (pv 3))) (pe_slice (kslT K) (pv 2) (po_some (pe_op op_add (pv 3) pe_int)) po_none)) (pa_cons (pe_op (kcatT K) (pv 2) (pe_tup (pa_cons pe_int pa_nil))) (pa_cons (pe_callTy (klist K) (by rfl) B.list (by decide +kernel) (pa_cons (pv 2) pa_nil)) pa_nil))))))
      (pss_cons (ps_expr (pe_bm PySem.F.plainAttrs_list PySem.F.slot_list_append PySem.F.type_list_append mt_append (pv 5) (pa_cons (krevT K (pv 2)) pa_nil)))
      (pss_one (ps_ret (pe_ix (kixL K) (pe_op (kcatL K) (pv 5) (pe_lst (pa_cons (pe_c c__law_odd (hr.mono (by decide)) pass0 (pa_cons (pv 0) pa_nil)) pa_nil))) (pe_c c__law_take (hr.mono (by decide)) pass0 (pa_cons (pv 0) (pa_cons pe_int pa_nil))) (fun _ _ => rfl)))))))), ?_⟩
  obtain ⟨al, us, rfl, sl, dl⟩ := da_tup hl
  have hul : us.length = ms.length := by rw [dl.len, List.length_map]
  have hml := hm.1
  have h45 := ho.len
  have hpos : 0 < bs.length := List.length_pos_iff.mpr hne
  refine ⟨_, rfl, _, rfl, _, _, rfl, Or.inr ⟨_, sqt_up hid_le sl, rfl⟩, b, _, rfl, hb, by omega, by rw [show (2 : Int) ^ 200 = 1606938044258990275541962092341162602522202993782792835301376 by decide]; omega, fun at_ H1 a0 a1 g1 => ?_⟩
  have hx1 := g1.da hx
  have hl1 := g1.da hl
  have eat : at_.toNat < bs.length := by omega
  have ix : ∀ (H2 : Hp) (Q2 : VK), Go b H1 H2 → (∀ a, SqT K H2 a [.int bs[at_.toNat].1, .int bs[at_.toNat].2.1, .int bs[at_.toNat].2.2] → Q2 (.ref a) H2) → rIxL K x (.int at_) H2 Q2 := by
    intro H2 Q2 g2 q2
    refine ixL_da (g2.da hx1) a0 (by rw [List.length_map]; omega) (fun u d _ hd hu => ?_)
    rw [List.getElem?_map, List.getElem?_eq_getElem eat] at hd
    obtain rfl := Option.some.inj hd
    obtain ⟨a, rfl, sa⟩ := da_bun hu
    exact q2 a (sqt_up hid_le sa)
  have ob := ho.each bs[at_.toNat] (List.getElem_mem eat)
  have p1 := ob.p1
  have pm := ob.pm
  generalize hp : bs[at_.toNat].2.2 = pt at p1 pm
  refine ⟨_, rfl, _, rfl, _, rfl, ix H1 _ (Go.refl g1.bag) fun c sc => ?_⟩
  refine ⟨c, _, 2, _, rfl, rfl, sc, rfl, _, _, rfl, rfl, ?_⟩
  rw [hp]
  refine ⟨_, rfl, b, rfl, g1.bag, fun ov od H2 g2 hod sod lod => ?_⟩
  refine ⟨_, rfl, _, rfl, ixT_da (g2.da hl1) a0 (by rw [List.length_map]; omega) (fun u d hd _ hu => ?_)⟩
  obtain ⟨m, hmm, rfl⟩ := List.mem_map.mp hd
  obtain rfl : u = V.int m := by cases hu; rfl
  have mb := leads_int ho hm m hmm
  refine ⟨m, rfl, ?_, ?_⟩
  · exact Nat.lt_trans (PySem.Flt.log2_lt_of (k := 200) (by decide) (Nat.lt_of_le_of_lt (show m.natAbs ≤ 1000000000000000000 by omega) (by decide))) (by decide)
  refine ⟨_, rfl, _, rfl, ix H2 _ g2 fun c2 sc2 => ?_⟩
  refine ⟨c2, _, 2, _, rfl, rfl, sc2, rfl, ?_⟩
  rw [hp]
  refine ⟨by show 7 ≤ sizeLine; decide, fun p7 hp7 => ?_⟩
  have t3 := Go.of g2.bag (same_new (o := .lst [.int (-1), .int (pt + 1), .bl true, ov, .str (toString m), .int pt, .int 0]) hp7)
  have d3 := da_newL (K := K) g2.bag (.cons (.int (-1)) (.cons (.int (pt + 1)) (.cons (.bl true) (.cons hod (.cons (.str (toString m)) (.cons (.int pt) (.cons (.int 0) .nil))))))) hp7
  refine ⟨_, rfl, b, _, rfl, t3.bag, by decide, by decide, fun v H7 v0 v1 g7 => ?_⟩
  refine ixL_da (g7.da d3) v0 (by simpa using v1) (fun nv nd nm _ hnv => ?_)
  have hz : ∀ z : Int, -1 ≤ z → z ≤ 1000000000000000001 → Sm 4 100000 (.int z) := fun z h0 h1 => (Sm.int (by rw [c45]; omega)).up (by decide) (by decide)
  have snd : Sm 4 100000 nd := by
    simp only [List.mem_cons, List.not_mem_nil, or_false] at nm
    rcases nm with h | h | h | h | h | h | h
    · rw [h]; exact hz _ (by decide) (by decide)
    · rw [h]; exact hz _ (by omega) (by omega)
    · rw [h]; exact (Sm.bool true).up (by decide) (by decide)
    · rw [h]; exact sod
    · rw [h]; exact (Sm.itxt (by rw [c45]; omega)).up (by decide) (by decide)
    · rw [h]; exact hz _ (by omega) (by omega)
    · rw [h]; exact hz _ (by decide) (by decide)
  have hps := sm_leads ho hm
  have hpl : (ms.map PyData.int).length ≤ 45 := by rw [List.length_map]; omega
  have hu7 := ((g2.trans t3).trans g7).da hl1
  refine ⟨_, rfl, _, rfl, _, rfl, slT_da g7.bag hu7 (fun v8 H8 n8 m8 g8 d8 => ?_)⟩
  refine ⟨_, rfl, by show 1 ≤ sizeLine; decide, fun q9 h9 => ?_⟩
  have t9 := Go.of g8.bag (same_new (o := .tup [nv]) h9)
  have d9 := da_newT (K := K) g8.bag (.cons (g8.da hnv) .nil) h9
  have l8 := cut_len hpl n8 m8
  refine catT_da t9.bag (t9.da d8) d9 (by show _ + 1 ≤ 100000; omega) (fun v10 H10 g10 d10 => ?_)
  have hu10 := ((g8.trans t9).trans g10).da hu7
  refine ⟨_, rfl, _, rfl, _, _, rfl, rfl, _, rfl, noPart (slT_da g10.bag hu10 (fun v11 H11 n11 m11 g11 d11 => ?_))⟩
  have l11 := cut_len hpl n11 m11
  refine catT_da g11.bag (g11.da d10) d11 (by rw [List.length_append]; show _ + 1 + _ ≤ 100000; omega) (fun v12 H12 g12' d12 => ?_)
  have hu12 := (g11.trans g12').da hu10
  refine ⟨_, rfl, _, rfl, _, rfl, slT_da g12'.bag hu12 (fun v13 H13 n13 m13 g13 d13 => ?_)⟩
  refine ⟨_, rfl, _, rfl, _, _, rfl, rfl, _, rfl, noPart (slT_da g13.bag (g13.da hu12) (fun v14 H14 n14 m14 g14 d14 => ?_))⟩
  have l13 := cut_len hpl n13 m13
  have l14 := cut_len hpl n14 m14
  refine catT_da g14.bag (g14.da d13) d14 (by omega) (fun v15 H15 g15 d15 => ?_)
  have g1215 := (g13.trans g14).trans g15
  have hu15 := g1215.da hu12
  refine ⟨_, rfl, by show 1 ≤ sizeLine; decide, fun q16 h16 => ?_⟩
  have t16 := Go.of g15.bag (same_new (o := .tup [V.int 0]) h16)
  have d16 := da_newT (K := K) g15.bag (.cons (.int 0) .nil) h16
  refine catT_da t16.bag (t16.da hu15) d16 (by show _ + 1 ≤ 100000; omega) (fun v17 H17 g17 d17 => ?_)
  have hu17 := (t16.trans g17).da hu15
  obtain ⟨c', ws', ec, sqt', dat'⟩ := da_tup hu17
  cases ec
  obtain rfl := DaL.unints dat'
  refine ⟨_, rfl, al, _, rfl, Or.inr (sqt_up hid_le sqt'), fun q18 h18 => ?_⟩
  have t18 := Go.of g17.bag (same_new (o := .lst (ms.map V.int)) h18)
  have d18 := da_newL (K := K) g17.bag dat' h18
  refine ⟨by show 4 ≤ sizeLine; decide, fun q19 h19 => ?_⟩
  have t19 := Go.of t18.bag (same_new (o := .lst [v12, v15, v17, .ref q18]) h19)
  have hu19 := (t18.trans t19).da hu17
  obtain ⟨c2, ws2, ec2, sqt2, dat2⟩ := da_tup hu19
  cases ec2
  obtain rfl := DaL.unints dat2
  refine ⟨_, rfl, .inl ⟨rfl, _, SqL.of upd_same⟩, _, rfl, al, _, rfl, sqt_up hid_le sqt2, fun q20 h20 => ?_⟩
  have n19b := t18.bag.ne h19
  have n20b := t19.bag.ne h20
  have n1920 : q19 ≠ q20 := ne_of_none (upd_same) h20
  refine ⟨q19, [v12, v15, v17, .ref q18], .ref q20, rfl, rfl, by rw [upd_ne n1920]; exact upd_same, by show 4 < sizeLine; decide, ?_⟩
  have gD := (t19.new (o := .tup (ms.map V.int).reverse) h20).mut (o := .lst ([v12, v15, v17, .ref q18] ++ [.ref q20])) h19
  have g12 := g1215.trans ((t16.trans g17).trans t18)
  have dD : DaL K (hid b (upd (upd (upd _ q19 _) q20 _) q19 (.lst ([v12, v15, v17, .ref q18] ++ [.ref q20])))) [v12, v15, v17, .ref q18, .ref q20] [_, _, _, _, .tuple (ms.reverse.map PyData.int)] := .cons (gD.da (g12.da d12)) (.cons (gD.da (((t16.trans g17).trans t18).da d15)) (.cons (gD.da (t18.da d17)) (.cons (gD.da d18) (.cons (.tup (.inl (.inl (by rw [hid_ne n20b, upd_ne n1920.symm, upd_same, ← List.map_reverse]))) (DaL.ints ms.reverse)) .nil))))
  have sD := Da.lst (K := K) (SqL.of (show hid b _ q19 = some (.lst [v12, v15, v17, .ref q18, .ref q20]) by rw [hid_ne n19b]; exact upd_same)) dD
  refine ⟨_, rfl, _, rfl, b, rfl, gD.bag, fun ov2 od2 HE gE hod2 sod2 lod2 => ?_⟩
  refine ⟨by show 1 ≤ sizeLine; decide, fun q21 h21 => ?_⟩
  have t21 := Go.of gE.bag (same_new (o := .lst [ov2]) h21)
  have d21 := da_newL (K := K) gE.bag (.cons hod2 .nil) h21
  refine catL_da t21.bag ((gE.trans t21).da sD) d21 (by show 5 + 1 ≤ 100000; decide) (fun v22 H22 g22 d22 => ?_)
  refine ⟨_, rfl, b, _, rfl, g22.bag, by decide, by decide, fun z H23 z0 z1 g23 => ?_⟩
  refine ixL_da (g23.da d22) z0 (by show z < 5 + 1; exact z1) (fun rv rd rm _ hrv => ?_)
  refine k rv rd H23 ?_ hrv ?_
  · exact (((((((((((((g1.trans g2).trans t3).trans g7).trans g8).trans t9).trans g10).trans g11).trans g12').trans g12).trans gD).trans gE).trans t21).trans g22).trans g23
  · have tup : ∀ ds : List PyData, (∀ d ∈ ds, Sm 4 100000 d) → ds.length ≤ 92 → Sm 7 16000000 (.tuple ds) := fun ds h hl => (Sm.tuple h hl).up (by decide) (by decide)
    have one : ∀ d ∈ [nd], Sm 4 100000 d := fun d hd => by rw [List.mem_singleton.mp hd]; exact snd
    have one0 : ∀ d ∈ [PyData.int 0], Sm 4 100000 d := fun d hd => by rw [List.mem_singleton.mp hd]; exact hz _ (by decide) (by decide)
    have hrev : ∀ d ∈ ms.reverse.map PyData.int, Sm 4 100000 d := fun d hd => by
      rw [List.map_reverse] at hd
      exact hps d (List.mem_reverse.mp hd)
    simp only [List.mem_append, List.mem_cons, List.not_mem_nil, or_false] at rm
    rcases rm with (h | h | h | h | h) | h
    · rw [h]
      refine tup _ (app_sm (app_sm (cut_sm hps _ _) one) (cut_sm hps _ _)) ?_
      rw [List.length_append, List.length_append]
      show _ + 1 + _ ≤ 92
      omega
    · rw [h]
      refine tup _ (app_sm (cut_sm hps _ _) (cut_sm hps _ _)) ?_
      rw [List.length_append]
      omega
    · rw [h]
      refine tup _ (app_sm hps one0) ?_
      rw [List.length_append]
      show _ + 1 ≤ 92
      omega
    · rw [h]
      exact (Sm.list hps hpl).up (by decide) (by decide)
    · rw [h]
      refine tup _ hrev ?_
      rw [List.length_map, List.length_reverse]
      omega
    · rw [h]
      exact sod2.up (by decide) (by decide)

abbrev s__law_are_leads : Stmt := top 32
abbrev sc__law_are_leads_N : List Str := ["_law_bundles_here", "_law_thing", "_law_many", "_law_row"]
theorem sc__law_are_leads : FnScope sc__law_are_leads_N ["_law_bundles_here", "_law_thing"] (defScope s__law_are_leads) := ⟨rfl, rfl, rfl, by decide +kernel, rfl, by decide +kernel, by decide +kernel⟩
theorem ok__law_are_leads (D : Def K mg "_law_are_leads" s__law_are_leads ["_law_bundles_here", "_law_thing"]) (B : Blt mg) : Cal P w K mg base CX0 1 "_law_are_leads" ["_law_bundles_here", "_law_thing"] (sp_law_are_leads K) := by
  refine D.ok sc__law_are_leads (fun vs H Q E h => by obtain ⟨x, v, d, bs, rfl, _⟩ := h; rfl) (fun f cdv A out s H vs Q E hr h => ?_)
  obtain ⟨x, v, d, bs, rfl, hx, hd, k⟩ := h
  refine ⟨_, (pss_cons (ps_if (PW.pt (pw_or (pt_not (pt_val (pe_callB (kisi K) (by rfl) B.isinstance (by decide +kernel) (pa_cons (pv 1) (pa_cons (pe_ty (n := "tuple") B.tuple (by decide +kernel)) pa_nil))))) (pw_or1 (pt_cmpR op_ne (pe_callB (klen K) (by rfl) B.len (by decide +kernel) (pa_cons (pv 1) pa_nil)) (pe_callB (klen K) (by rfl) B.len (by decide +kernel) (pa_cons (pv 0) pa_nil)) (nomark _)))))
      (pss_one (ps_ret pe_bl))
      pss_nil)
      (pss_cons (ps_for PassesOwn.never rfl (pi_zipP (by rfl) B.zip (pa_cons (pv 1) (pa_cons (pv 0) pa_nil))) (pg_tup rfl (pgs_cons (pg_name (i := 2) sc__law_are_leads.nd rfl (Or.inl rfl)) (pgs_cons (pg_name (i := 3) sc__law_are_leads.nd rfl (Or.inl rfl)) pgs_nil)))
      (pss_one (ps_if (PW.pt (pw_or (pt_not (pt_val (pe_callB (kisi K) (by rfl) B.isinstance (by decide +kernel) (pa_cons (pv 2) (pa_cons (pe_ty (n := "int") B.int (by decide +kernel)) pa_nil))))) (pw_or (pt_val (pe_callB (kisi K) (by rfl) B.isinstance (by decide +kernel) (pa_cons (pv 2) (pa_cons (pe_ty (n := "bool") B.bool (by decide +kernel)) pa_nil)))) (pw_or1 (pt_not (pt_chain op_le op_le pe_int (pv 2) (pe_ix (kixT K) (pv 3) pe_int (fun _ _ => rfl))))))))
      (pss_one (ps_ret pe_bl))
      pss_nil)))
      (pss_one (ps_ret pe_bl)))), ?_⟩
  obtain ⟨ax, us, rfl, sx, dx⟩ := da_list hx
  have hul : us.length = bs.length := by rw [dx.len, List.length_map]
  refine ⟨_, rfl, _, _, _, _, _, rfl, .ty "tuple", hd.ty, kit_tuple d, _, rfl, ?_⟩
  cases d with
  | tuple ds =>
    cases hd with
    | @tup a xs _ hS hL =>
      have hl := hL.len
      refine iteF ⟨_, rfl, _, _, rfl, Or.inr ⟨_, hS, rfl⟩, _, rfl, _, _, rfl, Or.inl ⟨_, sx, rfl⟩, rfl, _, rfl, ?_⟩
      have hk : areLeadsD bs (.tuple ds) = (decide (ds.length = bs.length) && (List.zipWith leadB ds bs).all id) := rfl
      by_cases hE : ds.length = bs.length
      · rw [hl, hul, hE]
        refine iteNS rfl ?_
        rw [hk, decide_eq_true hE, Bool.true_and] at k
        have wl : (List.zipWith leadB ds bs).length = xs.length := by rw [List.length_zipWith]; omega
        refine ⟨_, rfl, _, rfl, true, a, ax, xs, us, rfl, hS, sx, for_zipP (xs := xs) (ys := us) (by omega) (fun i σ H' => ∃ x2 x3, σ = [some (.ref ax), some (.ref a), x2, x3] ∧ Same H H' ∧ ∀ j, j < i → (List.zipWith leadB ds bs)[j]? = some true) ⟨_, _, rfl, Same.refl _, fun j hj => absurd hj (Nat.not_lt_zero _)⟩ (fun i σ H' h => by obtain ⟨_, _, _, e, _⟩ := h; exact ⟨sqt_up e hS, sql_up e sx⟩) ?_ ?_⟩
        · rintro i y z T0 σ H1 hy hz ⟨x2, x3, rfl, e1, hall⟩ hT
          obtain ⟨d, ed, hd⟩ := hL.getV hy
          obtain ⟨d2, ed2, hd2⟩ := dx.getV hz
          rw [List.getElem?_map] at ed2
          cases et : bs[i]? with
          | none => rw [et] at ed2; cases ed2
          | some t =>
          rw [et] at ed2
          obtain rfl : bD t = d2 := Option.some.inj ed2
          obtain ⟨c, rfl, sc⟩ := da_bun hd2
          have e2 := e1.trans (same_new (o := .tup [y, .ref c]) hT)
          have hd' := hd.mono e2
          have hz' := zw_get ed et
          have bad : leadB d t = false → Q (.bl false) (upd H1 T0 (.tup [y, .ref c])) := fun hf => by
            have q : (List.zipWith leadB ds bs).all id = false := by
              rw [Bool.eq_false_iff]
              intro ha
              have := List.all_eq_true.mp ha _ (List.mem_of_getElem? hz')
              rw [hf] at this
              cases this
            have := k _ e2
            rw [q] at this
            exact this
          refine ⟨T0, _, rfl, .inl (.inl upd_same), rfl, _, _, rfl, _, _, rfl, rfl, ?_⟩
          refine ⟨_, rfl, _, _, _, _, _, rfl, .ty "int", hd'.ty, kit_int d, _, rfl, ?_⟩
          cases d with
          | int m =>
            refine iteF ⟨_, rfl, _, _, _, _, _, rfl, .ty "bool", hd'.ty, kit_bool (.int m), _, rfl, ?_⟩
            cases hd
            refine iteF ⟨_, rfl, _, _, rfl, rfl, _, rfl, ?_⟩
            have hb : leadB (.int m) t = (decide (0 ≤ m) && decide (m ≤ t.2.2)) := rfl
            by_cases h0 : 0 ≤ m
            · rw [decide_eq_true h0]
              refine iteT ⟨_, rfl, c, _, 2, _, rfl, rfl, sqt_up e2 sc, rfl, _, _, rfl, rfl, _, rfl, ?_⟩
              by_cases h1 : m ≤ t.2.2
              · rw [decide_eq_true h1]
                refine iteF ?_
                refine ⟨_, _, rfl, e2, fun j hj => ?_⟩
                by_cases hji : j < i
                · exact hall j hji
                · obtain rfl : j = i := by omega
                  rw [hz', hb, decide_eq_true h0, decide_eq_true h1]
                  rfl
              · rw [decide_eq_false h1]
                refine iteT (bad ?_)
                rw [hb, decide_eq_false h1, Bool.and_false]
            · rw [decide_eq_false h0]
              refine iteF ⟨_, rfl, iteT (bad ?_)⟩
              rw [hb, decide_eq_false h0, Bool.false_and]
          | bool b => exact iteF ⟨_, rfl, _, _, _, _, _, rfl, .ty "bool", hd'.ty, kit_bool (.bool b), _, rfl, iteT (bad rfl)⟩
          | _ => exact iteT (bad rfl)
        · rintro σ H1 ⟨x2, x3, rfl, e1, hall⟩
          have q : (List.zipWith leadB ds bs).all id = true := by
            rw [List.all_eq_true]
            intro c hc
            obtain ⟨j, hj⟩ := List.getElem?_of_mem hc
            have hj' := (List.getElem?_eq_some_iff.mp hj).1
            rw [hall j (by omega)] at hj
            exact (Option.some.inj hj).symm
          rw [q] at k
          exact k H1 e1
      · rw [hk, decide_eq_false hE, Bool.false_and] at k
        rw [hl, hul, len_ne (by omega)]
        exact iteT (k H (Same.refl _))
  | _ => exact iteT (k H (Same.refl _))

abbrev s__law_alike : Stmt := top 25
abbrev sc__law_alike_N : List Str := ["_law_found", "_law_due"]
theorem sc__law_alike : FnScope sc__law_alike_N ["_law_found", "_law_due"] (defScope s__law_alike) := ⟨rfl, rfl, rfl, by decide +kernel, rfl, by decide +kernel, by decide +kernel⟩
theorem ok__law_alike (D : Def K mg "_law_alike" s__law_alike ["_law_found", "_law_due"]) (B : Blt mg) : CalG P w K mg base CX0 1 "_law_alike" ["_law_found", "_law_due"] (sp_alike K) := by
  refine D.okG sc__law_alike (fun vs H Q E h => by obtain ⟨v, u, d, rfl, _⟩ := h; rfl) (fun f cdv A out s H vs Q E hgu hr h => ?_)
  obtain ⟨v, u, d, rfl, h1, h2, hc, hs, k⟩ := h
  refine ⟨_, (pss_one (ps_ret (pe_and (pe_cmpR (keq K hr.units) (pv 0) (pv 1) (nomark _)) (pe_one (pe_cmpR op_eq (pe_callB (krepr K hgu hr.units) (by rfl) B.repr (by decide +kernel) (pa_cons (pv 0) pa_nil)) (pe_callB (krepr K hgu hr.units) (by rfl) B.repr (by decide +kernel) (pa_cons (pv 1) pa_nil)) (nomark _)))))), ?_⟩
  have hz : d.shown.length ≤ sizeLine := Nat.le_trans hs.ln (by rw [sizeLine_eq]; decide)
  refine ⟨_, rfl, _, rfl, d, d, h1.dp d _ hc, h2.dp d _ hc, shaped_of hs hc, shaped_of hs hc, _, rfl, ?_⟩
  rw [SeqAt.eqv_refl d hc]
  refine iteT ⟨_, rfl, v, d, rfl, h1, hs.sh, hs.dp, hz, _, rfl, u, d, rfl, h2, hs.sh, hs.dp, hz, rfl, ?_⟩
  rw [decide_eq_true rfl]
  exact k H (Same.refl _)

abbrev s_law : Stmt := top 34
abbrev sc_law_N : List Str := ["_law_script", "_law_bag_here", "_law_turn", "_law_bounds_here", "_law_bundles_here", "_law_leads", "_law_cluster", "_law_thing", "_law_shown", "_law_due", "_law_again", "_law_k"]
theorem sc_law : FnScope sc_law_N ["_law_script"] (defScope s_law) := ⟨rfl, rfl, rfl, by decide +kernel, rfl, by decide +kernel, by decide +kernel⟩
theorem ok_law (D : Def K mg "law" s_law ["_law_script"]) (B : Blt mg) {C : Addr} (T : ClsT K mg C) (c__law_bag : Cal P w K mg base CX0 1 "_law_bag" ["_law_script"] (sp_bag K)) (c__law_net : Cal P w K mg base CX0 4 "_law_net" ["_law_bag_here", "_law_most", "_law_great"] (sp_net K)) (c_Cluster___init__ : MCal P w K mg base CX0 6 C "__init__" ["self", "bounds", "bundles"] (sp_init K C)) (c__law_bent : Cal P w K mg base CX0 3 "_law_bent" ["_law_bag_here", "_law_bundles_here", "_law_leads"] (sp_bentL K)) (c__law_are_leads : Cal P w K mg base CX0 1 "_law_are_leads" ["_law_bundles_here", "_law_thing"] (sp_law_are_leads K)) (c_are_leads : Cal P w K mg base CX0 3 "are_leads" ["cluster", "thing"] (sp_are_leads K C)) (c__law_alike : CalG P w K mg base CX0 1 "_law_alike" ["_law_found", "_law_due"] (sp_alike K)) : CalG P w K mg base CX0 8 "law" ["_law_script"] (sp_law K) := by
  refine D.okG sc_law (fun vs H Q E h => by obtain ⟨a, ns, rfl, _⟩ := h; rfl) (fun f cdv A out s H vs Q E hgu hr h => ?_)
  obtain ⟨a, ns, rfl, hS, hl, k⟩ := h
  refine ⟨_, (pss_cons (ps_set (i := 1) sc_law.nd rfl (Or.inr rfl) (pe_c c__law_bag (hr.mono (by decide)) pass0 (pa_cons (pv 0) pa_nil)))
      (pss_cons (ps_for PassesOwn.never rfl (pi_range1 rfl B.range (pa_cons pe_int pa_nil)) (pg_name (i := 2) sc_law.nd rfl (Or.inl rfl))
      (pss_cons (ps_asg (pe_c c__law_net (hr.mono (by decide)) pass0 (pa_cons (pv 1) (pa_cons pe_int (pa_cons pe_bl pa_nil)))) (pg_tup rfl (pgs_cons (pg_name (i := 3) sc_law.nd rfl (Or.inl rfl)) (pgs_cons (pg_name (i := 4) sc_law.nd rfl (Or.inr rfl)) (pgs_cons (pg_name (i := 5) sc_law.nd rfl (Or.inr rfl)) pgs_nil)))))
      (pss_cons (ps_set (i := 6) sc_law.nd rfl (Or.inl rfl) (pe_mk c_Cluster___init__ T.mks T.kc T.mgC (hr.mono (by decide)) pass0 (pa_cons (pv 3) (pa_cons (pv 4) pa_nil))))
      (pss_one (ps_for PassesOwn.never rfl (pi_list (pe_op (kcatL K) (pe_lst (pa_cons (pv 5) pa_nil)) (pe_lc (own := [("_law_k", 11)]) (g := (gName 11)) (tt := tYes) rfl sc_law.nd (pi_range1 rfl B.range (pa_cons pe_int pa_nil)) (blkOk_by (own := [("_law_k", 11)]) (N := sc_law_N) (sc := defScope s_law) (by decide +kernel)) (fun _ _ _ _ _ => (pg_name (i := 11) sc_law.nd rfl (Or.inl rfl))) (fun _ _ _ _ _ => pts_nil) (fun _ _ _ _ _ => (pe_hide (pe_c c__law_bent (hr.mono (by decide)) pass0 (pa_cons (pv 1) (pa_cons (pv 4) (pa_cons (pv 5) pa_nil))))))))) (pg_name (i := 7) sc_law.nd rfl (Or.inl rfl))
      (pss_cons (ps_par (i := 8) (j := 9) (by rfl) sc_law.nd rfl rfl (by decide) rfl rfl (pa_cons (pe_callB (krepr K hgu hr.units) (by rfl) B.repr (by decide +kernel) (pa_cons (pv 7) pa_nil)) (pa_cons (pe_c c__law_are_leads (hr.mono (by decide)) pass0 (pa_cons (pv 4) (pa_cons (pv 7) pa_nil))) pa_nil)) (by rfl))
      (pss_one (ps_for PassesOwn.never rfl (pi_range1 rfl B.range (pa_cons pe_int pa_nil)) (pg_name (i := 10) sc_law.nd rfl (Or.inl rfl))
      (pss_one (ps_if (PW.pt (pw_or (pt_not (pt_val (pe_cG c__law_alike hgu (hr.mono (by decide)) pass0 (pa_cons (pe_c c_are_leads (hr.mono (by decide)) pass0 (pa_cons (pv 6) (pa_cons (pv 7) pa_nil))) (pa_cons (pv 9) pa_nil))))) (pw_or1 (pt_cmpR op_ne (pe_callB (krepr K hgu hr.units) (by rfl) B.repr (by decide +kernel) (pa_cons (pv 7) pa_nil)) (pv 8) (nomark _)))))
      (pss_one (ps_ret pe_bl))
      pss_nil))))))))))
      (pss_cons (ps_set (i := 6) sc_law.nd rfl (Or.inl rfl) (pe_mk c_Cluster___init__ T.mks T.kc T.mgC (hr.mono (by decide)) pass0 (pa_cons (pe_lst (pa_cons (pe_tup (pa_cons pe_int (pa_cons pe_int pa_nil))) (pa_cons (pe_tup (pa_cons pe_int (pa_cons pe_int pa_nil))) pa_nil))) (pa_cons (pe_lst (pa_cons (pe_tup (pa_cons pe_int (pa_cons pe_int (pa_cons pe_int pa_nil)))) pa_nil)) pa_nil))))
      (pss_cons (ps_if (PW.pt (pw_or (pt_not (pt_val (pe_c c_are_leads (hr.mono (by decide)) pass0 (pa_cons (pv 6) (pa_cons (pe_tup (pa_cons pe_int pa_nil)) pa_nil))))) (pw_or (pt_val (pe_c c_are_leads (hr.mono (by decide)) pass0 (pa_cons (pv 6) (pa_cons (pe_tup (pa_cons pe_bl pa_nil)) pa_nil)))) (pw_or1 (pt_val (pe_c c_are_leads (hr.mono (by decide)) pass0 (pa_cons (pv 6) (pa_cons (pe_tup pa_nil) pa_nil))))))))
      (pss_one (ps_ret pe_bl))
      pss_nil)
      (pss_cons (ps_set (i := 6) sc_law.nd rfl (Or.inl rfl) (pe_mk c_Cluster___init__ T.mks T.kc T.mgC (hr.mono (by decide)) pass0 (pa_cons (pe_lst (pa_cons (pe_tup (pa_cons pe_int (pa_cons pe_int pa_nil))) (pa_cons (pe_tup (pa_cons pe_int (pa_cons pe_int pa_nil))) pa_nil))) (pa_cons (pe_lst pa_nil) pa_nil))))
      (pss_one (ps_ret (pe_and (pe_cmpR op_isBl (pe_c c_are_leads (hr.mono (by decide)) pass0 (pa_cons (pv 6) (pa_cons (pe_tup pa_nil) pa_nil))) pe_bl (nomark _)) (pe_one (pe_cmpR op_isBl (pe_c c_are_leads (hr.mono (by decide)) pass0 (pa_cons (pv 6) (pa_cons (pe_tup (pa_cons pe_int pa_nil)) pa_nil))) pe_bl (nomark _))))))))))), ?_⟩
  refine ⟨_, rfl, a, ns, rfl, hS, by omega, fun b H1 _ _ hb => ?_⟩
  refine ⟨5, rfl, by decide, by decide, for_range (lo := 0) (n := 5) (fun _ σ H' => ∃ x2 x3 x4 x5 x6 x7 x8 x9 x10 x11, σ = [some (.ref a), some (.ref b), x2, x3, x4, x5, x6, x7, x8, x9, x10, x11] ∧ BagOk b H') ⟨_, _, _, _, _, _, _, _, _, _, rfl, hb⟩ ?_ ?_⟩
  · rintro i σ H2 _ ⟨x2, x3, x4, x5, x6, x7, x8, x9, x10, x11, rfl, hb2⟩
    refine ⟨_, rfl, b, 10, true, rfl, hb2, by decide, by decide, fun r c x l n bs ms cs H3 g3 nr hr3 nat hn ok => ?_⟩
    refine ⟨r, _, rfl, .inl (.inl hr3), rfl, _, _, rfl, _, _, rfl, _, _, rfl, rfl, ?_⟩
    refine ⟨_, rfl, _, rfl, fun p dx hp hdx _ => ?_⟩
    have ms3 := made_same (C := C) hp hdx
    have npb := g3.bag.ne hp
    have hbn : (upd (upd H3 dx (.own p)) p (.ins C dx [])) b ≠ none := fun z => by
      obtain ⟨cc, aa, zz, kk, css, h1, _⟩ := g3.bag
      rw [hid_le _ _ (ms3 _ _ h1)] at z
      cases z
    refine ⟨b, p, dx, c, x, cs, bs, rfl, upd_same, hbn, npb.symm, nat.c.mono (hid_same ms3), nat.x.mono (hid_same ms3), ok.okc, ok.okb, fun H4 e4 hc4 => ⟨rfl, ?_⟩⟩
    have t4 := Go.of g3.bag (ms3.trans e4)
    have nat4 := nat.mono t4.sm
    refine ⟨_, rfl, by show 1 ≤ sizeLine; decide, fun q5 h5 => ?_⟩
    have t5 := Go.of t4.bag (same_new (o := .lst [l]) h5)
    have d5 := da_newL (K := K) t4.bag (.cons nat4.l .nil) h5
    refine ⟨5, rfl, by decide, by decide, fun L hL => ?_⟩
    have nL := t5.bag.ne hL
    have nat5 := nat4.mono t5.sm
    refine lc_it (walk_range (lo := 0) (n := 5)) (fun i H' => Go b (upd H4 q5 (.lst [l])) H' ∧ ∃ us ds, H' L = some (.lst us) ∧ DaL K (hid L (hid b H')) us ds ∧ (∀ d ∈ ds, Sm 7 16000000 d) ∧ us.length = i) ⟨(Go.refl t5.bag).new hL, [], [], upd_same, .nil, (fun d hd => nomatch hd), rfl⟩ (fun _ _ _ _ => trivial) ?_ ?_
    · rintro j z H6 H6' hj ⟨g6, us, ds, hus, dus, sds, lus⟩ ⟨rfl, rfl⟩
      refine ⟨rfl, ?_⟩
      unfold tYes
      refine iteT ⟨L, us, hus, fun φ => ?_⟩
      have gX := g6.mut (o := .ext φ) hL
      refine ⟨_, rfl, _, rfl, _, rfl, b, x, l, n, bs, ms, rfl, gX.bag, gX.da nat5.x, gX.da nat5.l, ok.buns, ok.leads, ok.ne, fun v d H7 g7 hv sv => ?_⟩
      have h7L : H7 L = some (.ext φ) := g7.get upd_same nL
      refine ⟨h7L, us, upd_same, by rw [sizeLine_eq]; omega, ?_⟩
      rw [upd_upd]
      refine ⟨(gX.trans g7).mut hL, us ++ [v], ds ++ [d], upd_same, ?_, ?_, ?_⟩
      · rw [hid2_upd nL]
        have e6 : hid L (hid b (upd H6' L (.ext φ))) = hid L (hid b H6') := hid2_upd nL
        refine (dus.mono ?_).app (.cons (Da.off (φ := φ) (by rw [hid_ne nL]; exact h7L) d v hv) .nil)
        rw [← e6]
        exact g7.sm2
      · intro d' hd'
        rcases List.mem_append.mp hd' with h | h
        · exact sds d' h
        · rw [List.mem_singleton.mp h]; exact sv
      · rw [List.length_append, List.length_singleton, lus]
    · rintro H6 ⟨g6, us, ds, hus, dus, sds, lus⟩
      have d6 : Da K (hid b H6) (.ref L) (.list ds) := .lst (SqL.of (by rw [hid_ne nL]; exact hus)) (dus.mono hid2_le)
      have dl5 : ds.length = 5 := by rw [← dus.len, lus]
      refine catL_da g6.bag (g6.da d5) d6 (by show 1 + ds.length ≤ 100000; omega) (fun lv H7 g7 d7 => ?_)
      obtain ⟨tl, ts, rfl, sqt, dts⟩ := da_list d7
      have g47 := (t5.trans g6).trans g7
      have hc7 := hc4.mono g47.sm
      have nat7 := nat4.mono g47.sm
      have hb7 := g7.bag
      have h45 := ok.buns.len
      refine ⟨tl, rfl, ⟨_, sql_up hid_le sqt⟩, for_list (K := K) (a := tl) (xs := ts) (fun _ σ H' => ∃ y7 y8 y9 y10 y11, σ = [some (.ref a), some (.ref b), some (.int (0 + (i : Int))), some c, some x, some l, some (.ref p), y7, y8, y9, y10, y11] ∧ Same H7 H') ⟨_, _, _, _, _, rfl, Same.refl _⟩ (fun _ _ _ _ hh => by obtain ⟨_, _, _, _, _, _, e⟩ := hh; exact sql_up (hid_le.trans e) sqt) ?_ ?_⟩
      · rintro j v σ H8 hv ⟨y7, y8, y9, y10, y11, rfl, e8⟩
        obtain ⟨d, ed, hd⟩ := dts.getV hv
        have sm : Sm 7 16000000 d := by
          rcases List.mem_append.mp (List.mem_of_getElem? ed) with h | h
          · rw [List.mem_singleton.mp h]
            exact (Sm.tuple (n := 4) (B := 100000) (m := 45) (sm_leads ok.buns ok.leads) (by rw [List.length_map, ok.leads.1]; exact h45)).up (by decide) (by decide)
          · exact sds d h
        have dep : d.depth ≤ 60 := Nat.le_trans sm.dp (by decide)
        have hd7 := da_of hd
        have hd8 := hd7.mono e8
        refine ⟨_, rfl, v, d, rfl, hd8, sm.sh, dep, sm.fits (by decide), ?_⟩
        refine ⟨_, rfl, _, rfl, x, v, d, bs, rfl, (da_of nat7.x).mono e8, hd8, fun H9 e9 => ⟨_, _, rfl, ?_⟩⟩
        have e79 := e8.trans e9
        refine ⟨2, rfl, by decide, by decide, for_range (lo := 0) (n := 2) (fun _ σ H' => ∃ z10 z11, σ = [some (.ref a), some (.ref b), some (.int (0 + (i : Int))), some c, some x, some l, some (.ref p), some v, some (.str d.shown), some (.bl (areLeadsD bs d)), z10, z11] ∧ Same H7 H') ⟨_, _, rfl, e79⟩ ?_ ?_⟩
        · rintro m σ H10 _ ⟨z10, z11, rfl, e10⟩
          refine ⟨_, rfl, _, rfl, p, v, d, bs, cs, rfl, hc7.mono (hid_le.trans e10), by omega, hd7.mono e10, fun H11 e11 => ?_⟩
          refine ⟨_, rfl, .bl (areLeadsD bs d), .bl (areLeadsD bs d), .bool (areLeadsD bs d), rfl, .bl _, .bl _, rfl, (Sm.bool _).up (by decide) (by decide), fun H12 e12 => ?_⟩
          have e712 := (e10.trans e11).trans e12
          refine ⟨_, rfl, iteF ?_⟩
          refine ⟨_, rfl, v, d, rfl, hd7.mono e712, sm.sh, dep, sm.fits (by decide), _, rfl, rfl, _, rfl, ?_⟩
          refine iteNS rfl ?_
          exact ⟨_, _, rfl, e712⟩
        · rintro σ H10 ⟨z10, z11, rfl, e10⟩
          exact ⟨_, _, _, _, _, rfl, e10⟩
      · rintro σ H8 ⟨y7, y8, y9, y10, y11, rfl, e8⟩
        exact ⟨_, _, _, _, _, _, _, _, _, _, rfl, hb7.up e8⟩
  · rintro σ H2 ⟨x2, x3, x4, x5, x6, x7, x8, x9, x10, x11, rfl, hb2⟩
    refine ⟨by show 2 ≤ sizeLine; decide, fun q1 h1 => ?_⟩
    have d1 := da_newT (K := K) hb2 (DaL.ints [0, 0]) h1
    have t1 := Go.of hb2 (same_new (o := .tup ([0, 0].map V.int)) h1)
    refine ⟨by show 2 ≤ sizeLine; decide, fun q2 h2 => ?_⟩
    have d2 := da_newT (K := K) t1.bag (DaL.ints [0, 0]) h2
    have t2 := Go.of t1.bag (same_new (o := .tup ([0, 0].map V.int)) h2)
    refine ⟨by show 2 ≤ sizeLine; decide, fun q3 h3 => ?_⟩
    have d3 := da_newL (K := K) t2.bag (.cons (t2.da d1) (.cons d2 .nil)) h3
    have t3 := Go.of t2.bag (same_new (o := .lst [.ref q1, .ref q2]) h3)
    refine ⟨by show 3 ≤ sizeLine; decide, fun q4 h4 => ?_⟩
    have d4 := da_newT (K := K) t3.bag (DaL.ints [0, 1, 1]) h4
    have t4 := Go.of t3.bag (same_new (o := .tup ([0, 1, 1].map V.int)) h4)
    refine ⟨by show 1 ≤ sizeLine; decide, fun q5 h5 => ?_⟩
    have d5 := da_newL (K := K) t4.bag (.cons d4 .nil) h5
    have t5 := Go.of t4.bag (same_new (o := .lst [.ref q4]) h5)
    intro p dx hp hdx _
    refine make_ok (cs := [(0, 0), (0, 0)]) (bs := [(0, 1, 1)]) t5.bag ((t4.trans t5).da d3) d5 (by decide) (by decide) hp hdx (fun H6 g6 hc6 => ⟨rfl, ?_⟩)
    have c6 := hc6.mono hid_le
    refine ⟨_, rfl, by show 1 ≤ sizeLine; decide, fun r1 e1 => ⟨p, .ref r1, .tuple [.int 1], [(0, 1, 1)], [(0, 0), (0, 0)], rfl, c6.mono (same_new e1), by decide, daT (.cons (.int 1) .nil) e1, fun H7 s7 => ⟨_, rfl, ?_⟩⟩⟩
    refine iteF ?_
    have s67 := (same_new (o := .tup [V.int 1]) e1).trans s7
    refine ⟨_, rfl, by show 1 ≤ sizeLine; decide, fun r2 e2 => ⟨p, .ref r2, .tuple [.bool true], [(0, 1, 1)], [(0, 0), (0, 0)], rfl, c6.mono (s67.trans (same_new e2)), by decide, daT (.cons (.bl true) .nil) e2, fun H8 s8 => ⟨_, rfl, ?_⟩⟩⟩
    refine iteF ?_
    have s68 := (s67.trans (same_new (o := .tup [V.bl true]) e2)).trans s8
    refine ⟨_, rfl, by show 0 ≤ sizeLine; decide, fun r3 e3 => ⟨p, .ref r3, .tuple [], [(0, 1, 1)], [(0, 0), (0, 0)], rfl, c6.mono (s68.trans (same_new e3)), by decide, daT .nil e3, fun H9 s9 => ⟨_, rfl, ?_⟩⟩⟩
    refine iteF ?_
    have s69 := (s68.trans (same_new (o := .tup []) e3)).trans s9
    have hb9 := g6.bag.up s69
    refine ⟨by show 2 ≤ sizeLine; decide, fun q6 h6 => ?_⟩
    have d6 := da_newT (K := K) hb9 (DaL.ints [0, 1]) h6
    have t6 := Go.of hb9 (same_new (o := .tup ([0, 1].map V.int)) h6)
    refine ⟨by show 2 ≤ sizeLine; decide, fun q7 h7 => ?_⟩
    have d7 := da_newT (K := K) t6.bag (DaL.ints [1, 2]) h7
    have t7 := Go.of t6.bag (same_new (o := .tup ([1, 2].map V.int)) h7)
    refine ⟨by show 2 ≤ sizeLine; decide, fun q8 h8 => ?_⟩
    have d8 := da_newL (K := K) t7.bag (.cons (t7.da d6) (.cons d7 .nil)) h8
    have t8 := Go.of t7.bag (same_new (o := .lst [.ref q6, .ref q7]) h8)
    refine ⟨by show 0 ≤ sizeLine; decide, fun q9 h9 => ?_⟩
    have d9 := da_newL (K := K) (vs := []) (ds := []) t8.bag .nil h9
    have t9 := Go.of t8.bag (same_new (o := .lst []) h9)
    intro p2 dx2 hp2 hdx2 _
    refine make_ok (cs := [(0, 1), (1, 2)]) (bs := []) t9.bag (t9.da d8) d9 (by decide) (by decide) hp2 hdx2 (fun H10 g10 hc10 => ⟨rfl, ?_⟩)
    have c10 := hc10.mono hid_le
    refine ⟨_, rfl, by show 0 ≤ sizeLine; decide, fun r4 e4 => ⟨p2, .ref r4, .tuple [], [], [(0, 1), (1, 2)], rfl, c10.mono (same_new e4), by decide, daT .nil e4, fun H11 s11 => ⟨_, _, rfl, rfl, _, rfl, ?_⟩⟩⟩
    have s1011 := (same_new (o := .tup []) e4).trans s11
    refine iteT ⟨_, rfl, by show 1 ≤ sizeLine; decide, fun r5 e5 => ⟨p2, .ref r5, .tuple [.int 0], [], [(0, 1), (1, 2)], rfl, c10.mono (s1011.trans (same_new e5)), by decide, daT (.cons (.int 0) .nil) e5, fun H12 s12 => ⟨_, _, rfl, rfl, k H12⟩⟩⟩

end
theorem all_mk {l : PySem.W.OpenLaw} {w : World} {K : PySem.W.Frag} {h : Heap} {mg : Str → Option Value} {fa : Addr} (X : K.In h) (G : h.Ns mainGlobals mg) (hfa : mg "law" = some (.ref fa))
    {C : Addr}
    {f1 : Addr} {od1 an1 : Option Addr} {sl1 : Array (Option Value)} {oc1 kV1 dc1 pm1 cd1 ct1 : Value}
    {f2 : Addr} {od2 an2 : Option Addr} {sl2 : Array (Option Value)} {oc2 kV2 dc2 pm2 cd2 ct2 : Value}
    {f3 : Addr} {od3 an3 : Option Addr} {sl3 : Array (Option Value)} {oc3 kV3 dc3 pm3 cd3 ct3 : Value}
    {f4 : Addr} {od4 an4 : Option Addr} {sl4 : Array (Option Value)} {oc4 kV4 dc4 pm4 cd4 ct4 : Value}
    {f5 : Addr} {od5 an5 : Option Addr} {sl5 : Array (Option Value)} {oc5 kV5 dc5 pm5 cd5 ct5 : Value}
    {f6 : Addr} {od6 an6 : Option Addr} {sl6 : Array (Option Value)} {oc6 kV6 dc6 pm6 cd6 ct6 : Value}
    {f7 : Addr} {od7 an7 : Option Addr} {sl7 : Array (Option Value)} {oc7 kV7 dc7 pm7 cd7 ct7 : Value}
    {f8 : Addr} {od8 an8 : Option Addr} {sl8 : Array (Option Value)} {oc8 kV8 dc8 pm8 cd8 ct8 : Value}
    {f9 : Addr} {od9 an9 : Option Addr} {sl9 : Array (Option Value)} {oc9 kV9 dc9 pm9 cd9 ct9 : Value}
    {f10 : Addr} {od10 an10 : Option Addr} {sl10 : Array (Option Value)} {oc10 kV10 dc10 pm10 cd10 ct10 : Value}
    {f11 : Addr} {od11 an11 : Option Addr} {sl11 : Array (Option Value)} {oc11 kV11 dc11 pm11 cd11 ct11 : Value}
    {f12 : Addr} {od12 an12 : Option Addr} {sl12 : Array (Option Value)} {oc12 kV12 dc12 pm12 cd12 ct12 : Value}
    {f13 : Addr} {od13 an13 : Option Addr} {sl13 : Array (Option Value)} {oc13 kV13 dc13 pm13 cd13 ct13 : Value}
    {f14 : Addr} {od14 an14 : Option Addr} {sl14 : Array (Option Value)} {oc14 kV14 dc14 pm14 cd14 ct14 : Value}
    {f15 : Addr} {od15 an15 : Option Addr} {sl15 : Array (Option Value)} {oc15 kV15 dc15 pm15 cd15 ct15 : Value}
    {f16 : Addr} {od16 an16 : Option Addr} {sl16 : Array (Option Value)} {oc16 kV16 dc16 pm16 cd16 ct16 : Value}
    {f17 : Addr} {od17 an17 : Option Addr} {sl17 : Array (Option Value)} {oc17 kV17 dc17 pm17 cd17 ct17 : Value}
    {f18 : Addr} {od18 an18 : Option Addr} {sl18 : Array (Option Value)} {oc18 kV18 dc18 pm18 cd18 ct18 : Value}
    {f19 : Addr} {od19 an19 : Option Addr} {sl19 : Array (Option Value)} {oc19 kV19 dc19 pm19 cd19 ct19 : Value}
    {f20 : Addr} {od20 an20 : Option Addr} {sl20 : Array (Option Value)} {oc20 kV20 dc20 pm20 cd20 ct20 : Value}
    {f21 : Addr} {od21 an21 : Option Addr} {sl21 : Array (Option Value)} {oc21 kV21 dc21 pm21 cd21 ct21 : Value}
    {f22 : Addr} {od22 an22 : Option Addr} {sl22 : Array (Option Value)} {oc22 kV22 dc22 pm22 cd22 ct22 : Value}
    {f23 : Addr} {od23 an23 : Option Addr} {sl23 : Array (Option Value)} {oc23 kV23 dc23 pm23 cd23 ct23 : Value}
    {f24 : Addr} {od24 an24 : Option Addr} {sl24 : Array (Option Value)} {oc24 kV24 dc24 pm24 cd24 ct24 : Value}
    {f25 : Addr} {od25 an25 : Option Addr} {sl25 : Array (Option Value)} {oc25 kV25 dc25 pm25 cd25 ct25 : Value}
    {t_MOST_BROKERS : Tok}
    {t_MOST_BUNDLES : Tok}
    {t_MOST_AMOUNT : Tok}
    {t_MOST_COUNT : Tok}
    (aC : PySem.W.nsIn K mainGlobals "Cluster" = some (some (.ref C)))
    (pg : PySem.W.plainGet K C Str.empty = true)
    (hd : PySem.W.hasDictIn K C = true)
    (po : PySem.W.plainOver K C = true)
    (sa : PySem.W.findIn K (.ref C) "__setattr__" = some (some (.builtin "object.__setattr__")))
    (mk : PySem.W.makesIn K C = true)
    (kc : PySem.W.keepIn K (.ref C) = true)
    (nL : PySem.W.findIn K (.ref C) "limits" = some none)
    (nR : PySem.W.findIn K (.ref C) "rows" = some none)
    (nN : PySem.W.findIn K (.ref C) "numbers" = some none)
    (a1 : PySem.W.nsIn K mainGlobals "_law_bag" = some (some (.ref f1))) (l1 : K.lookup f1 = some ⟨oc1, od1, .func (PySem.W.fnOf "_law_bag" "_law_bag" (defArgs s__law_bag) (defBody s__law_bag) (defScope s__law_bag) .none kV1 dc1 pm1 an1 cd1 ct1), sl1⟩) (c1 : PySem.W.codeIn K cd1 "_law_bag" = true) (k1 : PySem.W.keepIn K (.ref f1) = true)
    (a2 : PySem.W.nsIn K mainGlobals "is_integer" = some (some (.ref f2))) (l2 : K.lookup f2 = some ⟨oc2, od2, .func (PySem.W.fnOf "is_integer" "is_integer" (defArgs s_is_integer) (defBody s_is_integer) (defScope s_is_integer) .none kV2 dc2 pm2 an2 cd2 ct2), sl2⟩) (c2 : PySem.W.codeIn K cd2 "is_integer" = true) (k2 : PySem.W.keepIn K (.ref f2) = true)
    (a3 : PySem.W.nsIn K mainGlobals "is_between" = some (some (.ref f3))) (l3 : K.lookup f3 = some ⟨oc3, od3, .func (PySem.W.fnOf "is_between" "is_between" (defArgs s_is_between) (defBody s_is_between) (defScope s_is_between) .none kV3 dc3 pm3 an3 cd3 ct3), sl3⟩) (c3 : PySem.W.codeIn K cd3 "is_between" = true) (k3 : PySem.W.keepIn K (.ref f3) = true)
    (a4 : PySem.W.nsIn K mainGlobals "is_amount" = some (some (.ref f4))) (l4 : K.lookup f4 = some ⟨oc4, od4, .func (PySem.W.fnOf "is_amount" "is_amount" (defArgs s_is_amount) (defBody s_is_amount) (defScope s_is_amount) .none kV4 dc4 pm4 an4 cd4 ct4), sl4⟩) (c4 : PySem.W.codeIn K cd4 "is_amount" = true) (k4 : PySem.W.keepIn K (.ref f4) = true)
    (a5 : PySem.W.nsIn K mainGlobals "is_bound" = some (some (.ref f5))) (l5 : K.lookup f5 = some ⟨oc5, od5, .func (PySem.W.fnOf "is_bound" "is_bound" (defArgs s_is_bound) (defBody s_is_bound) (defScope s_is_bound) .none kV5 dc5 pm5 an5 cd5 ct5), sl5⟩) (c5 : PySem.W.codeIn K cd5 "is_bound" = true) (k5 : PySem.W.keepIn K (.ref f5) = true)
    (a6 : PySem.W.nsIn K mainGlobals "are_bounds" = some (some (.ref f6))) (l6 : K.lookup f6 = some ⟨oc6, od6, .func (PySem.W.fnOf "are_bounds" "are_bounds" (defArgs s_are_bounds) (defBody s_are_bounds) (defScope s_are_bounds) .none kV6 dc6 pm6 an6 cd6 ct6), sl6⟩) (c6 : PySem.W.codeIn K cd6 "are_bounds" = true) (k6 : PySem.W.keepIn K (.ref f6) = true)
    (a7 : PySem.W.nsIn K mainGlobals "is_broker" = some (some (.ref f7))) (l7 : K.lookup f7 = some ⟨oc7, od7, .func (PySem.W.fnOf "is_broker" "is_broker" (defArgs s_is_broker) (defBody s_is_broker) (defScope s_is_broker) .none kV7 dc7 pm7 an7 cd7 ct7), sl7⟩) (c7 : PySem.W.codeIn K cd7 "is_broker" = true) (k7 : PySem.W.keepIn K (.ref f7) = true)
    (a8 : PySem.W.nsIn K mainGlobals "is_count" = some (some (.ref f8))) (l8 : K.lookup f8 = some ⟨oc8, od8, .func (PySem.W.fnOf "is_count" "is_count" (defArgs s_is_count) (defBody s_is_count) (defScope s_is_count) .none kV8 dc8 pm8 an8 cd8 ct8), sl8⟩) (c8 : PySem.W.codeIn K cd8 "is_count" = true) (k8 : PySem.W.keepIn K (.ref f8) = true)
    (a9 : PySem.W.nsIn K mainGlobals "is_bundle" = some (some (.ref f9))) (l9 : K.lookup f9 = some ⟨oc9, od9, .func (PySem.W.fnOf "is_bundle" "is_bundle" (defArgs s_is_bundle) (defBody s_is_bundle) (defScope s_is_bundle) .none kV9 dc9 pm9 an9 cd9 ct9), sl9⟩) (c9 : PySem.W.codeIn K cd9 "is_bundle" = true) (k9 : PySem.W.keepIn K (.ref f9) = true)
    (a10 : PySem.W.nsIn K mainGlobals "are_bundles" = some (some (.ref f10))) (l10 : K.lookup f10 = some ⟨oc10, od10, .func (PySem.W.fnOf "are_bundles" "are_bundles" (defArgs s_are_bundles) (defBody s_are_bundles) (defScope s_are_bundles) .none kV10 dc10 pm10 an10 cd10 ct10), sl10⟩) (c10 : PySem.W.codeIn K cd10 "are_bundles" = true) (k10 : PySem.W.keepIn K (.ref f10) = true)
    (a11 : PySem.W.findIn K (.ref C) "__init__" = some (some (.ref f11))) (i11 : PySem.W.isFn K (.ref f11) = true) (l11 : K.lookup f11 = some ⟨oc11, od11, .func (PySem.W.fnOf "__init__" "Cluster.__init__" (defArgs s_Cluster___init__) (defBody s_Cluster___init__) (defScope s_Cluster___init__) .none kV11 dc11 pm11 an11 cd11 ct11), sl11⟩) (c11 : PySem.W.codeIn K cd11 "Cluster.__init__" = true) (k11 : PySem.W.keepIn K (.ref f11) = true)
    (a12 : PySem.W.nsIn K mainGlobals "_law_take" = some (some (.ref f12))) (l12 : K.lookup f12 = some ⟨oc12, od12, .func (PySem.W.fnOf "_law_take" "_law_take" (defArgs s__law_take) (defBody s__law_take) (defScope s__law_take) .none kV12 dc12 pm12 an12 cd12 ct12), sl12⟩) (c12 : PySem.W.codeIn K cd12 "_law_take" = true) (k12 : PySem.W.keepIn K (.ref f12) = true)
    (a13 : PySem.W.nsIn K mainGlobals "_law_amount" = some (some (.ref f13))) (l13 : K.lookup f13 = some ⟨oc13, od13, .func (PySem.W.fnOf "_law_amount" "_law_amount" (defArgs s__law_amount) (defBody s__law_amount) (defScope s__law_amount) .none kV13 dc13 pm13 an13 cd13 ct13), sl13⟩) (c13 : PySem.W.codeIn K cd13 "_law_amount" = true) (k13 : PySem.W.keepIn K (.ref f13) = true)
    (a14 : PySem.W.nsIn K mainGlobals "_law_bundles" = some (some (.ref f14))) (l14 : K.lookup f14 = some ⟨oc14, od14, .func (PySem.W.fnOf "_law_bundles" "_law_bundles" (defArgs s__law_bundles) (defBody s__law_bundles) (defScope s__law_bundles) .none kV14 dc14 pm14 an14 cd14 ct14), sl14⟩) (c14 : PySem.W.codeIn K cd14 "_law_bundles" = true) (k14 : PySem.W.keepIn K (.ref f14) = true)
    (a15 : PySem.W.nsIn K mainGlobals "_law_bounds" = some (some (.ref f15))) (l15 : K.lookup f15 = some ⟨oc15, od15, .func (PySem.W.fnOf "_law_bounds" "_law_bounds" (defArgs s__law_bounds) (defBody s__law_bounds) (defScope s__law_bounds) .none kV15 dc15 pm15 an15 cd15 ct15), sl15⟩) (c15 : PySem.W.codeIn K cd15 "_law_bounds" = true) (k15 : PySem.W.keepIn K (.ref f15) = true)
    (a16 : PySem.W.nsIn K mainGlobals "_law_loads" = some (some (.ref f16))) (l16 : K.lookup f16 = some ⟨oc16, od16, .func (PySem.W.fnOf "_law_loads" "_law_loads" (defArgs s__law_loads) (defBody s__law_loads) (defScope s__law_loads) .none kV16 dc16 pm16 an16 cd16 ct16), sl16⟩) (c16 : PySem.W.codeIn K cd16 "_law_loads" = true) (k16 : PySem.W.keepIn K (.ref f16) = true)
    (a17 : PySem.W.nsIn K mainGlobals "_law_net" = some (some (.ref f17))) (l17 : K.lookup f17 = some ⟨oc17, od17, .func (PySem.W.fnOf "_law_net" "_law_net" (defArgs s__law_net) (defBody s__law_net) (defScope s__law_net) .none kV17 dc17 pm17 an17 cd17 ct17), sl17⟩) (c17 : PySem.W.codeIn K cd17 "_law_net" = true) (k17 : PySem.W.keepIn K (.ref f17) = true)
    (a18 : PySem.W.findIn K (.ref C) "__len__" = some (some (.ref f18))) (i18 : PySem.W.isFn K (.ref f18) = true) (l18 : K.lookup f18 = some ⟨oc18, od18, .func (PySem.W.fnOf "__len__" "Cluster.__len__" (defArgs s_Cluster___len__) (defBody s_Cluster___len__) (defScope s_Cluster___len__) .none kV18 dc18 pm18 an18 cd18 ct18), sl18⟩) (c18 : PySem.W.codeIn K cd18 "Cluster.__len__" = true) (k18 : PySem.W.keepIn K (.ref f18) = true)
    (a19 : PySem.W.findIn K (.ref C) "bundles" = some (some (.ref f19))) (i19 : PySem.W.isFn K (.ref f19) = true) (l19 : K.lookup f19 = some ⟨oc19, od19, .func (PySem.W.fnOf "bundles" "Cluster.bundles" (defArgs s_Cluster_bundles) (defBody s_Cluster_bundles) (defScope s_Cluster_bundles) .none kV19 dc19 pm19 an19 cd19 ct19), sl19⟩) (c19 : PySem.W.codeIn K cd19 "Cluster.bundles" = true) (k19 : PySem.W.keepIn K (.ref f19) = true)
    (a20 : PySem.W.nsIn K mainGlobals "are_leads" = some (some (.ref f20))) (l20 : K.lookup f20 = some ⟨oc20, od20, .func (PySem.W.fnOf "are_leads" "are_leads" (defArgs s_are_leads) (defBody s_are_leads) (defScope s_are_leads) .none kV20 dc20 pm20 an20 cd20 ct20), sl20⟩) (c20 : PySem.W.codeIn K cd20 "are_leads" = true) (k20 : PySem.W.keepIn K (.ref f20) = true)
    (a21 : PySem.W.nsIn K mainGlobals "_law_odd" = some (some (.ref f21))) (l21 : K.lookup f21 = some ⟨oc21, od21, .func (PySem.W.fnOf "_law_odd" "_law_odd" (defArgs s__law_odd) (defBody s__law_odd) (defScope s__law_odd) .none kV21 dc21 pm21 an21 cd21 ct21), sl21⟩) (c21 : PySem.W.codeIn K cd21 "_law_odd" = true) (k21 : PySem.W.keepIn K (.ref f21) = true)
    (a22 : PySem.W.nsIn K mainGlobals "_law_bent" = some (some (.ref f22))) (l22 : K.lookup f22 = some ⟨oc22, od22, .func (PySem.W.fnOf "_law_bent" "_law_bent" (defArgs s__law_bent) (defBody s__law_bent) (defScope s__law_bent) .none kV22 dc22 pm22 an22 cd22 ct22), sl22⟩) (c22 : PySem.W.codeIn K cd22 "_law_bent" = true) (k22 : PySem.W.keepIn K (.ref f22) = true)
    (a23 : PySem.W.nsIn K mainGlobals "_law_are_leads" = some (some (.ref f23))) (l23 : K.lookup f23 = some ⟨oc23, od23, .func (PySem.W.fnOf "_law_are_leads" "_law_are_leads" (defArgs s__law_are_leads) (defBody s__law_are_leads) (defScope s__law_are_leads) .none kV23 dc23 pm23 an23 cd23 ct23), sl23⟩) (c23 : PySem.W.codeIn K cd23 "_law_are_leads" = true) (k23 : PySem.W.keepIn K (.ref f23) = true)
    (a24 : PySem.W.nsIn K mainGlobals "_law_alike" = some (some (.ref f24))) (l24 : K.lookup f24 = some ⟨oc24, od24, .func (PySem.W.fnOf "_law_alike" "_law_alike" (defArgs s__law_alike) (defBody s__law_alike) (defScope s__law_alike) .none kV24 dc24 pm24 an24 cd24 ct24), sl24⟩) (c24 : PySem.W.codeIn K cd24 "_law_alike" = true) (k24 : PySem.W.keepIn K (.ref f24) = true)
    (a25 : PySem.W.nsIn K mainGlobals "law" = some (some (.ref f25))) (l25 : K.lookup f25 = some ⟨oc25, od25, .func (PySem.W.fnOf "law" "law" (defArgs s_law) (defBody s_law) (defScope s_law) .none kV25 dc25 pm25 an25 cd25 ct25), sl25⟩) (c25 : PySem.W.codeIn K cd25 "law" = true) (k25 : PySem.W.keepIn K (.ref f25) = true)
    (g_MOST_BROKERS : PySem.W.nsIn K mainGlobals "MOST_BROKERS" = some (some (.int 10 t_MOST_BROKERS)))
    (g_MOST_BUNDLES : PySem.W.nsIn K mainGlobals "MOST_BUNDLES" = some (some (.int 45 t_MOST_BUNDLES)))
    (g_MOST_AMOUNT : PySem.W.nsIn K mainGlobals "MOST_AMOUNT" = some (some (.int 1000000000000000000000000000000 t_MOST_AMOUNT)))
    (g_MOST_COUNT : PySem.W.nsIn K mainGlobals "MOST_COUNT" = some (some (.int 1000000000000000000 t_MOST_COUNT)))
    (z_len : PySem.W.nsIn K mainGlobals "len" = some none)
    (z_isinstance : PySem.W.nsIn K mainGlobals "isinstance" = some none)
    (z_int : PySem.W.nsIn K mainGlobals "int" = some none)
    (z_bool : PySem.W.nsIn K mainGlobals "bool" = some none)
    (z_list : PySem.W.nsIn K mainGlobals "list" = some none)
    (z_tuple : PySem.W.nsIn K mainGlobals "tuple" = some none)
    (z_str : PySem.W.nsIn K mainGlobals "str" = some none)
    (z_all : PySem.W.nsIn K mainGlobals "all" = some none)
    (z_any : PySem.W.nsIn K mainGlobals "any" = some none)
    (z_zip : PySem.W.nsIn K mainGlobals "zip" = some none)
    (z_range : PySem.W.nsIn K mainGlobals "range" = some none)
    (z_abs : PySem.W.nsIn K mainGlobals "abs" = some none)
    (z_repr : PySem.W.nsIn K mainGlobals "repr" = some none)
    (z_min : PySem.W.nsIn K mainGlobals "min" = some none)
    (z_max : PySem.W.nsIn K mainGlobals "max" = some none)
    (z_sum : PySem.W.nsIn K mainGlobals "sum" = some none)
    (z_sorted : PySem.W.nsIn K mainGlobals "sorted" = some none)
    (z_enumerate : PySem.W.nsIn K mainGlobals "enumerate" = some none)
    (z_reversed : PySem.W.nsIn K mainGlobals "reversed" = some none)
    (z_set : PySem.W.nsIn K mainGlobals "set" = some none)
    (z_dict : PySem.W.nsIn K mainGlobals "dict" = some none)
    (z_ValueError : PySem.W.nsIn K mainGlobals "ValueError" = some none) :
    ∃ fd : FuncData, (∀ (s : Shared) (v : Value), BindsTo s fd ⟨[v], []⟩ [("_law_script", v)]) ∧ ∀ base : Heap, K.In base → base.Ns mainGlobals mg → FnG l.prog w K mg base CX0 8 fa fd ["_law_script"] (sp_law K) := by
  have T : ClsT K mg C := ⟨⟨pg, hd, po, sa⟩, nL, nR, nN, PySem.W.mg_of X G aC, mk, kc⟩
  have D__law_bag : Def K mg "_law_bag" s__law_bag ["_law_script"] := def_mk X G a1 l1 c1 k1 (fun _ _ _ _ _ _ us hl => match us, hl with | [_], _ => rfl)
  have D_is_integer : Def K mg "is_integer" s_is_integer ["thing"] := def_mk X G a2 l2 c2 k2 (fun _ _ _ _ _ _ us hl => match us, hl with | [_], _ => rfl)
  have D_is_between : Def K mg "is_between" s_is_between ["thing", "least", "most"] := def_mk X G a3 l3 c3 k3 (fun _ _ _ _ _ _ us hl => match us, hl with | [_, _, _], _ => rfl)
  have D_is_amount : Def K mg "is_amount" s_is_amount ["thing"] := def_mk X G a4 l4 c4 k4 (fun _ _ _ _ _ _ us hl => match us, hl with | [_], _ => rfl)
  have D_is_bound : Def K mg "is_bound" s_is_bound ["thing"] := def_mk X G a5 l5 c5 k5 (fun _ _ _ _ _ _ us hl => match us, hl with | [_], _ => rfl)
  have D_are_bounds : Def K mg "are_bounds" s_are_bounds ["thing"] := def_mk X G a6 l6 c6 k6 (fun _ _ _ _ _ _ us hl => match us, hl with | [_], _ => rfl)
  have D_is_broker : Def K mg "is_broker" s_is_broker ["thing", "size"] := def_mk X G a7 l7 c7 k7 (fun _ _ _ _ _ _ us hl => match us, hl with | [_, _], _ => rfl)
  have D_is_count : Def K mg "is_count" s_is_count ["thing"] := def_mk X G a8 l8 c8 k8 (fun _ _ _ _ _ _ us hl => match us, hl with | [_], _ => rfl)
  have D_is_bundle : Def K mg "is_bundle" s_is_bundle ["thing", "size"] := def_mk X G a9 l9 c9 k9 (fun _ _ _ _ _ _ us hl => match us, hl with | [_, _], _ => rfl)
  have D_are_bundles : Def K mg "are_bundles" s_are_bundles ["thing", "size"] := def_mk X G a10 l10 c10 k10 (fun _ _ _ _ _ _ us hl => match us, hl with | [_, _], _ => rfl)
  have D_Cluster___init__ : MDef K C "__init__" "Cluster.__init__" s_Cluster___init__ ["self", "bounds", "bundles"] := mdef_mk a11 i11 l11 c11 k11 (fun _ _ _ _ _ _ us hl => match us, hl with | [_, _, _], _ => rfl)
  have D__law_take : Def K mg "_law_take" s__law_take ["_law_bag_here", "_law_many"] := def_mk X G a12 l12 c12 k12 (fun _ _ _ _ _ _ us hl => match us, hl with | [_, _], _ => rfl)
  have D__law_amount : Def K mg "_law_amount" s__law_amount ["_law_bag_here", "_law_great"] := def_mk X G a13 l13 c13 k13 (fun _ _ _ _ _ _ us hl => match us, hl with | [_, _], _ => rfl)
  have D__law_bundles : Def K mg "_law_bundles" s__law_bundles ["_law_bag_here", "_law_size", "_law_great"] := def_mk X G a14 l14 c14 k14 (fun _ _ _ _ _ _ us hl => match us, hl with | [_, _, _], _ => rfl)
  have D__law_bounds : Def K mg "_law_bounds" s__law_bounds ["_law_bag_here", "_law_held"] := def_mk X G a15 l15 c15 k15 (fun _ _ _ _ _ _ us hl => match us, hl with | [_, _], _ => rfl)
  have D__law_loads : Def K mg "_law_loads" s__law_loads ["_law_size", "_law_bundles_here", "_law_leads"] := def_mk X G a16 l16 c16 k16 (fun _ _ _ _ _ _ us hl => match us, hl with | [_, _, _], _ => rfl)
  have D__law_net : Def K mg "_law_net" s__law_net ["_law_bag_here", "_law_most", "_law_great"] := def_mk X G a17 l17 c17 k17 (fun _ _ _ _ _ _ us hl => match us, hl with | [_, _, _], _ => rfl)
  have D_Cluster___len__ : MDef K C "__len__" "Cluster.__len__" s_Cluster___len__ ["self"] := mdef_mk a18 i18 l18 c18 k18 (fun _ _ _ _ _ _ us hl => match us, hl with | [_], _ => rfl)
  have D_Cluster_bundles : MDef K C "bundles" "Cluster.bundles" s_Cluster_bundles ["self"] := mdef_mk a19 i19 l19 c19 k19 (fun _ _ _ _ _ _ us hl => match us, hl with | [_], _ => rfl)
  have D_are_leads : Def K mg "are_leads" s_are_leads ["cluster", "thing"] := def_mk X G a20 l20 c20 k20 (fun _ _ _ _ _ _ us hl => match us, hl with | [_, _], _ => rfl)
  have D__law_odd : Def K mg "_law_odd" s__law_odd ["_law_bag_here"] := def_mk X G a21 l21 c21 k21 (fun _ _ _ _ _ _ us hl => match us, hl with | [_], _ => rfl)
  have D__law_bent : Def K mg "_law_bent" s__law_bent ["_law_bag_here", "_law_bundles_here", "_law_leads"] := def_mk X G a22 l22 c22 k22 (fun _ _ _ _ _ _ us hl => match us, hl with | [_, _, _], _ => rfl)
  have D__law_are_leads : Def K mg "_law_are_leads" s__law_are_leads ["_law_bundles_here", "_law_thing"] := def_mk X G a23 l23 c23 k23 (fun _ _ _ _ _ _ us hl => match us, hl with | [_, _], _ => rfl)
  have D__law_alike : Def K mg "_law_alike" s__law_alike ["_law_found", "_law_due"] := def_mk X G a24 l24 c24 k24 (fun _ _ _ _ _ _ us hl => match us, hl with | [_, _], _ => rfl)
  have D_law : Def K mg "law" s_law ["_law_script"] := def_mk X G a25 l25 c25 k25 (fun _ _ _ _ _ _ us hl => match us, hl with | [_], _ => rfl)
  have m_MOST_BROKERS := PySem.W.mg_of X G g_MOST_BROKERS
  have m_MOST_BUNDLES := PySem.W.mg_of X G g_MOST_BUNDLES
  have m_MOST_AMOUNT := PySem.W.mg_of X G g_MOST_AMOUNT
  have m_MOST_COUNT := PySem.W.mg_of X G g_MOST_COUNT
  have B : Blt mg := ⟨PySem.W.mg_none_of X G z_len, PySem.W.mg_none_of X G z_isinstance, PySem.W.mg_none_of X G z_int, PySem.W.mg_none_of X G z_bool, PySem.W.mg_none_of X G z_list, PySem.W.mg_none_of X G z_tuple, PySem.W.mg_none_of X G z_str, PySem.W.mg_none_of X G z_all, PySem.W.mg_none_of X G z_any, PySem.W.mg_none_of X G z_zip, PySem.W.mg_none_of X G z_range, PySem.W.mg_none_of X G z_abs, PySem.W.mg_none_of X G z_repr, PySem.W.mg_none_of X G z_min, PySem.W.mg_none_of X G z_max, PySem.W.mg_none_of X G z_sum, PySem.W.mg_none_of X G z_sorted, PySem.W.mg_none_of X G z_enumerate, PySem.W.mg_none_of X G z_reversed, PySem.W.mg_none_of X G z_set, PySem.W.mg_none_of X G z_dict, PySem.W.mg_none_of X G z_ValueError⟩
  refine law_end D_law hfa (fun _ _ _ _ _ _ _ => rfl) (fun base _ _ => ?_)
  have c__law_bag := ok__law_bag (P := l.prog) (w := w) (base := base) D__law_bag B
  have c_is_integer := ok_is_integer (P := l.prog) (w := w) (base := base) D_is_integer B
  have c_is_between := ok_is_between (P := l.prog) (w := w) (base := base) D_is_between c_is_integer
  have c_is_amount := ok_is_amount (P := l.prog) (w := w) (base := base) D_is_amount c_is_between m_MOST_AMOUNT
  have c_is_bound := ok_is_bound (P := l.prog) (w := w) (base := base) D_is_bound B c_is_amount
  have c_are_bounds := ok_are_bounds (P := l.prog) (w := w) (base := base) D_are_bounds B c_is_bound m_MOST_BROKERS
  have c_is_broker := ok_is_broker (P := l.prog) (w := w) (base := base) D_is_broker c_is_between
  have c_is_count := ok_is_count (P := l.prog) (w := w) (base := base) D_is_count c_is_between m_MOST_COUNT
  have c_is_bundle := ok_is_bundle (P := l.prog) (w := w) (base := base) D_is_bundle B c_is_broker c_is_count
  have c_are_bundles := ok_are_bundles (P := l.prog) (w := w) (base := base) D_are_bundles B c_is_bundle m_MOST_BUNDLES
  have c_Cluster___init__ := ok_Cluster___init__ (P := l.prog) (w := w) (base := base) T D_Cluster___init__ B c_are_bounds c_are_bundles
  have c__law_take := ok__law_take (P := l.prog) (w := w) (base := base) D__law_take B
  have c__law_amount := ok__law_amount (P := l.prog) (w := w) (base := base) D__law_amount B c__law_take
  have c__law_bundles := ok__law_bundles (P := l.prog) (w := w) (base := base) D__law_bundles B c__law_take c__law_amount
  have c__law_bounds := ok__law_bounds (P := l.prog) (w := w) (base := base) D__law_bounds B c__law_take
  have c__law_loads := ok__law_loads (P := l.prog) (w := w) (base := base) D__law_loads B
  have c__law_net := ok__law_net (P := l.prog) (w := w) (base := base) D__law_net B c__law_take c__law_bundles c__law_loads c__law_bounds
  have c_Cluster___len__ := ok_Cluster___len__ (P := l.prog) (w := w) (base := base) T D_Cluster___len__ B
  have c_Cluster_bundles := ok_Cluster_bundles (P := l.prog) (w := w) (base := base) T D_Cluster_bundles B
  have c_are_leads := ok_are_leads (P := l.prog) (w := w) (base := base) D_are_leads B T c_is_between c_Cluster___len__ c_Cluster_bundles
  have c__law_odd := ok__law_odd (P := l.prog) (w := w) (base := base) D__law_odd B c__law_take
  have c__law_bent := ok__law_bent (P := l.prog) (w := w) (base := base) D__law_bent B c__law_take c__law_odd
  have c__law_are_leads := ok__law_are_leads (P := l.prog) (w := w) (base := base) D__law_are_leads B
  have c__law_alike := ok__law_alike (P := l.prog) (w := w) (base := base) D__law_alike B
  exact ok_law D_law B T c__law_bag c__law_net c_Cluster___init__ c__law_bent c__law_are_leads c_are_leads c__law_alike
theorem walk_law {l : PySem.W.OpenLaw} {q : Program} {loose : List Str} {XP : (Str → Option Value) → Heap → Prop} {YP : World → Heap → Prop} {d : DefRec} {K : Params → PySem.W.Frag} (hn : l.most = some 63) (hdf : d.params.defaults = [])
    (hY : ∀ (w : World) (h : Heap), YP w h → (K w.params).In h)
    (F : ∀ (w : World) (mg : Str → Option Value) (fa : Addr) (h : Heap), (K w.params).In h → h.Ns mainGlobals mg → mg d.name = some (.ref fa) →
      ∃ fd : FuncData, (∀ (s : Shared) (u : Value), BindsTo s fd ⟨[u], []⟩ [("_law_script", u)]) ∧ ∀ base : Heap, (K w.params).In base → base.Ns mainGlobals mg → FnG l.prog w (K w.params) mg base CX0 8 fa fd ["_law_script"] (sp_law (K w.params))) :
    PySem.W.WalkO q loose XP YP l.row.toRowW d [] (fun f vs => PySem.call f vs) :=
  walk_ofG (n := 63) (k := 8) (x := "_law_script") (cx := fun _ => CX0) (sp := fun w => (sp_law (K w.params))) hn (by decide) hdf ⟨rfl, by decide, by decide⟩ hY F (fun _ _ a ns hl _ hS => ⟨a, ns, rfl, hS, hl, fun _ => rfl⟩) fun _ _ _ _ _ z => z
end G

open PySem PySem.W PyProof.Rows in
set_option maxRecDepth 100000 in
set_option maxHeartbeats 0 in
theorem PySem.Challenge.cw_leadswitch_k17_leads_known_holds : PySem.Challenge.rw_leadswitch_k17_leads_known.Holds := by
  w_on; o_law; k_head; (case hw => w_witness2)
  k_fill
  refine G.walk_law (l := PySem.Challenge.rw_leadswitch_k17_leads_known) rfl rfl (fun w h Y => PySem.W.kIn_of Y) ?F
  case F =>
    intro w mg fa h KX gn hmg
    refine' G.all_mk KX gn hmg ?aC ?pg ?hd ?po ?sa ?mk ?kc ?nL ?nR ?nN ?a1 ?l1 ?c1 ?k1 ?a2 ?l2 ?c2 ?k2 ?a3 ?l3 ?c3 ?k3 ?a4 ?l4 ?c4 ?k4 ?a5 ?l5 ?c5 ?k5 ?a6 ?l6 ?c6 ?k6 ?a7 ?l7 ?c7 ?k7 ?a8 ?l8 ?c8 ?k8 ?a9 ?l9 ?c9 ?k9 ?a10 ?l10 ?c10 ?k10 ?a11 ?i11 ?l11 ?c11 ?k11 ?a12 ?l12 ?c12 ?k12 ?a13 ?l13 ?c13 ?k13 ?a14 ?l14 ?c14 ?k14 ?a15 ?l15 ?c15 ?k15 ?a16 ?l16 ?c16 ?k16 ?a17 ?l17 ?c17 ?k17 ?a18 ?i18 ?l18 ?c18 ?k18 ?a19 ?i19 ?l19 ?c19 ?k19 ?a20 ?l20 ?c20 ?k20 ?a21 ?l21 ?c21 ?k21 ?a22 ?l22 ?c22 ?k22 ?a23 ?l23 ?c23 ?k23 ?a24 ?l24 ?c24 ?k24 ?a25 ?l25 ?c25 ?k25 ?g_MOST_BROKERS ?g_MOST_BUNDLES ?g_MOST_AMOUNT ?g_MOST_COUNT ?z_len ?z_isinstance ?z_int ?z_bool ?z_list ?z_tuple ?z_str ?z_all ?z_any ?z_zip ?z_range ?z_abs ?z_repr ?z_min ?z_max ?z_sum ?z_sorted ?z_enumerate ?z_reversed ?z_set ?z_dict ?z_ValueError
    (case aC => k_is)
    (case pg => k_is)
    (case hd => k_is)
    (case po => k_is)
    (case sa => k_is)
    (case mk => k_is)
    (case kc => k_is)
    (case nL => k_is)
    (case nR => k_is)
    (case nN => k_is)
    (case a1 => k_is)
    (case l1 => k_is)
    (case c1 => k_is)
    (case k1 => k_is)
    (case a2 => k_is)
    (case l2 => k_is)
    (case c2 => k_is)
    (case k2 => k_is)
    (case a3 => k_is)
    (case l3 => k_is)
    (case c3 => k_is)
    (case k3 => k_is)
    (case a4 => k_is)
    (case l4 => k_is)
    (case c4 => k_is)
    (case k4 => k_is)
    (case a5 => k_is)
    (case l5 => k_is)
    (case c5 => k_is)
    (case k5 => k_is)
    (case a6 => k_is)
    (case l6 => k_is)
    (case c6 => k_is)
    (case k6 => k_is)
    (case a7 => k_is)
    (case l7 => k_is)
    (case c7 => k_is)
    (case k7 => k_is)
    (case a8 => k_is)
    (case l8 => k_is)
    (case c8 => k_is)
    (case k8 => k_is)
    (case a9 => k_is)
    (case l9 => k_is)
    (case c9 => k_is)
    (case k9 => k_is)
    (case a10 => k_is)
    (case l10 => k_is)
    (case c10 => k_is)
    (case k10 => k_is)
    (case a11 => k_is)
    (case i11 => k_is)
    (case l11 => k_is)
    (case c11 => k_is)
    (case k11 => k_is)
    (case a12 => k_is)
    (case l12 => k_is)
    (case c12 => k_is)
    (case k12 => k_is)
    (case a13 => k_is)
    (case l13 => k_is)
    (case c13 => k_is)
    (case k13 => k_is)
    (case a14 => k_is)
    (case l14 => k_is)
    (case c14 => k_is)
    (case k14 => k_is)
    (case a15 => k_is)
    (case l15 => k_is)
    (case c15 => k_is)
    (case k15 => k_is)
    (case a16 => k_is)
    (case l16 => k_is)
    (case c16 => k_is)
    (case k16 => k_is)
    (case a17 => k_is)
    (case l17 => k_is)
    (case c17 => k_is)
    (case k17 => k_is)
    (case a18 => k_is)
    (case i18 => k_is)
    (case l18 => k_is)
    (case c18 => k_is)
    (case k18 => k_is)
    (case a19 => k_is)
    (case i19 => k_is)
    (case l19 => k_is)
    (case c19 => k_is)
    (case k19 => k_is)
    (case a20 => k_is)
    (case l20 => k_is)
    (case c20 => k_is)
    (case k20 => k_is)
    (case a21 => k_is)
    (case l21 => k_is)
    (case c21 => k_is)
    (case k21 => k_is)
    (case a22 => k_is)
    (case l22 => k_is)
    (case c22 => k_is)
    (case k22 => k_is)
    (case a23 => k_is)
    (case l23 => k_is)
    (case c23 => k_is)
    (case k23 => k_is)
    (case a24 => k_is)
    (case l24 => k_is)
    (case c24 => k_is)
    (case k24 => k_is)
    (case a25 => k_is)
    (case l25 => k_is)
    (case c25 => k_is)
    (case k25 => k_is)
    (case g_MOST_BROKERS => k_is)
    (case g_MOST_BUNDLES => k_is)
    (case g_MOST_AMOUNT => k_is)
    (case g_MOST_COUNT => k_is)
    (case z_len => k_is)
    (case z_isinstance => k_is)
    (case z_int => k_is)
    (case z_bool => k_is)
    (case z_list => k_is)
    (case z_tuple => k_is)
    (case z_str => k_is)
    (case z_all => k_is)
    (case z_any => k_is)
    (case z_zip => k_is)
    (case z_range => k_is)
    (case z_abs => k_is)
    (case z_repr => k_is)
    (case z_min => k_is)
    (case z_max => k_is)
    (case z_sum => k_is)
    (case z_sorted => k_is)
    (case z_enumerate => k_is)
    (case z_reversed => k_is)
    (case z_set => k_is)
    (case z_dict => k_is)
    (case z_ValueError => k_is)
