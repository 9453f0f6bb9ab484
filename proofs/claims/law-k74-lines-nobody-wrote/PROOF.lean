import PyProof.Rows.All
import Wide.All
import OpenK.AllK
import Wide.FinOn
import HandS.ForMost
import HandS.Exc
import HandS.ExcOwn
import HandS.WordsExc
import HandS.Lambda
import HandS.EndBits
import HandS.EndTab
import HandS.HeadWalk
import KE.KExcSuper
import HandS.ExcCtx
import HandS.ExcInit
import HandS.HotCalls
import HandS.ExcInitHot
import HandS.ExcField
import KE.KExcIs
import HandS.ExcIs
import HandS.IsInst
import HandS.Comp
import KE.GoesComp
import KE.GoesRaise
import KE.KAsSuite
import KE.SortData
import HandS.List
import HandS.SuiteRaise
import HandS.RaiseFrom
import HandS.HeadHook4
import HandS.Head2
import HandS.Defaults
import PySem.Challenge.RW_onlygiven_k74_lines_nobody_wrote
import HandS.Wide
import HandS.Star
import HandS.More
import HandS.SetFor
import HandS.CallSlots
import HandS.Walk
import PyProof.Rows.RegFStrParts
import HandS.Style
import HandS.Replace
set_option Elab.async false
set_option linter.all false
set_option maxRecDepth 100000
set_option maxHeartbeats 2000000
/-! Defs that are called where no guard stands (repr); repr of data; the end of a law for such a def. -/
namespace Og
open PySem PySem.Spec PyProof.Rows L2

/-! ### a promise kept where no guard stands -/
structure FnOkG (P : Program) (w : World) (K : PySem.W.Frag) (mg : Str → Option Value) (base : Heap) (CX : CXT) (k : Nat) (f : Addr) (fd : FuncData) (ps : List Str) (sp : Sp) : Prop where
  len : ∀ vs H Q E, sp vs H Q E → vs.length = ps.length
  run : ∀ (A : Around) (outer : List Env) (s : Shared) (H : Hp) (args : Args) (us : List Value) (vs : List V) (Q : VK) (E : XK), A.guards = some [] → Room k A → Env0 P w K mg base A outer s H →
    BindsTo s fd args (ps.zip us) → Vals vs us → sp vs H Q E → codeAny (model P w) A (.call (.ref f) args) (CR CX outer P w H s Q E) s
section
variable {P : Program} {w : World} {K : PySem.W.Frag} {mg : Str → Option Value} {base : Heap} {CX : CXT} {k : Nat} {f : Addr} {fd : FuncData} {ps : List Str} {sp : Sp}
theorem FnOkG.of (F : FnOk P w K mg base CX k f fd ps sp) : FnOkG P w K mg base CX k f fd ps sp :=
  ⟨F.len, fun A outer s H args us vs Q E _ hr => F.run A outer s H args us vs Q E hr⟩
/-- the rule for such a def, over the body's term and its reading; what stands around the body has no guard -/
theorem okG {x qual : Str} {st : Stmt} {N : List Str} (F : Fun K x qual st f fd) (S : FnScope N ps (defScope st)) (len : ∀ vs H Q E, sp vs H Q E → vs.length = ps.length)
    (hbody : ∀ (cdv : Value) (A : Around) (outer : List Env) (s : Shared) (H : Hp) (vs : List V) (Q : VK) (E : XK), A.guards = some [] → Room k (A.deeper (envOfC qual (defScope st) s.heap.objs.size f cdv)) →
      PySem.W.codeIn K cdv qual = true → sp vs H Q E →
      ∃ t, PSs (cxOf CX P w K mg base N qual (defScope st) f cdv A outer s H E) (defBody st) t ∧ t { nx := fun _ H' => Q .non H', rt := Q } (L2.start N vs) H) : FnOkG P w K mg base CX (k + 1) f fd ps sp := by
  obtain ⟨oc, od, kV, doc, pm, an, cdv, ct, osl, rfl, lk, hcd⟩ := F.ex
  refine ⟨len, fun A outer s H args us vs Q E hg hr e0 hb r hsp => ?_⟩
  exact LamX.run_ofS lk hcd S hr e0 hb r (len _ _ _ _ hsp) fun hr' => hbody cdv A outer s H vs Q E hg hr' hcd hsp
end

section
variable {X : Cx} {CX : CXT} {k : Nat} {f : Addr} {fd : FuncData} {ps : List Str} {sp : Sp} {dvs : List V} {ds : List Value} {E : XK} {x : Str} {p pos : Pos} {e : Expr} {es : List Expr} {t : TA}
/-- f(..) of such a def -/
theorem pe_callG (F : FnOkG X.prog X.w X.K X.mg X.base CX k f fd ps sp) (hgd : X.A.guards = some []) (hr : Room k X.A) (hg : Gl X x) (hm : X.mg x = some (.ref f)) (hk : PySem.W.keepIn X.K (.ref f) = true) (hb : Binds X.K fd ps ds) (hd : Vals dvs ds)
    (hx : Passes CX X E) (ha : PA X (e :: es) t) (hdb : (x == ("__debug__" : Str)) = false := by decide) (hs : starEach (e :: es) X.env = (false, eval e X.env) :: starEach es X.env := by rfl) (hpl : (backTo pos (starEach es X.env)).any (·.1) = false := by rfl) :
    PE X (.Call (.Name x p) (e :: es) [] pos) (tCall sp dvs E t) := by
  refine ⟨fun pins s σ H Q I h => wpAny_Call_Name_kw (ld_glob I hg hm ?_ hdb)⟩
  refine PySem.W.callWith_K (h₀ := X.base) I.ok.mod.kin hk (thn (ha.run pos pins s σ H _ I h) fun us s1 ⟨vs, H1, I1, r, q⟩ => ⟨I1.kIn, ?_⟩) hs hpl
  have r2 : Vals (vs ++ dvs) (us ++ ds) := r.append hd
  have hl : (us ++ ds).length = ps.length := r2.length.symm.trans (F.len _ _ _ _ q)
  refine wpAny_call (codeAny_mono (F.run X.A X.stack s1 H1 ⟨us, []⟩ (us ++ ds) (vs ++ dvs) Q E hgd hr I1.env0 (hb s1 us I1.kIn hl) r2 q) fun r s' hq => ?_)
  cases r with
  | error e => exact hx pins σ H1 s1 e s' I1 hq
  | ok fl =>
    cases fl with
    | ret u => exact I1.after hq
    | next | brk | cont => exact False.elim hq
end

/-! ### repr of data -/
/-- data with a shape: a list, a tuple -/
def seqD : PyData → Bool
  | .list _ => true
  | .tuple _ => true
  | _ => false
theorem ref_of_seq {K : PySem.W.Frag} {H : Hp} {x : V} {d : PyData} (h : Dp K H x d) (e : seqD d = true) : ∃ a, x = .ref a := by
  cases h with
  | lst _ _ => exact ⟨_, rfl⟩
  | tup _ _ => exact ⟨_, rfl⟩
  | non => cases e
  | bl _ => cases e
  | int _ => cases e
  | str _ => cases e
def rRepr (K : PySem.W.Frag) : List V → Hp → VK → Prop := fun xs H Q => ∃ x d, xs = [x] ∧ Dp K H x d ∧ seqD d = true ∧ d.hasDict = false ∧ d.showable = true ∧ d.depth ≤ 40 ∧ d.shown.length ≤ sizeLine ∧ Q (.str d.shown) H
theorem call_repr {X : Cx} {k : Nat} (hgd : X.A.guards = some []) (hr : Room k X.A) : CallR X (.builtin "repr") (rRepr X.K) := by
  intro pins s σ H xs us Q I r h
  obtain ⟨x, d, rfl, hd, hq, hnd, hs, hz, hl, q⟩ := h
  obtain ⟨u, rfl, ru⟩ := vals1 r
  obtain ⟨a, rfl⟩ := ref_of_seq hd hq
  obtain ⟨as, rd⟩ := Dp.reads I d _ u hd ru
  obtain rfl : u = Value.ref a := ru
  refine repr_of_reads' rd hs (PyData.noDict_hsm hnd) hgd (by have := hr.un; omega) (fun _ _ e => e) (fun h' t tk hk => ?_) hl
  exact ⟨.str d.shown, H, I.kept hk, ⟨t, rfl⟩, q⟩

/-! ### the end -/
/-- what a law's own def must do: from the script alone (and the tables of code objects) to True -/
def LawRun (P : Program) (w : World) (K : PySem.W.Frag) (mg : Str → Option Value) (fa a : Addr) (cs : List (Addr × Addr)) (ns : List Int) (s : Shared) : Prop :=
  ∀ (base : Heap) (H : Hp), K.In base → base.Ns mainGlobals mg → (∀ p ∈ cs, LamX.TabB base mg p.1 p.2) → (∀ p ∈ cs, H p.2 = some (.tbl #[])) → SqL K H a (ns.map V.int) → Env0 P w K mg base callerA [] s H →
    codeAny (model P w) callerA (.call (.ref fa) ⟨[.ref a], []⟩) (CR (fun _ _ _ _ _ _ => False) [] P w H s (fun v _ => v = .bl true) fun _ _ _ => False) s
end Og
set_option Elab.async false
set_option linter.all false
set_option maxRecDepth 100000
set_option maxHeartbeats 2000000
namespace Og
open PySem PySem.Spec PyProof.Rows L2
/-- what is tracked as the law begins: the tables; the script, unless it is one of the written part -/
def lawH (K : PySem.W.Frag) (T : List Addr) (a : Addr) (o : Obj) (ns : List Int) : Hp := fun b =>
  if b ∈ T then some (.tbl #[]) else if b = a ∧ K.lookup a = none then some (.frz o (.lst (ns.map V.int))) else none
theorem lawH_cases {K : PySem.W.Frag} {T : List Addr} {a b : Addr} {o : Obj} {ns : List Int} {u : HO} (h : lawH K T a o ns b = some u) :
    (b ∈ T ∧ u = .tbl #[]) ∨ (b = a ∧ K.lookup a = none ∧ u = .frz o (.lst (ns.map V.int))) := by
  unfold lawH at h
  by_cases h1 : b ∈ T
  · rw [if_pos h1] at h
    exact .inl ⟨h1, (Option.some.inj h).symm⟩
  · rw [if_neg h1] at h
    by_cases h2 : b = a ∧ K.lookup a = none
    · rw [if_pos h2] at h
      exact .inr ⟨h2.1, h2.2, (Option.some.inj h).symm⟩
    · rw [if_neg h2] at h
      cases h
theorem law_end {P : Program} {w : World} {K : PySem.W.Frag} {mg mb : Str → Option Value} {k : Nat} {fa a : Addr} {cs : List (Addr × Addr)} {fd : FuncData} {x : Str} {sp : Sp} {s₁ : Shared} {vs : List Value} {ns : List Int}
    (KX : K.In s₁.heap) (hns : s₁.heap.Ns mainGlobals mg) (hb : s₁.heap.Ns builtinsNs mb) (hbb : ∀ x : Str, x ≠ "__name__" → mb x = bootBuiltins x) (hlim : s₁.heap.NoLimit) (hg : s₁.gens = #[])
    (hT : ∀ p ∈ cs, s₁.heap.get? p.2 = some { cls := .none, data := .fields #[] }) (nT : ∀ p ∈ cs, K.lookup p.2 = none) (C : ∀ p ∈ cs, PySem.W.CodeHd s₁.heap p.1 p.2)
    (hbm : ∃ (bm : Addr) (ob : Obj), mg "__builtins__" = some (.ref bm) ∧ bm ≠ builtinsNs ∧ s₁.heap.get? bm = some ob ∧ ob.cls = .type "module" ∧ ob.dict = some builtinsNs ∧ ob.data = .plain)
    (ha : s₁.heap.get? a = some { cls := .type "list", data := .seq vs.toArray }) (hi : IntsAre vs ns) (hl : ns.length ≤ sizeLine) (hr : Room k callerA)
    (F : ∀ base : Heap, K.In base → base.Ns mainGlobals mg → (∀ p ∈ cs, LamX.TabB base mg p.1 p.2) → FnOkG P w K mg base CX0 k fa fd [x] sp) (hbind : ∀ (s : Shared) (u : Value), BindsTo s fd ⟨[u], []⟩ [(x, u)])
    (hsp : ∀ H : Hp, (∀ p ∈ cs, H p.2 = some (.tbl #[])) → SqL K H a (ns.map V.int) → sp [.ref a] H (fun v _ => v = .bl true) fun _ _ _ => False) :
    codeAny (model P w) callerA (.call (.ref fa) ⟨[.ref a], []⟩) (fun r s' => r = .ok (.ret (.bool true)) ∧ OldK s₁.heap s'.heap ∧ s'.os = s₁.os ∧ AllBare s'.gens) s₁ := by
  have tabAt : ∀ {b : Addr}, b ∈ cs.map (·.2) → s₁.heap.get? b = some { cls := .none, data := .fields #[] } := fun {b} h => by
    obtain ⟨p, h1, rfl⟩ := List.mem_map.mp h
    exact hT p h1
  have memT : ∀ {p}, p ∈ cs → p.2 ∈ cs.map (·.2) := fun h => List.mem_map.mpr ⟨_, h, rfl⟩
  have aT : a ∉ cs.map (·.2) := fun z => by
    have q := tabAt z
    rw [ha] at q
    exact nomatch (congrArg Obj.data (Option.some.inj q) : Data.seq vs.toArray _ = Data.fields #[])
  generalize eH : lawH K (cs.map (·.2)) a { cls := .type "list", data := .seq vs.toArray } ns = H
  have hcase : ∀ {b u}, H b = some u → (b ∈ cs.map (·.2) ∧ u = .tbl #[]) ∨ (b = a ∧ K.lookup a = none ∧ u = .frz { cls := .type "list", data := .seq vs.toArray } (.lst (ns.map V.int))) := fun h => by
    rw [← eH] at h
    exact lawH_cases h
  have hHT : ∀ p ∈ cs, H p.2 = some (.tbl #[]) := fun p hp => by
    rw [← eH]
    unfold lawH
    rw [if_pos (memT hp)]
  have rv := vals_ints hi
  have lenV := hi.length
  have hS : SqL K H a (ns.map V.int) := by
    cases hk : K.lookup a with
    | some o =>
      have e := (KX a o hk).symm.trans ha
      cases e
      exact .inr ⟨_, vs.toArray, _, hk, rfl, rfl, rfl, by rw [List.size_toArray, lenV]; exact hl, by simpa using rv⟩
    | none =>
      refine .inl (.inr ⟨{ cls := .type "list", data := .seq vs.toArray }, ?_⟩)
      rw [← eH]
      unfold lawH
      rw [if_neg aT, if_pos ⟨rfl, hk⟩]
  have hok : HOk P w H s₁.heap := fun b u z => by
    rcases hcase z with ⟨h1, rfl⟩ | ⟨rfl, _, rfl⟩
    · exact tabAt h1
    · exact ⟨ha, by rw [List.length_map]; exact hl, vs, _, rv, ha⟩
  -- an object that is neither a list nor an empty table is not tracked
  have free : ∀ {b : Addr} {o : Obj}, s₁.heap.get? b = some o → (∀ xs n, o.data ≠ .seq xs n) → o.data ≠ .fields #[] → H b = none := fun {b o} e h1 h2 => by
    cases q : H b with
    | none => rfl
    | some u =>
      rcases hcase q with ⟨h3, _⟩ | ⟨rfl, _, _⟩
      · rw [tabAt h3] at e
        cases e
        exact absurd rfl h2
      · rw [ha] at e
        cases e
        exact absurd rfl (h1 _ _)
  have dictFree : ∀ {b : Addr} {o : Obj} {es : Array DictEntry} {ep : Nat}, s₁.heap.get? b = some o → o.data = .dict es ep → H b = none := fun {b o es ep} e d =>
    free e (fun xs n z => nomatch (d.symm.trans z)) fun z => nomatch (d.symm.trans z)
  have nsB : ∀ {b : Addr} {m : Str → Option Value}, s₁.heap.Ns b m → (hidT s₁.heap H).Ns b m := fun ⟨o, es, ep, e, d, r⟩ => ⟨o, es, ep, hidT_get e (dictFree e d), d, r⟩
  have kB : K.In (hidT s₁.heap H) := fun b o e => hidT_get (KX b o e) (by
    cases q : H b with
    | none => rfl
    | some u =>
      rcases hcase q with ⟨h3, _⟩ | ⟨rfl, h4, _⟩
      · obtain ⟨p, hp, rfl⟩ := List.mem_map.mp h3
        rw [nT p hp] at e
        cases e
      · rw [h4] at e
        cases e)
  have hM : L2.Mod K mg (hidT s₁.heap H) := ⟨kB, nsB hns, ⟨mb, nsB hb, hbb⟩, let ⟨mc, h1, h2⟩ := hlim; ⟨mc, nsB h1, h2⟩⟩
  have TB : ∀ p ∈ cs, LamX.TabB (hidT s₁.heap H) mg p.1 p.2 := fun p hp => by
    refine ⟨?_, ?_, fun z => ?_⟩
    · obtain ⟨o, us, file, tf, flags, tg, inF, text, tt, e1, r1, r2, r3, r4⟩ := C p hp
      refine ⟨o, us, file, tf, flags, tg, inF, text, tt, hidT_get e1 (free e1 (fun xs n z => nomatch (r2.symm.trans z)) fun z => ?_), r1, r2, r3, r4⟩
      obtain rfl : us = #[] := Data.fields.inj (r2.symm.trans z)
      simp at r3
    · obtain ⟨bm, ob, b1, b2, b3, b4, b5, b6⟩ := hbm
      have hf : H bm = none := free b3 (fun xs n z => nomatch (b6.symm.trans z)) fun z => nomatch (b6.symm.trans z)
      refine ⟨bm, ob, b1, b2, fun q => ?_, fun q => ?_, hidT_get b3 hf, b4, b5, b6⟩
      · obtain ⟨o, es, ep, e, hd, _⟩ := hns
        rw [q, e] at b3
        cases b3
        exact nomatch (hd.symm.trans b6)
      · rw [q, hHT p hp] at hf
        cases hf
    · obtain ⟨o, es, ep, e, hd, _⟩ := hns
      rw [z, hT p hp] at e
      cases e
      cases hd
  have e0 : Env0 P w K mg (hidT s₁.heap H) callerA [] s₁ H := ⟨rfl, hM, fun b o e => of_hidT e, Nat.le_of_eq (hidT_size _ _), trivial, (fun b hb => nomatch (show b ∈ ([] : List Addr) from hb)), hok, .of_eq hg⟩
  refine codeAny_mono ((F _ kB (nsB hns) TB).run callerA [] s₁ H ⟨[.ref a], []⟩ [.ref a] [.ref a] _ _ rfl hr e0 (hbind s₁ (.ref a)) (.cons rfl .nil) (hsp H hHT hS)) fun r s' h => ?_
  cases r with
  | error e => exact (show False from h).elim
  | ok fl =>
    cases fl with
    | next | brk | cont => exact False.elim h
    | ret u =>
      obtain ⟨v, H', os, bare, un, hok', r', q⟩ := h
      obtain rfl : v = .bl true := q
      obtain rfl : u = Value.bool true := r'
      have grown : ∀ p ∈ cs, ∃ more : Array Value, s'.heap.get? p.2 = some { cls := .none, data := .fields more } := fun p hp => by
        obtain ⟨more, z⟩ := un.tbls p.2 #[] (hHT p hp)
        exact ⟨_, hok' p.2 _ z⟩
      have same : ∀ {b o}, b ∉ cs.map (·.2) → s₁.heap.get? b = some o → s'.heap.get? b = some o := fun {b o} nb e => by
        cases q : H b with
        | none => exact un.keep b o e q (fun z => nomatch (show b ∈ ([] : List Addr) from z)) (fun z => nomatch (show b ∈ ([] : List Addr) from z))
        | some u =>
          rcases hcase q with ⟨h3, _⟩ | ⟨rfl, _, rfl⟩
          · exact absurd h3 nb
          · have e2 := (hok' _ _ (un.frzs _ _ _ q)).1
            exact e2.trans (ha.symm.trans e)
      refine ⟨rfl, ⟨fun b o e => ?_, fun b o e => ?_⟩, os, bare⟩
      · by_cases hb : b ∈ cs.map (·.2)
        · obtain ⟨p, hp, rfl⟩ := List.mem_map.mp hb
          obtain ⟨more, hm⟩ := grown p hp
          rw [hT p hp] at e
          cases e
          exact .inr (.inl ⟨((C p hp).tab (hT p hp)).isCodeTable, rfl, #[], more, rfl, by rw [Array.empty_append]; exact hm⟩)
        · exact .inl (same hb e)
      · by_cases hb : b ∈ cs.map (·.2)
        · obtain ⟨p, hp, rfl⟩ := List.mem_map.mp hb
          obtain ⟨more, hm⟩ := grown p hp
          exact ⟨_, hm⟩
        · exact ⟨o, same hb e⟩
/-- what the head's facts give of the law's def -/
def LawAtG (l : PySem.W.OpenLaw) (w : World) (K : PySem.W.Frag) (k n : Nat) (x : Str) (mg : Str → Option Value) (fa : Addr) (h : Heap) : Prop :=
  ∃ (fd : FuncData) (cs : List (Addr × Addr)) (sp : Sp), (∀ p ∈ cs, h.get? p.2 = some { cls := .none, data := .fields #[] }) ∧ (∀ p ∈ cs, K.lookup p.2 = none) ∧ (∀ p ∈ cs, PySem.W.CodeHd h p.1 p.2) ∧ (∀ (s : Shared) (u : Value), BindsTo s fd ⟨[u], []⟩ [(x, u)]) ∧
    (∀ (H : Hp) (a : Addr) (ns : List Int), ns.length ≤ n → (∀ z ∈ ns, Builtin.Int.intBits z ≤ 1048576) → (∀ p ∈ cs, H p.2 = some (.tbl #[])) → SqL K H a (ns.map V.int) → sp [.ref a] H (fun v _ => v = .bl true) fun _ _ _ => False) ∧
    ∀ base : Heap, K.In base → base.Ns mainGlobals mg → (∀ p ∈ cs, LamX.TabB base mg p.1 p.2) → FnOkG l.prog w K mg base CX0 k fa fd [x] sp
theorem walk_ofG {l : PySem.W.OpenLaw} {n k : Nat} {q : Program} {loose : List Str} {XP : (Str → Option Value) → Heap → Prop} {YP : World → Heap → Prop} {d : DefRec} {x : Str}
    (hn : l.most = some n) (hn2 : n ≤ sizeLine) (hdf : d.params.defaults = []) (hr : Room k callerA)
    (F : ∀ (w : World) (mg : Str → Option Value) (fa : Addr) (h : Heap), YP w h → h.Ns mainGlobals mg → mg d.name = some (.ref fa) → ∃ K : PySem.W.Frag, K.In h ∧ LawAtG l w K k n x mg fa h) :
    PySem.W.WalkO q loose XP YP l.row.toRowW d [] (fun f vs => PySem.call f vs) := by
  refine Att.attach_callB hn hdf fun w s₀ s₁ mg mb fa o pm cd doc a vs ns G Y ho hd hcd hmg hobj hints hlen hbits hg => ?_
  obtain ⟨K, KX, fd, cs, sp, hT, nT, C, hb, hsp, hF⟩ := F w mg fa _ Y G.T.g hmg
  exact law_end KX G.T.g G.T.b G.T.builtins G.T.nolimit hg hT nT C G.T.bmain hobj hints (Nat.le_trans hlen hn2) hr hF hb fun H hH hS => hsp H a ns hlen hbits hH hS
end Og
set_option Elab.async false
set_option linter.all false
set_option maxRecDepth 100000
set_option maxHeartbeats 2000000
/-! An exception class whose __init__ says super().__init__(..) and keeps its arguments. -/
namespace Og
open PySem PySem.Spec PyProof.Rows L2
/-! ### what the written part says of such an __init__ -/
structure IniT (P : Program) (K : PySem.W.Frag) (C f : Addr) (fd : FuncData) (st : Stmt) (qual : Str) : Prop where
  ex : ∃ (oc : Value) (od : Option Addr) (kV doc pm ct : Value) (an : Option Addr) (osl : Array (Option Value)) (cc cda : Addr) (cl ccl : Value) (cld cdd : Option Addr) (csl ccs : Array (Option Value)) (vs : Array Value) (file : Str) (tf : Tok) (cdD : ClassData),
    fd = PySem.W.fnX "__init__" qual (defArgs st) (defBody st) (defScope st) [("__class__", cc)] .none kV doc pm an (.ref cda) ct ∧ K.lookup f = some ⟨oc, od, .func fd, osl⟩ ∧ PySem.W.codeIn K (.ref cda) qual = true ∧
    K.lookup cc = some ⟨cl, cld, .cell (some (.ref C)), csl⟩ ∧ K.lookup cda = some ⟨ccl, cdd, .fields vs, ccs⟩ ∧ vs[2]? = some (.str file tf) ∧ (P.main.file == file) = true ∧ PySem.W.clsIn K C = some cdD
  sub : PySem.W.mroIn K C (.ref C) = some true
  sup : PySem.W.nsIn K mainGlobals "super" = some none
  top : (P.main.scope.names.lookup ("super" : Str)).isSome = false
  opq : PySem.W.nsIn K cStatics "thirdparty.any" = some none
  along : PySem.W.ks_superIn K C C "__init__" = some (some (.builtin "ValueError.__init__"))
  ve : PySem.W.subIn K (.ref C) (.type "ValueError") = some true
  oex : OexC K C
/-- the scope of such an __init__ -/
structure IniS (N ps : List Str) (sc : Scope) : Prop where
  kind : sc.kind = .function
  co : sc.isCoroutine = false
  gen : sc.isGenerator = false
  nd : N.Nodup
  eq : ps = N
  loc : ∀ x ∈ N, sc.names.lookup x = some .local
  nocell : ∀ y ∈ sc.names, y.2 ≠ .cell
  only : ∀ y ∈ sc.names, y.2 = .free → y.1 = "__class__"
  cls : sc.names.lookup ("__class__" : Str) = some .free
  sup : sc.names.lookup ("super" : Str) = some .globalImplicit
  nCls : ("__class__" : Str) ∉ N
/-- the context of its body -/
def cxI (P : Program) (w : World) (K : PySem.W.Frag) (mg : Str → Option Value) (base : Heap) (N : List Str) (qual : Str) (scope : Scope) (f cda cc : Addr) (A : Around) (outer : List Env) (s : Shared) (H : Hp) : Cx where
  prog := P
  w := w
  K := K
  mg := mg
  base := base
  A := A.deeper (PySem.W.ksEnv qual scope s.heap.objs.size f (.ref cda) cc)
  N := N
  s_0 := s
  H_0 := H
  env := PySem.W.ksEnv qual scope s.heap.objs.size f (.ref cda) cc
  outer := outer
  stack := PySem.W.ksEnv qual scope s.heap.objs.size f (.ref cda) cc :: outer
  ex := []
  fn := fun _ => false
  calm := false
  pn := []
  xe := fun _ _ => False
theorem one_cell {x : Str} {cc c : Addr} (h : ([(("__class__" : Str), cc)] : List (Str × Addr)).lookup x = some c) : x = "__class__" ∧ c = cc := by
  have q := PySem.mem_of_lookup h
  rcases List.mem_cons.mp q with e | q
  · exact ⟨congrArg Prod.fst e, congrArg Prod.snd e⟩
  · exact nomatch q
theorem rev_look {ps : List Str} {us : List Value} {i : Nat} {y : Str} {u : Value} (hn : ps.Nodup) (hp : ps[i]? = some y) (hu : us[i]? = some u) : (ps.zip us).reverse.lookup y = some u := by
  have hz : (ps.zip us)[i]? = some (y, u) := by
    rw [List.getElem?_zip_eq_some]
    exact ⟨hp, hu⟩
  have hm : (y, u) ∈ (ps.zip us).reverse := List.mem_reverse.mpr (List.mem_of_getElem? hz)
  have un : ∀ (l : List (Str × Value)), (∀ a ∈ l, ∀ b ∈ l, a.1 = b.1 → a = b) → (y, u) ∈ l → l.lookup y = some u := by
    intro l
    induction l with
    | nil => intro _ h; exact nomatch h
    | cons a l ih =>
      intro hall h
      obtain ⟨a1, a2⟩ := a
      rw [List.lookup_cons]
      by_cases e : y = a1
      · have := hall (a1, a2) List.mem_cons_self (y, u) h e.symm
        cases this
        simp
      · have : (y == a1) = false := by simpa using e
        rw [this]
        refine ih (fun a ha b hb => hall a (List.mem_cons_of_mem _ ha) b (List.mem_cons_of_mem _ hb)) ?_
        rcases List.mem_cons.mp h with q | q
        · cases q
          exact absurd rfl e
        · exact q
  refine un _ (fun a ha b hb e => ?_) hm
  obtain ⟨j, hj⟩ := List.mem_iff_getElem?.mp (List.mem_reverse.mp ha)
  obtain ⟨k, hk⟩ := List.mem_iff_getElem?.mp (List.mem_reverse.mp hb)
  obtain ⟨j1, j2⟩ := List.getElem?_zip_eq_some.mp hj
  obtain ⟨k1, k2⟩ := List.getElem?_zip_eq_some.mp hk
  have ejk : j = k := nodup_ix hn j1 (e ▸ k1)
  subst ejk
  exact Option.some.inj (hj.symm.trans hk)
section
variable {P : Program} {w : World} {K : PySem.W.Frag} {mg : Str → Option Value} {base : Heap} {N ps : List Str} {qual : Str} {scope : Scope} {f cda cc : Addr} {A : Around} {outer : List Env} {s : Shared} {H : Hp} {us : List Value} {vs : List V}
theorem ini_start {h₁ : Heap} {tk : Nat} (S : IniS N ps scope) (e0 : Env0 P w K mg base A outer s H) (hl : vs.length = ps.length) (r : Vals vs us)
    (hns : h₁.Ns s.heap.objs.size fun x => (ps.zip us).reverse.lookup x) (kp : ∀ b o, s.heap.get? b = some o → h₁.get? b = some o) (hc : ∃ o v, base.get? cc = some o ∧ o.data = .cell v) :
    Inv (cxI P w K mg base N qual scope f cda cc A outer s H) [] (vs.map some) H { s with heap := h₁, toks := tk } := by
  obtain ⟨oc, v, hcc, hcv⟩ := hc
  obtain ⟨hc1, hc2⟩ := e0.bs cc oc hcc
  have noA : ∀ b : Addr, b ∉ (cxI P w K mg base N qual scope f cda cc A outer s H).ex := fun b z => nomatch (show b ∈ ([] : List Addr) from z)
  have lenN : vs.length = N.length := hl.trans (congrArg List.length S.eq)
  refine ⟨⟨e0.mod, S.kind, rfl, rfl, Nat.le_refl _, fun y z c h1 h2 => ?_, fun y hy => ?_, (fun y c h _ => nomatch (show false = true from h)), (fun z => Bool.noConfusion (show false = true from z)), Around.frames_deeper e0.frames, .inr ⟨rfl, rfl⟩, fun b z => absurd z (noA b), e0.bs, e0.bsz, fun b _ _ => noA b, fun b z => absurd z (noA b), e0.funs, e0.frf⟩,
    rfl, e0.bare, Un.kept kp, ⟨_, hns, fun i y v h1 h2 h3 => ?_⟩, fun y c h => ?_, e0.hok.fresh (Nat.le_refl _), fun y c h => ?_, (fun p hp => nomatch (show p ∈ ([] : List (Addr × Obj)) from hp)), e0.hok.kept kp, by rw [List.length_map]; exact lenN⟩
  · exact (one_cell h1).1.trans (one_cell h2).1.symm
  · have hy : scope.names.lookup y = some .cell ∨ scope.names.lookup y = some .free := hy
    rcases hy with hy | hy
    · exact absurd rfl (S.nocell _ (PySem.mem_of_lookup hy))
    · have e := S.only _ (PySem.mem_of_lookup hy) rfl
      have e : y = "__class__" := e
      exact ⟨cc, by
        rw [e]
        show List.lookup ("__class__" : Str) [(("__class__" : Str), cc)] = some cc
        rw [List.lookup_cons, beq_self_eq_true]⟩
  · have hi : vs[i]? = some v := by
      rw [List.getElem?_map] at h2
      cases e : vs[i]? with
      | none => rw [e] at h2; cases h2
      | some a => rw [e] at h2; cases h2; rfl
    obtain ⟨u, hu, rv⟩ := r.get hi
    have hp : ps[i]? = some y := by rw [S.eq]; exact h1
    have ndP : ps.Nodup := by rw [S.eq]; exact S.nd
    exact ⟨u, rv, .inl ⟨S.loc y (List.mem_of_getElem? h1), rev_look ndP hp hu⟩⟩
  · obtain ⟨_, rfl⟩ := one_cell h
    exact ⟨v, oc, kp _ _ hc1, hcv⟩
  · obtain ⟨_, rfl⟩ := one_cell h
    exact hc2
end
/-! ### super().__init__(..) -/
section
variable {prog : Program} {w : World} {A : Around} {E : Value → Shared → Prop} {h : Heap} {g : Array GenState} {d : Drawn} {t : Nat} {os : OsState}
variable {nm q : Str} {C N : Addr} {bs bm : List Value} {hdct : Bool} {sn : List Str} {sub : List Value} {ab : Bool} {col : Option Bool} {dd : Option Addr} {k0 k1 k2 k3 k5 : Option Value}
/-- the bound __init__ called -/
theorem wrap_call {u e t0 : Addr} {rest : List Value} {Q : Value → Shared → Prop}
    (hC : h.get? C = some (excClassObj nm q C N bs bm hdct sn sub ab col dd k0 k1 k2 k3 k5 "ValueError.__new__")) (he : h.get? e = some (HandSPX.excO C t0)) (hu : h.get? u = some (PySem.W.kxs_mw "ValueError.__init__" e)) (hz : rest.length ≤ sizeLine)
    (hq : ∀ h' t1, (∀ b o, b ≠ e → h.get? b = some o → h'.get? b = some o) → h'.get? e = some (HandSPX.excO C t1) → Q .none ⟨h', g, d, t, os⟩) :
    wpAny (model prog w) A (call (.ref u) rest) Q E ⟨h, g, d, t, os⟩ := by
  have FB := F.excBase_ValueError
  refine wpAny_call (codeAny_of_tree ?_)
  show wpAny _ A.in1 (callAny (.ref u) ⟨rest, []⟩) _ _ _
  simp only [callAny]
  refine wpAny_bind (wpAny_load hu ?_)
  simp only [PySem.W.kxs_mw, show (Value.type "method-wrapper" == Value.type "method" || Value.type "method-wrapper" == Value.type "builtin_function_or_method" || Value.type "method-wrapper" == Value.type "method-wrapper") = true by decide, if_true]
  refine PySem.W.KFB.if_so (by decide) ?_
  refine wpAny_bind (PySem.W.check_bound_init FB.toExcCallFacts hC he rfl ?_)
  refine wpAny_bind (wpAny_pure (wpAny_pure ?_))
  refine ⟨plainId_quiet FB.init.plain _, codeAny_builtin FB.initEntry ?_⟩
  exact PySem.W.exc_init_tree (cls := .ref C) (t0 := t0) (dv := none) (c2 := .none) (c3 := .none) (b4 := .bool false) he hz fun h' k e' _ => hq h' _ k e'
end

section
variable {P : Program} {w : World} {K : PySem.W.Frag} {mg : Str → Option Value} {base : Heap} {N ps : List Str} {qual : Str} {f C cda cc : Addr} {A : Around} {outer : List Env} {sE : Shared} {HE : Hp} {fd : FuncData} {st : Stmt}
/-- the first statement: nothing that is tracked has changed -/
theorem super_first {X : Cx} {env : Env} {s : Shared} {σ : L2.St} {H : Hp} {a : Addr} {ar : Arg} {e : Expr} {es : List Expr} {t : TA} {p0 p1 p2 p3 p4 : Pos} {pl : Sem Bool} {E : Value → Shared → Prop} {body : List Stmt}
    (hX : X = cxI P w K mg base N qual (defScope st) f cda cc A outer sE HE) (hE : env = PySem.W.ksEnv qual (defScope st) sE.heap.objs.size f (.ref cda) cc) (T : IniT P K C f fd st qual)
    (hlk : ∃ oc od osl, K.lookup f = some ⟨oc, od, .func fd, osl⟩) (hp : (fd.params.posonlyargs ++ fd.params.args).head? = some ar)
    (hcc : ∃ cl cld csl, K.lookup cc = some ⟨cl, cld, .cell (some (.ref C)), csl⟩) (hcda : ∃ ccl cdd ccs vs file tf, K.lookup cda = some ⟨ccl, cdd, .fields vs, ccs⟩ ∧ vs[2]? = some (.str file tf) ∧ (P.main.file == file) = true)
    (hD : ∃ cdD, PySem.W.clsIn K C = some cdD)
    (S : IniS N ps (defScope st)) (hN : N[0]? = some ar.arg) (hσ : σ[0]? = some (some (V.ref a)))
    (I : Inv X [] σ H s) (ha : H a = some (exo a C none))
    (hpa : PA X (e :: es) t) (ht : t σ H fun ws H1 => H1 = H ∧ ws.length ≤ 1000)
    (he : eval (.Call (.Attribute (.Call (.Name "super" p0) [] [] p1) "__init__" p2) (e :: es) [] p3) env = (do
      let ov ← attributeBase (.Call (.Name "super" p0) [] [] p1) "__init__" env (eval (.Call (.Name "super" p0) [] [] p1) env)
      standAt p2.atName
      let (g, first) ← holding [ov] (getMethod ov "__init__" pl)
      callWith p3 g first (backTo p3 (starEach (e :: es) env)) []))
    (hs : starEach (e :: es) env = (false, eval e env) :: starEach es env) (hpl : (backTo p3 (starEach es env)).any (·.1) = false)
    (hsw : swapsWith (.Call (.Attribute (.Call (.Name "super" p0) [] [] p1) "__init__" p2) (e :: es) [] p3) none p4.line env = pure false) :
    _root_.PySem.wpAt (model P w) X.A (.func body env)
      (exec (.Expr (.Call (.Attribute (.Call (.Name "super" p0) [] [] p1) "__init__" p2) (e :: es) [] p3) p4) env) (fun fl s' => fl = .next ∧ Inv X [] σ H s') E s := by
  obtain ⟨oc, od, osl, hf⟩ := hlk
  obtain ⟨cl, cld, csl, hcell⟩ := hcc
  obtain ⟨ccl, cdd, ccs, vs, file, tf, hcode, hvs, hfile⟩ := hcda
  obtain ⟨cdD, hD⟩ := hD
  obtain ⟨nm, q, N0, bs, bm, sn, sub, ab, col, dd, k0, k1, k2, k3, k5, hC, hbm⟩ := T.oex.cls
  have hks : env.kindOf "super" = some .globalImplicit := by rw [hE]; exact S.sup
  have hkc : env.kindOf "__class__" = some .free := by rw [hE]; exact S.cls
  have hk : env.scope.kind = .function := by rw [hE]; exact S.kind
  have hXe : X.env = env := by rw [hX, hE]; rfl
  have hXp : X.prog = P := by rw [hX]; rfl
  have hXw : X.w = w := by rw [hX]; rfl
  have hXK : X.K = K := by rw [hX]; rfl
  have hXm : X.mg = mg := by rw [hX]; rfl
  have hXN : X.N = N := by rw [hX]; rfl
  subst hXe
  obtain ⟨mm, hn, hloc⟩ := id I.loc
  obtain ⟨u, ru, lk⟩ := hloc 0 ar.arg (.ref a) (by rw [hXN]; exact hN) hσ (.inl (by rw [hE]; exact S.loc _ (List.mem_of_getElem? hN)))
  obtain rfl : u = Value.ref a := ru
  have hka : X.env.kindOf ar.arg = some .local := by rw [hE]; exact S.loc _ (List.mem_of_getElem? hN)
  have hma : mm ar.arg = some (.ref a) := by
    rcases lk with ⟨_, h⟩ | ⟨h, _⟩
    · exact h
    · rcases h with h | h <;> (rw [hka] at h; cases h)
  have KX : K.In s.heap := by rw [← hXK]; exact I.kIn
  obtain ⟨oD, hD1, hD2⟩ : ∃ oD, s.heap.get? C = some oD ∧ oD.data = .cls cdD := by
    unfold PySem.W.clsIn at hD
    split at hD
    · rename_i c d cd' sl ho
      cases hD
      exact ⟨_, KX _ _ ho, rfl⟩
    · cases hD
  refine ks_wpAt_Expr_any ?_ (by simp [interactive, hk]) hsw
  refine ks_wpAt_MethodCall (pl := pl) ?_ he
  refine ks_wpAt_super_base hks hkc (by decide) (f := f) (cc := cda) (by rw [hE]) (KX _ _ hf) rfl hp (by rw [hE]) (KX _ _ hcode) rfl hvs hfile T.top ?_
  obtain ⟨mb, hb1, hb2⟩ := I.mod.blt
  have hgl : s.heap.Ns X.env.globals mg := by
    rw [I.ok.glob, ← hXm]
    exact I.mod.glob.keeps I.bk
  have hbl : s.heap.Ns X.env.builtins mb := by
    rw [I.ok.blt]
    exact hb1.keeps I.bk
  have hbs : bootBuiltins ("super" : Str) = some (.type "super") := by decide +kernel
  refine PySem.W.ks_loadName_global hk hks (PySem.Calls.loadGlobal_builtin hgl (PySem.W.mg_none_of (h := s.heap) KX (by rw [← I.ok.glob]; exact hgl) T.sup) hbl ((hb2 _ (by decide +kernel)).trans hbs) ⟨rfl, ?_⟩)
  have hcx : ∃ c, X.env.cells.lookup ("__class__" : Str) = some c ∧ s.heap.IsCell c (some (.ref C)) := ⟨cc, by
      rw [hE]
      show List.lookup ("__class__" : Str) [(("__class__" : Str), cc)] = some cc
      rw [List.lookup_cons, beq_self_eq_true], _, KX _ _ hcell, rfl⟩
  obtain ⟨c1, hc1, hc2⟩ := hcx
  refine wpAny_loadName_free hk hkc hc1 hc2 ?_
  refine wpAny_loadName_local hk hka hn hma ?_
  refine ks_wpAny_isType_cls hD1 hD2 ⟨rfl, ?_⟩
  obtain ⟨t1, ho⟩ := exo_at I.hok ha
  obtain ⟨hp, g, d, tk, os⟩ := s
  refine ks_wpAny_call_super hD1 hD2 ho rfl (fun c z => nomatch z) (PySem.W.looks_mroIn KX T.sub) (fun h' hso k => ?_)
  have I1 : Inv X [] σ H ⟨h', g, d, tk, os⟩ := I.kept (t' := tk) k
  obtain ⟨t2, ho1⟩ := exo_at I1.hok ha
  have KX1 : K.In h' := KX.keeps k
  have hal := T.along
  unfold PySem.W.ks_superIn at hal
  rw [hD] at hal
  have hxC : a ≠ C := fun z => by
    subst z
    rw [ho] at hD1
    cases hD1
    cases hD2
  have hin : PySem.W.Looks (model P w) h' (isInstance (.ref a) (.type "ValueError")) true := by
    have LT : PySem.W.Looks (model P w) h' (typeOf (.ref a)) (.ref C) := fun A Q E s k q => wpAny_typeOf_ref (k _ _ ho1) q
    exact LT.andThen (PySem.W.looks_subIn KX1 T.ve)
  have hCl : PySem.W.Looks (model P w) h' (mroOf (.ref C)) cdD.mro := fun A Q E s k q => wpAny_bind ((PySem.W.looks_clsIn KX1 hD) A _ E s k (wpAny_pure q))
  refine PySem.W.kxs_getMethod PySem.W.kxs_ValueError hso (PySem.W.looks_opaque KX1 T.opq) hCl rfl KX1 hal hin hxC (by decide) ?_
  have k2 : ∀ b o, h'.get? b = some o → (h'.push (PySem.W.kxs_mw "ValueError.__init__" a)).get? b = some o := fun b o e => Heap.get?_push_of_some _ e
  have hu2 : (h'.push (PySem.W.kxs_mw "ValueError.__init__" a)).get? h'.objs.size = some (PySem.W.kxs_mw "ValueError.__init__" a) := Heap.get?_push_at rfl rfl
  have nu : H h'.objs.size = none := I1.hok.fresh (Nat.le_refl _)
  have I2 : Inv X [] σ H ⟨h'.push (PySem.W.kxs_mw "ValueError.__init__" a), g, d, tk + 1, os⟩ := I1.kept (t' := tk + 1) k2
  show wpAny _ _ (callWith p3 (.ref h'.objs.size) [] (backTo p3 (starEach (e :: es) X.env)) []) _ _ _
  -- the wrapper is not ours: it stays
  have I2' : Inv X [(h'.objs.size, PySem.W.kxs_mw "ValueError.__init__" a)] σ H ⟨h'.push (PySem.W.kxs_mw "ValueError.__init__" a), g, d, tk + 1, os⟩ := I2.pins_of fun p hp => by
    obtain rfl : p = _ := List.mem_singleton.mp hp
    exact ⟨hu2, nu, Nat.ne_of_gt I1.lt, I1.nofs (Nat.le_refl _), fun v z => nomatch z⟩
  rw [hs]
  refine PySem.W.kxs_callWith (i := "ValueError.__init__") (x := a) (by show (false || (backTo p3 (starEach es X.env)).any (·.1)) = false; rw [hpl]; rfl) ?_
  have hrun := hpa.run p3 _ _ σ H _ I2' ht
  rw [hs] at hrun
  rw [hXp, hXw] at hrun
  refine Calls.evalArgs_plain (wpAny_mono hrun (fun ws s3 hh => ?_) fun _ _ z => ?_)
  · obtain ⟨vs3, H3, I3, r3, e3, hz⟩ := hh
    subst e3
    obtain ⟨hu3, _⟩ := I3.pin (h'.objs.size, PySem.W.kxs_mw "ValueError.__init__" a) (List.mem_append_right _ (List.mem_singleton.mpr rfl))
    refine ⟨hu3, ?_⟩
    obtain ⟨t3, ho3⟩ := exo_at I3.hok ha
    obtain ⟨h3, g3, d3, tk3, os3⟩ := s3
    have KX3 : K.In h3 := by rw [← hXK]; exact I3.kIn
    refine wrap_call (KX3 _ _ hC) ho3 hu3 (by rw [List.nil_append, ← r3.length, sizeLine_eq]; omega) fun h4 t4 k4 ho4 => ⟨rfl, ?_⟩
    have J := I3.write (t' := tk3) (x := a) (e := a) (o := exo a C none) (by rw [ha]; exact True.intro) (.inl rfl) k4 ⟨_, ho4⟩ (exo_ok ho4)
    have eu : upd H3 a (exo a C none) = H3 := by
      funext b
      by_cases hb : b = a
      · rw [hb, upd_same, ha]
      · rw [upd_ne hb]
    rw [eu] at J
    exact J.pins_of fun p hp => nomatch hp
  · rw [hX] at z
    exact (show False from z).elim

/-- __init__ as a whole: the first statement, then what follows by its reading -/
theorem ini_run {Q : VK} {E : XK} {args : Args} {us : List Value} {vs : List V} {H : Hp} {s : Shared} {a : Addr} {ar : Arg} {st1 : Stmt} {rest : List Stmt}
    (T : IniT P K C f fd st qual) (S : IniS N ps (defScope st)) (har : ((defArgs st).posonlyargs ++ (defArgs st).args).head? = some ar) (hN : N[0]? = some ar.arg) (hv : vs[0]? = some (.ref a)) (hl : vs.length = ps.length)
    (hb : defBody st = st1 :: rest) (ha : H a = some (exo a C none)) (hdp : A.depth < recursionLimit) (e0 : Env0 P w K mg base A outer s H) (hbd : BindsTo s fd args (ps.zip us)) (r : Vals vs us)
    (h1 : ∀ (cda cc : Addr) (X : Cx) (s1 : Shared), X = cxI P w K mg base N qual (defScope st) f cda cc A outer s H → Inv X [] (vs.map some) H s1 →
      (∃ cl cld csl, K.lookup cc = some ⟨cl, cld, .cell (some (.ref C)), csl⟩) → (∃ ccl cdd ccs vs file tf, K.lookup cda = some ⟨ccl, cdd, .fields vs, ccs⟩ ∧ vs[2]? = some (.str file tf) ∧ (P.main.file == file) = true) →
      _root_.PySem.wpAt (model P w) X.A (.func (defBody st) X.env) (exec st1 X.env) (fun fl s' => fl = .next ∧ Inv X [] (vs.map some) H s') (fun _ _ => False) s1)
    (h2 : ∀ (cda cc : Addr) (X : Cx), X = cxI P w K mg base N qual (defScope st) f cda cc A outer s H → ∃ t, PSs X rest t ∧ t { nx := fun _ H' => Q .non H', rt := Q } (vs.map some) H) :
    codeAny (model P w) A (.call (.ref f) args) (CR CX0 outer P w H s Q E) s := by
  obtain ⟨oc, od, kV, doc, pm, ct, an, osl, cc, cda, cl, ccl, cld, cdd, csl, ccs, fvs, file, tf, cdD, hfd, hf, hcd, hcell, hcode, hvs, hfile, hD⟩ := T.ex
  have KX : K.In s.heap := e0.mod.kin.keeps fun b o e => (e0.bs b o e).1
  have lim : s.heap.NoLimit := e0.mod.nolimit.keeps fun b o e => (e0.bs b o e).1
  have hloc : ∀ y ∈ ps.zip us, (defScope st).names.lookup y.1 = some .local := fun ⟨n, v⟩ hy => S.loc n (by rw [← S.eq]; exact (List.of_mem_zip hy).1)
  subst hfd
  refine ks_codeAny_call_defAt (fd := PySem.W.fnX "__init__" qual (defArgs st) (defBody st) (defScope st) [("__class__", cc)] .none kV doc pm an (.ref cda) ct) (body := defBody st) (binds := ps.zip us) hdp (KX _ _ hf) rfl lim (PySem.W.codeRec_of KX hcd) rfl hbd S.nocell hloc (fun h₁ hns kp => ?_) S.co S.gen S.kind
  show _root_.PySem.wpAt (model P w) (A.deeper (PySem.W.ksEnv qual (defScope st) s.heap.objs.size f (.ref cda) cc)) (.func (defBody st) (PySem.W.ksEnv qual (defScope st) s.heap.objs.size f (.ref cda) cc)) (execs (defBody st) (PySem.W.ksEnv qual (defScope st) s.heap.objs.size f (.ref cda) cc)) _ _ _
  have kinB : K.In base := e0.mod.kin
  generalize hX : cxI P w K mg base N qual (defScope st) f cda cc A outer s H = X
  have hXA : X.A = A.deeper (PySem.W.ksEnv qual (defScope st) s.heap.objs.size f (.ref cda) cc) := by rw [← hX]; rfl
  have hXe : X.env = PySem.W.ksEnv qual (defScope st) s.heap.objs.size f (.ref cda) cc := by rw [← hX]; rfl
  have hXx : X.xe = fun _ _ => False := by rw [← hX]; rfl
  have hXp : X.prog = P := by rw [← hX]; rfl
  have hXw : X.w = w := by rw [← hX]; rfl
  have I : Inv X [] (vs.map some) H { s with heap := h₁, toks := s.toks + (ps.zip us).length } := by
    rw [← hX]
    exact ini_start S e0 hl r hns kp ⟨_, _, kinB _ _ hcell, rfl⟩
  rw [← hXA, ← hXe]
  have g1 := h1 cda cc X _ hX.symm I ⟨_, _, _, hcell⟩ ⟨_, _, _, _, _, _, hcode, hvs, hfile⟩
  obtain ⟨t, ht, q⟩ := h2 cda cc X hX.symm
  rw [hb] at g1 ⊢
  refine ks_wpAt_execs_cons (_root_.PySem.wpAt_mono g1 (fun fl s2 h => ?_) fun _ _ z => z.elim)
  obtain ⟨rfl, I2⟩ := h
  refine _root_.PySem.wpAt_of_wpAny ?_
  have g2 := ht.run [] s2 (vs.map some) H _ I2 q
  rw [hXp, hXw, hXx] at g2
  refine wpAny_mono g2 (fun fl s' hs => ?_) fun _ _ z => z.elim
  have os0 : ∀ {x y : Shared}, x = y → x.os = y.os := fun e => by rw [e]
  have fin : ∀ {σ' : L2.St} {H' : Hp} {v : V} {u : Value}, Inv X [] σ' H' s' → L2.RelV v u → Q v H' → CE outer P w H s Q u s' := fun {σ' H' v u} J rv q => by
    rw [← hX] at J
    exact ⟨v, H', J.os, J.bare, J.base, J.hok, rv, q⟩
  cases fl with
  | ret u =>
    obtain ⟨v, σ', H', J, rv, q⟩ := hs
    exact fin J rv q
  | next =>
    obtain ⟨σ', H', J, q⟩ := hs
    exact fin (v := V.non) (u := Value.none) J rfl q
  | brk =>
    obtain ⟨_, _, _, q⟩ := hs
    exact False.elim q
  | cont =>
    obtain ⟨_, _, _, q⟩ := hs
    exact False.elim q
end

/-! ### two arguments, kept as two fields -/
def spIni2 (C : Addr) (f1 f2 : Str) : Sp := fun vs H Q _ => ∃ (a : Addr) (v1 v2 : V), vs = [.ref a, v1, v2] ∧ H a = some (exo a C none) ∧
  ∀ d, H d = none → d ≠ a → Q .non (upd (upd (upd H d (exd d [(f1, v1)])) a (exo a C (some d))) d (exd d [(f2, v2), (f1, v1)]))
/-- the text of such an __init__ -/
structure Ini2 (st : Stmt) (f1 f2 : Str) : Prop where
  args : ∃ ar, ((defArgs st).posonlyargs ++ (defArgs st).args).head? = some ar ∧ ar.arg = "self"
  sc : IniS ["self", f1, f2] ["self", f1, f2] (defScope st)
  body : ∃ p0 p1 p2 p3 p4 q1 q2 r1 r2 r3 r4 r5 r6 r7 r8, defBody st = [.Expr (.Call (.Attribute (.Call (.Name "super" p0) [] [] p1) "__init__" p2) [.Name f1 q1, .Name f2 q2] [] p3) p4,
      .Assign [.Attribute (.Name "self" r1) f1 r2] (.Name f1 r3) r4, .Assign [.Attribute (.Name "self" r5) f2 r6] (.Name f2 r7) r8] ∧
    (∀ env : Env, ∃ pl, eval (.Call (.Attribute (.Call (.Name "super" p0) [] [] p1) "__init__" p2) [.Name f1 q1, .Name f2 q2] [] p3) env = (do
      let ov ← attributeBase (.Call (.Name "super" p0) [] [] p1) "__init__" env (eval (.Call (.Name "super" p0) [] [] p1) env)
      standAt p2.atName
      let (g, first) ← holding [ov] (getMethod ov "__init__" pl)
      callWith p3 g first (backTo p3 (starEach [.Name f1 q1, .Name f2 q2] env)) [])) ∧
    (∀ env : Env, swapsWith (.Call (.Attribute (.Call (.Name "super" p0) [] [] p1) "__init__" p2) [.Name f1 q1, .Name f2 q2] [] p3) none p4.line env = pure false) ∧
    (∀ env : Env, swapsWith (.Name f1 r3) (some (.Attribute (.Name "self" r1) f1 r2)) r4.line env = pure false) ∧ (∀ env : Env, swapsWith (.Name f2 r7) (some (.Attribute (.Name "self" r5) f2 r6)) r8.line env = pure false)
  d1 : (f1 == ("__debug__" : Str)) = false
  d2 : (f2 == ("__debug__" : Str)) = false
  c1 : (f1 == ("__classdict__" : Str)) = false
  c2 : (f2 == ("__classdict__" : Str)) = false
section
variable {P : Program} {w : World} {K : PySem.W.Frag} {mg : Str → Option Value} {base : Heap} {qual : Str} {f C : Addr} {A : Around} {outer : List Env} {fd : FuncData} {st : Stmt} {f1 f2 : Str}
theorem ini2_code {Q : VK} {E : XK} {args : Args} {us : List Value} {vs : List V} {H : Hp} {s : Shared} (T : IniT P K C f fd st qual) (B : Ini2 st f1 f2) (n1 : PySem.W.findIn K (.ref C) f1 = some none) (n2 : PySem.W.findIn K (.ref C) f2 = some none)
    (hsp : spIni2 C f1 f2 vs H Q E) (hdp : A.depth < recursionLimit) (e0 : Env0 P w K mg base A outer s H) (hbd : BindsTo s fd args ((["self", f1, f2] : List Str).zip us)) (r : Vals vs us) :
    codeAny (model P w) A (.call (.ref f) args) (CR CX0 outer P w H s Q E) s := by
  obtain ⟨a, v1, v2, rfl, ha, k⟩ := hsp
  obtain ⟨ar, har, har2⟩ := B.args
  obtain ⟨p0, p1, p2, p3, p4, q1, q2, r1, r2, r3, r4, r5, r6, r7, r8, hb, he, hsw, hs1, hs2⟩ := B.body
  obtain ⟨oc, od, kV, doc, pm, ct, an, osl, cc0, cda0, cl, ccl, cld, cdd, csl, ccs, fvs, file, tf, cdD, hfd, hf, hcd, hcell, hcode, hvs, hfile, hD⟩ := T.ex
  have S := B.sc
  have pvx : ∀ {X : Cx} {cda cc : Addr} (i : Nat) {x : Str} {pos : Pos}, X = cxI P w K mg base ["self", f1, f2] qual (defScope st) f cda cc A outer s H → (["self", f1, f2] : List Str)[i]? = some x → (x == ("__debug__" : Str)) = false → (x == ("__classdict__" : Str)) = false → PE X (.Name x pos) (tVar i) := by
    intro X cda cc i x pos hX hx h1 h2
    subst hX
    exact pe_var hx (.inl (S.loc x (List.mem_of_getElem? hx))) h1 h2
  refine ini_run (N := ["self", f1, f2]) (ps := ["self", f1, f2]) T S har (by rw [har2]; rfl) rfl rfl hb ha hdp e0 hbd r (fun cda cc X s1 hX I hcc hcda => ?_) (fun cda cc X hX => ?_)
  · obtain ⟨pl, he⟩ := he X.env
    refine super_first (pl := pl) hX (by rw [hX]; rfl) T ⟨_, _, _, hf⟩ (by rw [hfd]; exact har) hcc hcda ⟨_, hD⟩ S (by rw [har2]; rfl) rfl I ha (pa_cons (pvx 1 hX rfl B.d1 B.c1) (pa_cons (pvx 2 hX rfl B.d2 B.c2) pa_nil)) ?_ he rfl rfl (hsw _)
    exact ⟨v1, rfl, v2, rfl, rfl, by show 2 ≤ 1000; decide⟩
  · refine ⟨_, pss_cons (ps_ost (pvx 0 hX rfl (by decide) (by decide)) (pvx 1 hX rfl B.d1 B.c1) (hs1 _)) (pss_one (ps_ost (pvx 0 hX rfl (by decide) (by decide)) (pvx 2 hX rfl B.d2 B.c2) (hs2 _))), ?_⟩
    have hXK : X.K = K := by rw [hX]; rfl
    refine ⟨v1, rfl, _, rfl, a, C, rfl, by rw [hXK]; exact T.oex, by rw [hXK]; exact n1, .inl ⟨ha, fun d hd hda => ?_⟩⟩
    refine ⟨v2, rfl, _, rfl, a, C, rfl, by rw [hXK]; exact T.oex, by rw [hXK]; exact n2, .inr ⟨d, [(f1, v1)], upd_same, ?_, by show 1 ≤ 900; decide, k d hd hda⟩⟩
    rw [upd_ne hda, upd_same]
end
/-- x(e1, e2): the new exception's dict, with both fields -/
def tMk2 (C : Addr) (f1 f2 : Str) (ta : TA) : L2.St → Hp → XK → Prop := fun σ H Q => ta σ H fun vs H1 => ∃ v1 v2, vs = [v1, v2] ∧ ∀ d, H1 d = none → Q (.ref C) (some d) (upd H1 d (.xd [(f2, v2), (f1, v1)]))
theorem xd_heap {H : Hp} {a d : Addr} {o1 o2 o3 o4 o5 : HO} (ha : H a = none) (hda : d ≠ a) : upd (del (upd (upd (upd (upd H a o1) d o2) a o3) d o4) a) d o5 = upd H d o5 := by
  funext b
  by_cases h1 : b = d
  · subst h1
    rw [upd_same, upd_same]
  · rw [upd_ne h1, upd_ne h1]
    by_cases h2 : b = a
    · subst h2
      rw [del_same, ha]
    · rw [del_ne h2, upd_ne h1, upd_ne h2, upd_ne h1, upd_ne h2]
section
variable {X : Cx} {C fI : Addr} {fd : FuncData} {st : Stmt} {qual x f1 f2 : Str} {e1 e2 : Expr} {ta : TA} {p pos : Pos}
theorem pmk5_ini2 (T : IniT X.prog X.K C fI fd st qual) (B : Ini2 st f1 f2) (n1 : PySem.W.findIn X.K (.ref C) f1 = some none) (n2 : PySem.W.findIn X.K (.ref C) f2 = some none) (iC : PySem.W.findIn X.K (.ref C) "__init__" = some (some (.ref fI)))
    (tI : PySem.W.typeIn X.K (.ref fI) = some (.type "function")) (hbd : ∀ (s : Shared) (us : List Value), us.length = 3 → BindsTo s fd ⟨us, []⟩ ((["self", f1, f2] : List Str).zip us)) (hdp : X.A.depth + 1 < recursionLimit) (hg : Gl X x) (hm : X.mg x = some (.ref C)) (ha : PA X [e1, e2] ta)
    (hdb : (x == ("__debug__" : Str)) = false := by decide) (he : starEach [e1, e2] X.env = (false, eval e1 X.env) :: starEach [e2] X.env := by rfl) (hpl : (backTo pos (starEach [e2] X.env)).any (·.1) = false := by rfl) :
    L2H.PMk5 X (.Call (.Name x p) [e1, e2] [] pos) (tMk2 C f1 f2 ta) := by
  intro pins s σ H Q I h
  obtain ⟨nm, q, N, bs, bm, sn, sub, ab, col, dd, k0, k1, k2, k3, k5, hC, hbm⟩ := T.oex.cls
  refine wpAny_Call_Name_kw (ld_glob I hg hm ?_ hdb)
  refine PySem.W.callWith_K (h₀ := X.base) I.ok.mod.kin T.oex.kC (thn (ha.run pos pins s σ H _ I h) fun us s1 ⟨vs, H1, I1, r1, v1, v2, ev, q1⟩ => ⟨I1.kIn, ?_⟩) he hpl
  subst ev
  show wpAny _ _ (call (.ref C) us) _ _ _
  obtain ⟨hp, g, dr, tk, os⟩ := s1
  have hsz : hp.objs.size ≤ hp.objs.size + 1 := Nat.le_succ _
  have hn : H1 (hp.objs.size + 1) = none := I1.hok.fresh hsz
  have kk : ∀ b o, hp.get? b = some o → ((hp.push (PySem.W.kdv_tup us)).push (PySem.HandSPX.excO C hp.objs.size)).get? b = some o := fun b o e => Heap.get?_push_of_some _ (Heap.get?_push_of_some _ e)
  have hget : ((hp.push (PySem.W.kdv_tup us)).push (PySem.HandSPX.excO C hp.objs.size)).get? (hp.objs.size + 1) = some (PySem.HandSPX.excO C hp.objs.size) := by heap_get
  have I2 : Inv X pins σ (upd H1 (hp.objs.size + 1) (exo (hp.objs.size + 1) C none)) ⟨(hp.push (PySem.W.kdv_tup us)).push (PySem.HandSPX.excO C hp.objs.size), g, dr, tk, os⟩ :=
    I1.laid (t' := tk) (a := hp.objs.size + 1) (o := exo (hp.objs.size + 1) C none) (h' := (hp.push (PySem.W.kdv_tup us)).push (PySem.HandSPX.excO C hp.objs.size)) kk hsz (exo_ok hget)
  have l2 : us.length = 2 := r1.length.symm
  have r2 : Vals (V.ref (hp.objs.size + 1) :: [v1, v2]) (Value.ref (hp.objs.size + 1) :: us) := .cons rfl r1
  have hus : us.length ≤ sizeLine := by
    rw [l2, sizeLine_eq]
    decide
  have hsp : spIni2 C f1 f2 [.ref (hp.objs.size + 1), v1, v2] (upd H1 (hp.objs.size + 1) (exo (hp.objs.size + 1) C none))
      (fun v H2 => v = .non ∧ ∃ (d : Addr) (fs : List (Str × V)), H2 (hp.objs.size + 1) = some (exo (hp.objs.size + 1) C (some d)) ∧ H2 d = some (exd d fs) ∧ H1 d = none ∧ Q (.ref C) (some d) (upd (del H2 (hp.objs.size + 1)) d (.xd fs))) (fun _ _ _ => False) := by
    refine ⟨_, v1, v2, rfl, upd_same, fun d hd hda => ⟨rfl, d, [(f2, v2), (f1, v1)], ?_, upd_same, ?_, ?_⟩⟩
    · rw [upd_ne (Ne.symm hda), upd_same]
    · rw [upd_ne hda] at hd
      exact hd
    · rw [xd_heap hn hda]
      rw [upd_ne hda] at hd
      exact q1 d hd
  refine wpAny_call (PySem.HandSPX.call_own F.excBase_ValueError (fun Y => PySem.HandSPX.refsVE_contains Y bm hbm) (I1.kIn _ _ hC) (PySem.W.looks_findIn I1.kIn iC) (fun self => PySem.W.bind_fn I1.kIn self tI) hus
    (codeAny_mono (ini2_code (E := fun _ _ _ => False) T B n1 n2 hsp (by rw [make_depth]; exact hdp) (I2.env0.make C us []) (hbd _ (Value.ref (hp.objs.size + 1) :: us) (by rw [List.length_cons, l2])) r2) fun r s' hq' => ?_))
  cases r with
  | error er => exact (show False from hq').elim
  | ok fl =>
    cases fl with
    | ret u =>
      obtain ⟨v, H2, os2, bare2, un2, hok2, rv, ev, d, fs, ea, ed, hd1, q2⟩ := hq'
      subst ev
      obtain ⟨h2, g2, d2, t2, os'⟩ := s'
      obtain ⟨t0, G, J, kG, ge, hoe, na⟩ := mk_end0 (d2 := d2) (t2 := t2) I1 hsz kk un2 hok2 os2 bare2 ea ed hd1
      refine ⟨rv, ⟨hp.objs.size + 1, _, _, ⟨G, g2, d2, t2, os'⟩, _, .ref C, some d, rfl, J, kG, ge, hoe, ⟨rfl, rfl, fun vs hv => ?_⟩, rfl, rfl, na, rfl, bare2, raises_own T.oex.exC T.oex.tyC, q2⟩, fun a oe vs ea2 hg2 hd2 => ?_⟩
      · cases hv
        rfl
      · cases ea2
        cases hoe.symm.trans hg2
        cases hd2
        exact (by decide : 4 < 6)
    | next | brk | cont => exact False.elim hq'
end
/-- an exception that L2N tells of, for L2 -/
theorem pmk_of_N {X : Cx} {e : Expr} {t : L2.St → Hp → XK → Prop} (h : L2N.PMk X e t) : L2.PMk X e t := fun pins s σ H Q I q =>
  thn (h pins s σ H Q I q) fun u s' ⟨a, oe, vs, sI, H', cls, d, e1, J, k, hne, ha, hz, r⟩ => ⟨a, oe, vs, sI, H', cls, d, e1, J, k, hne, ha, hz.zc, r⟩
theorem cx_of_N {P : Program} {w : World} {outer : List Env} {H : Hp} {s : Shared} {E : XK} {u : Value} {s' : Shared} (h : L2N.CX P w outer H s E u s') : L2.CX P w outer H s E u s' := by
  obtain ⟨a, B, H', cls, d, e, fl, r⟩ := h
  exact ⟨a, B, H', cls, d, e, L2H.flyingZ_imp (fun o z => z.zc) fl, r⟩
theorem fnOk_cx {P : Program} {w : World} {K : PySem.W.Frag} {mg : Str → Option Value} {base : Heap} {CX CX' : CXT} {k : Nat} {f : Addr} {fd : FuncData} {ps : List Str} {sp : Sp} (F : FnOk P w K mg base CX k f fd ps sp)
    (h : ∀ outer H s E u s', CX outer H s E u s' → CX' outer H s E u s') : FnOk P w K mg base CX' k f fd ps sp :=
  ⟨F.len, fun A outer s H args us vs Q E hr e0 hb r hsp => codeAny_mono (F.run A outer s H args us vs Q E hr e0 hb r hsp) fun r s' hq => by
    cases r with
    | error e => exact h _ _ _ _ _ _ hq
    | ok fl => cases fl <;> exact hq⟩
/-- a def that may raise, whatever is told of the exception -/
theorem okC {P : Program} {w : World} {K : PySem.W.Frag} {mg : Str → Option Value} {base : Heap} {CX : CXT} {x qual : Str} {st : Stmt} {f : Addr} {fd : FuncData} {N ps : List Str} {k : Nat} {sp : Sp} (F : Fun K x qual st f fd) (S : FnScope N ps (defScope st)) (len : ∀ vs H Q E, sp vs H Q E → vs.length = ps.length)
    (hbody : ∀ (cdv : Value) (A : Around) (outer : List Env) (s : Shared) (H : Hp) (vs : List V) (Q : VK) (E : XK), Room k (A.deeper (envOfC qual (defScope st) s.heap.objs.size f cdv)) → sp vs H Q E →
      ∃ t, PSs (cxOf CX P w K mg base N qual (defScope st) f cdv A outer s H E) (defBody st) t ∧ t { nx := fun _ H' => Q .non H', rt := Q } (L2.start N vs) H) : FnOk P w K mg base CX (k + 1) f fd ps sp := by
  obtain ⟨oc, od, kV, doc, pm, an, cdv, ct, osl, rfl, lk, hcd⟩ := F.ex
  exact fn_of lk hcd S len fun A outer s H vs Q E hr hsp => hbody cdv A outer s H vs Q E hr hsp
end Og
set_option Elab.async false
set_option linter.all false
set_option maxRecDepth 100000
set_option maxHeartbeats 2000000
/-! try: .. except X as n: m = n. The exception is known from there on. -/
namespace Og
open PySem PySem.Spec PyProof.Rows L2
/-- at a: an exception of the class cls, its own dict d -/
def kex (a : Addr) (cls : Value) (d : Option Addr) : HO := .ext fun h => ∃ (oe : Obj) (vs : Array Value), h.get? a = some oe ∧ oe.cls = cls ∧ oe.dict = d ∧ oe.data = .fields vs
theorem kex_ok {P : Program} {w : World} {H : Hp} {h : Heap} {a : Addr} {cls : Value} {d : Option Addr} {oe : Obj} {vs : Array Value} (h1 : h.get? a = some oe) (h2 : Zc cls d oe) (h3 : oe.data = .fields vs) : ObjOk P w H h a (kex a cls d) :=
  ⟨⟨oe, vs, h1, h2.1, h2.2, h3⟩, ⟨oe, h1⟩, fun g1 g2 z k => by
    obtain ⟨o, v, e1, e2⟩ := z
    exact ⟨o, v, k _ e1, e2⟩⟩
theorem kex_at {P : Program} {w : World} {H : Hp} {h : Heap} {a : Addr} {cls : Value} {d : Option Addr} (hok : HOk P w H h) (e : H a = some (kex a cls d)) : ∃ (oe : Obj) (vs : Array Value), h.get? a = some oe ∧ oe.cls = cls ∧ oe.dict = d ∧ oe.data = .fields vs := by
  have x := hok a _ e
  exact (show _ ∧ _ ∧ _ from x).1
section
variable {X : Cx} {pins : List (Addr × Obj)} {σ : L2.St} {H : Hp} {s : Shared} {a : Addr} {o : HO}
/-- an object that is not tracked, younger than the entry, is tracked from now on -/
theorem track (I : Inv X pins σ H s) (n0 : X.s_0.heap.get? a = none) (na : H a = none) (nL : a ≠ X.env.locals) (nC : ∀ x c, X.env.cells.lookup x = some c → c ≠ a) (nP : ∀ p ∈ X.pn ++ pins, p.1 ≠ a) (ok : ObjOk X.prog X.w (upd H a o) s.heap a o) :
    Inv X pins σ (upd H a o) s := by
  have ne0 : ∀ {b : Addr} {ob : Obj}, X.s_0.heap.get? b = some ob → b ≠ a := fun e z => by
    rw [z, n0] at e
    cases e
  have neH : ∀ {b : Addr} {u : HO}, H b = some u → b ≠ a := fun e => ne_of_none e na
  refine ⟨I.ok, I.os, I.bare, ⟨I.base.keep, I.base.slot, fun b ob e n hx => ?_, I.base.there, fun b xs e => ?_, fun b ob u e => ?_, fun b ps e => ?_⟩, I.loc, I.cell, ?_, fun x c e => ?_, fun p hp => ?_, fun b u e => ?_, I.len⟩
  · rw [upd_ne (ne0 e)]
    exact I.base.free b ob e n hx
  · have z := I.base.tups b xs e
    rw [upd_ne (neH z)]
    exact z
  · have z := I.base.frzs b ob u e
    rw [upd_ne (neH z)]
    exact z
  · obtain ⟨m, z⟩ := I.base.tbls b ps e
    exact ⟨m, by rw [upd_ne (neH z)]; exact z⟩
  · rw [upd_ne (Ne.symm nL)]
    exact I.free
  · rw [upd_ne (nC x c e)]
    exact I.freeC x c e
  · obtain ⟨h1, h2, h3⟩ := I.pin p hp
    exact ⟨h1, by rw [upd_ne (nP p hp)]; exact h2, h3⟩
  · by_cases hb : b = a
    · subst hb
      rw [upd_same] at e
      cases e
      exact ok
    · rw [upd_ne hb] at e
      exact (I.hok b u e).stay (fun c v _ q => q) (fun c q => by rw [upd_ne (neH q)]; exact q) fun c xs q => by rw [upd_ne (neH q)]; exact q
/-- what the clause wishes: every exception is one of the class c; m (slot j) holds it behind the suite, n (slot i) is gone -/
def wKeep (K : PySem.W.Frag) (c : Value) (i j : Nat) (D : Ends) : WX := fun cls d σ H => PySem.W.exmOne K cls c = some true ∧ ∀ a, H a = none → D.nx (((σ.set i (some (.ref a))).set j (some (.ref a))).set i none) (upd H a (kex a cls d))
end
section
variable {X : Cx} {x n m : Str} {c : Value} {i j : Nat} {body : List Stmt} {np np2 mp ap pos pos' : Pos} {tb : WX → TS}
theorem ps_try_keep (hs : X.stack = X.env :: X.outer) (hf : X.env.frame = some X.env.locals) (hex : X.ex = []) (hN : X.N.Nodup) (hi : X.N[i]? = some n) (hln : X.env.kindOf n = some .local) (hj : X.N[j]? = some m) (hlm : X.env.scope.names.lookup m = some .local) (hc : Names X x c)
    (hb : ∀ (W : WX) (pn : List (Addr × Obj)) (xe : Value → Shared → Prop), Takes (X.tr pn xe) W → PassesOwn (model X.prog X.w) X.A X.env xe → PSs (X.tr pn xe) body (tb W))
    (hd : (n == ("__debug__" : Str)) = false := by decide) (hcd : (n == ("__classdict__" : Str)) = false := by decide) (hsw : swapsWith (.Name n np2) (some (.Name m mp)) ap.line X.env = pure false := by rfl) :
    PS X (.Try body [.ExceptHandler (some (.Name x np)) (some n) [.Assign [.Name m mp] (.Name n np2) ap] pos'] [] [] pos) (fun D σ H => tb (wKeep X.K c i j D) D σ H) := by
  refine ⟨fun pins s σ H D I h => ?_⟩
  have ok := I.ok
  have hfr : X.A.frames = some (X.env :: X.outer) := by rw [ok.frames, hs]
  refine wpAny_Try_except ?_
  refine wpAny_mono ((hb (wKeep X.K c i j D) (X.pn ++ pins) (fun e s₁ => wpAny (model X.prog X.w) X.A (noteFrame e X.env) (fun _ s₂ => wpAny (model X.prog X.w) X.A (setFlight e none) (fun _ s₃ =>
    wpAny (model X.prog X.w) X.A (handleBy e X.env [.ExceptHandler (some (.Name x np)) (some n) [.Assign [.Name m mp] (.Name n np2) ap] pos']) (SP X pins D) X.xe s₃) X.xe s₂) X.xe s₁) (fun u s' xx => ?_) PassesOwn.looking).run [] s σ H D (I.toTry _) h) (fun fl s1 hsp => ?_) fun e s1 he => he
  · obtain ⟨a, B, sI, pins', σ', H', cls, d, rfl, J', nb, up, sky, na, os, ag, hb1, hyes⟩ := xx
    have J : Inv X pins σ' H' sI := J'.ofTry ok
    rw [hs] at sky
    show wpAny (model X.prog X.w) X.A (noteFrame (.ref a) X.env) _ _ _
    refine Sky.land Zc.steady hfr hf sky fun h3 fl3 up3 => ?_
    have J3 : Inv X pins σ' H' { s' with heap := h3 } := J.landed nb fl3.1 (up.trans up3) os ag
    obtain ⟨oe3, vs3, he3, hz3, hd3⟩ := fl3.there
    have nfr : a ∉ frs (X.env :: X.outer) := fun hm => by
      obtain ⟨_, o', e', hnf⟩ := fl3.2.2.1.mem hm
      rw [he3] at e'
      cases e'
      exact hnf _ hd3
    have nL : a ≠ X.env.locals := fun z => nfr (List.mem_filterMap.mpr ⟨X.env, List.mem_cons_self, by rw [hf, z]⟩)
    have nF : a ∉ X.fs := fun hm => by
      obtain ⟨e, he, q⟩ := List.mem_filterMap.mp hm
      exact nfr (List.mem_filterMap.mpr ⟨e, List.mem_cons_of_mem _ he, q⟩)
    -- it is younger than what stood
    have nI : sI.heap.get? a = none := by
      cases q : sI.heap.get? a with
      | none => rfl
      | some o =>
        have z := nb a o q (by rw [hs]; exact nfr)
        rw [fl3.2.1] at z
        cases z
    have n0 : X.s_0.heap.get? a = none := by
      cases q : X.s_0.heap.get? a with
      | none => rfl
      | some o =>
        obtain ⟨o', z⟩ := J.base.there a o q (by rw [hex]; exact fun z => nomatch z)
        rw [nI] at z
        cases z
    have nP : ∀ p ∈ X.pn ++ pins, p.1 ≠ a := fun p hp z => by
      have q := (J.pin p hp).1
      rw [z, nI] at q
      cases q
    have S3 := J3.suite he3 hd3 na nL nF
    refine wpAny_handleBy_cons (codeAny_handlers_test ?_) (by intro q; cases q)
    have LT : PySem.W.Looks (model X.prog X.w) h3 (typeOf (.ref a)) cls := fun A Q E s k q => wpAny_typeOf_ref (k _ _ he3) (by rw [hz3.1]; exact q)
    have LM := PySem.W.exm_one (M := model X.prog X.w) (J3.kIn) LT hb1
    have test : ∀ {Q : Value → Shared → Prop} {E : Value → Shared → Prop}, Q c { s' with heap := h3 } → wpAny (model X.prog X.w) (X.A.mark (some (.ref a))) (eval (.Name x np) X.env) Q E { s' with heap := h3 } := fun {Q E} q => by
      obtain ⟨hg, hdbg, hm | ⟨hm, hv, hnn⟩⟩ := hc
      · exact ld_glob (X := X.suite a ((a, oe3) :: (X.pn ++ pins))) S3 hg hm q hdbg
      · exact ld_blt (X := X.suite a ((a, oe3) :: (X.pn ++ pins))) S3 hg hm hv q hnn hdbg
    refine test (LM.here ?_)
    refine codeAny_handlers_suite_as ?_
    refine HandSPX.lands_againZ fl3 fun h4 fl4 up4 => ?_
    have J4 : Inv X pins σ' H' { s' with heap := h4 } := J.landed nb fl4.1 ((up.trans up3).trans up4) os ag
    obtain ⟨oe4, vs4, he4, hz4, hd4⟩ := fl4.there
    have S4 := J4.suite he4 hd4 na nL nF
    refine store_ok (X := X.suite a ((a, oe4) :: (X.pn ++ pins))) (v := .ref a) S4 hN hi (.inl hln) rfl (fun s5 S5 => ?_) (.inr hln)
    have hi' : i < σ'.length := by
      rw [J.len]
      exact (List.getElem?_eq_some_iff.mp hi).1
    have suite : PSs (X.suite a ((a, oe4) :: (X.pn ++ pins))) [.Assign [.Name m mp] (.Name n np2) ap] (tAsg (tVar i) (gName j)) := pss_one (ps_set hN hj (.inl hlm) (pe_var hi (.inl hln) hd hcd) hsw (.inr hlm))
    refine wpAny_mono (suite.run [] s5 _ H' { nx := fun σ6 H6 => σ6 = (σ'.set i (some (.ref a))).set j (some (.ref a)) ∧ H6 = H', rt := fun _ _ => False } S5 ⟨.ref a, List.getElem?_set_self hi', rfl, rfl⟩) (fun f s6 hsp => ?_) fun _ _ z => False.elim z
    cases f with
    | next =>
      obtain ⟨σ6, H6, S6, rfl, rfl⟩ := hsp
      refine gone_ok (X := X.suite a ((a, oe4) :: (X.pn ++ pins))) S6 hN hi hln fun s7 S7 => ?_
      obtain ⟨g1, g2, _, _, g5⟩ := S7.pin (a, oe4) (List.mem_append_left _ List.mem_cons_self)
      have J7 : Inv X pins _ H6 s7 := S7.unsuite ok
      refine ⟨_, _, track J7 n0 na nL (fun y c e z => ?_) nP (kex_ok g1 hz4 hd4), hyes a na⟩
      obtain ⟨v, o', e1, e2⟩ := J7.cell y c e
      rw [z, g1] at e1
      cases e1
      exact g5 v e2
    | brk =>
      obtain ⟨_, _, _, q⟩ := hsp
      exact False.elim q
    | cont =>
      obtain ⟨_, _, _, q⟩ := hsp
      exact False.elim q
    | ret u =>
      obtain ⟨_, _, _, _, _, q⟩ := hsp
      exact False.elim q
  · cases fl with
    | next =>
      obtain ⟨σ', H', J', q⟩ := hsp
      exact wpAny_execs_nil ⟨σ', H', J'.ofTry ok, q⟩
    | brk =>
      obtain ⟨σ', H', J', q⟩ := hsp
      exact ⟨σ', H', J'.ofTry ok, q⟩
    | cont =>
      obtain ⟨σ', H', J', q⟩ := hsp
      exact ⟨σ', H', J'.ofTry ok, q⟩
    | ret u =>
      obtain ⟨v, σ', H', J', r, q⟩ := hsp
      exact ⟨v, σ', H', J'.ofTry ok, r, q⟩
end
end Og
set_option Elab.async false
set_option linter.all false
set_option maxRecDepth 100000
set_option maxHeartbeats 2000000
/-! An exception that is kept: isinstance, its fields. -/
namespace Og
open PySem PySem.Spec PyProof.Rows L2
section
variable {X : Cx} {pins : List (Addr × Obj)} {σ : L2.St} {H : Hp} {s : Shared} {a D dd : Addr} {fs : List (Str × V)}
theorem kex_inst (I : Inv X pins σ H s) (ha : H a = some (kex a (.ref D) (some dd))) (hd : H dd = some (.xd fs)) : ∃ oe od, PySem.W.InstAt s.heap a oe D (some od) ∧ ∀ n, ∃ mA : Str → Option Value, PySem.W.lookIn n od = some (mA n) ∧ RelO (fs.lookup n) (mA n) := by
  obtain ⟨oe, vs, h1, h2, h3, h4⟩ := kex_at I.hok ha
  obtain ⟨mA, hns, hr⟩ := (show ObjOk X.prog X.w H s.heap dd (.xd fs) from I.hok dd _ hd)
  obtain ⟨od, ho, hl⟩ := lookIn_ns hns
  exact ⟨oe, od, ⟨h1, h2, by unfold PySem.W.notCls; rw [h4] <;> rfl, by rw [h3]; exact ho⟩, fun n => ⟨mA, hl n, hr n⟩⟩
end
def rIsiX (K : PySem.W.Frag) : List V → Hp → VK → Prop := fun xs H Q => ∃ (a D dd : Addr) (fs : List (Str × V)) (c : V) (cv : Value) (b : Bool), xs = [.ref a, c] ∧ H a = some (kex a (.ref D) (some dd)) ∧ H dd = some (.xd fs) ∧ ExcC K D ∧ ClsV c cv ∧
  PySem.W.kitOne K (.ref D) cv = some b ∧ Q (.bl b) H
theorem call_isiX {X : Cx} : CallR X (.builtin "isinstance") (rIsiX X.K) := by
  intro pins s σ H xs us Q I r h
  obtain ⟨a, D, dd, fs, c, cv, b, rfl, ha, hd, C, hc, e, q⟩ := h
  obtain ⟨u, w', rfl, ru, rw'⟩ := vals2 r
  obtain rfl : u = Value.ref a := ru
  obtain rfl : w' = cv := hc.eq rw'
  obtain ⟨oe, od, J, _⟩ := kex_inst I ha hd
  have hcl : (PySem.W.clsIn X.K D).isSome = true := by
    obtain ⟨cd, hc, _⟩ := PySem.W.any_some C.hd
    rw [hc]
    rfl
  exact PySem.W.kia_one (PySem.W.kitx_exc hcl C.hg C.hk C.hs C.ha C.hn C.ht C.hm) I.kIn J e (fun z => nomatch z) fun tk => ⟨.bl b, H, I.kept (t' := tk) fun _ _ z => z, rfl, q⟩
/-- e.f of a kept exception -/
def tXk (K : PySem.W.Frag) (f : Str) (te : TE) : TE := fun σ H Q => te σ H fun x H1 => ∃ (a D dd : Addr) (fs : List (Str × V)) (v : V), x = .ref a ∧ H1 a = some (kex a (.ref D) (some dd)) ∧ H1 dd = some (.xd fs) ∧ XfC K D ∧ PySem.W.findIn K (.ref D) f = some none ∧ fs.lookup f = some v ∧ Q v H1
theorem pe_xk {X : Cx} {e : Expr} {te : TE} {pos : Pos} {n : Str} (he : PE X e te) (hb : attributeBase e n X.env (eval e X.env) = eval e X.env := by rfl) : PE X (.Attribute e n pos) (tXk X.K n te) := by
  refine ⟨fun pins s σ H Q I h => attr_of hb (thn (he.run pins s σ H _ I h) fun u s1 hh => ?_)⟩
  obtain ⟨x, H1, I1, rx, a, D, dd, fs, v, rfl, ha, hd, T, hno, l, q⟩ := hh
  obtain rfl : u = Value.ref a := rx
  obtain ⟨oe, od, J, hl⟩ := kex_inst I1 ha hd
  obtain ⟨mA, h1, h2⟩ := hl n
  rw [l] at h2
  obtain ⟨u, hu, ru⟩ := RelO.some_of h2
  exact HandSPX.exc_get I1.kIn J T.ga T.gg T.exC (PySem.W.findObj_own T.hdC hno rfl (by rw [h1, hu])) (handed_of ru) ⟨v, H1, I1.tok _, ru, q⟩
end Og
set_option Elab.async false
set_option linter.all false
set_option maxRecDepth 100000
set_option maxHeartbeats 2000000
/-! A list comprehension whose element may raise: the exception flies on out of the def's own frame. -/
namespace Og
open PySem PySem.Spec PyProof.Rows L2

/-- the block's context; what it does with an exception: noted by the frame, the block let go, passed on -/
abbrev blkX (X : Cx) (s : Shared) (H : Hp) (scope : Scope) (cenv : Env) (fp : List Addr) : Cx :=
  { X.blk s H scope cenv fp with xe := notedBy (model X.prog X.w) X.A cenv (CompFails (model X.prog X.w) X.A X.xe cenv) }

section
variable {X : Cx} {pins : List (Addr × Obj)} {σ : L2.St} {H H' : Hp} {s s' : Shared} {B : Heap} {W : WX}
/-- an exception over the ground B, held at the def's frame -/
theorem xe_held {a : Addr} {cls : Value} {d : Option Addr} (I : Inv X pins σ H s) (hB : HandSPX.HeldZ B X.stack a (Zc cls d) X.env.locals s'.heap) (hok : HOk X.prog X.w H' B) (ub : UB (frs X.stack) H H' s.heap B s'.heap) (na : H' a = none) (os : s'.os = s.os) (ag : AllBare s'.gens) (w : W cls d σ H') : XE X W (.ref a) s' := by
  obtain ⟨G, g1, g2⟩ := restrict s'.heap fun b => (B.get? b).isSome || decide (b ∈ frs X.stack)
  have st : B.StaysIn s'.heap := hB.1
  have gB : ∀ b o, B.get? b = some o → G.get? b = some o := fun b o e => (g1 b (by simp [e])).trans (st b o e)
  have gF : ∀ b, b ∈ frs X.stack → G.get? b = s'.heap.get? b := fun b hb => g1 b (by simp [hb])
  have og : ∀ b o, G.get? b = some o → s'.heap.get? b = some o ∧ ((B.get? b).isSome = true ∨ b ∈ frs X.stack) := fun b o e => by
    rcases Bool.eq_false_or_eq_true ((B.get? b).isSome || decide (b ∈ frs X.stack)) with q | q
    · rw [g1 b q] at e
      exact ⟨e, by simpa [Bool.or_eq_true] using q⟩
    · rw [g2 b q] at e
      cases e
  have J : Inv X pins σ H' { s with heap := G, gens := s'.gens, drawn := s'.drawn, toks := s'.toks } := by
    refine I.call (ch := []) ?_ (hok.kept gB) ag (fun _ z => nomatch z)
    refine { keep := fun b o e n hb _ => gB b o (ub.keep b o e n hb), slot := fun b o e n hb _ => ?_, free := fun b o e n _ => ub.free b o e n, there := fun b o e _ => ?_, tups := ub.tups, frzs := ub.frzs, tbls := ub.tbls }
    · obtain ⟨sl, q⟩ := ub.slot b o e hb
      exact ⟨sl, (gF b hb).trans q⟩
    · by_cases hb : b ∈ frs X.stack
      · obtain ⟨sl, q⟩ := ub.slot b o e hb
        exact ⟨_, (gF b hb).trans q⟩
      · obtain ⟨o', q⟩ := ub.there b o e hb
        exact ⟨o', gB b o' q⟩
  refine ⟨a, B, _, pins, σ, H', cls, d, rfl, J, fun b o e hb => ?_, Heap.UpToSlots.of_keeps fun b o e => (og b o e).1, .inr (.inr hB), na, os, ag, w⟩
  obtain ⟨e', h⟩ := og b o e
  rcases h with h | h
  · obtain ⟨o', q⟩ := Option.isSome_iff_exists.mp h
    have z := (st b o' q).symm.trans e'
    cases z
    exact q
  · exact absurd h hb
theorem upSlots_ns {h h' : Heap} {L : Addr} {m : Str → Option Value} (hn : h.Ns L m) (u : h.UpToSlots h') : h'.Ns L m := by
  obtain ⟨o, es, ep, ho, hd, r⟩ := hn
  obtain ⟨sl, e⟩ := u L o ho fun vs q => by rw [hd] at q; cases q
  exact ⟨_, es, ep, e, hd, r⟩
/-- HeldZ through a change of the block's names, over a ground without them -/
theorem held_let {L a C : Addr} {Z : Obj → Prop} {l : List Env} {h h' : Heap} {m m' : Str → Option Value} (x : HandSPX.HeldZ B l a Z L h) (hC : B.get? C = none) (n : h.Ns C m) (n' : h'.Ns C m') (hs : Heap.SameBut C h h') : HandSPX.HeldZ B l a Z L h' := by
  obtain ⟨b1, b2, b3, oe, vs, T, oT, ts, he, hz, hd, h1, hnT, hTe, hT, hdT, h3⟩ := x
  obtain ⟨oC, es, ep, eC, dC, _⟩ := n
  have nC : ∀ {b : Addr} {o : Obj} {ws : Array Value}, h.get? b = some o → o.data = .fields ws → b ≠ C := fun {b o ws} e1 e2 q => by
    rw [q, eC] at e1
    cases e1
    rw [dC] at e2
    cases e2
  exact ⟨fun b o e => (hs.2 b fun q => by rw [q, hC] at e; cases e).trans (b1 b o e), b2, Heap.FunFrames.sameBut hs n' b3, oe, vs, T, oT, ts, (hs.2 a (nC he hd)).trans he, hz, hd, h1, hnT, hTe, (hs.2 T (nC hT hdT)).trans hT, hdT, h3⟩
/-- an exception that the block's element lets out -/
theorem blk_passes {scope : Scope} {cenv : Env} {fp : List Addr} {E : XK} (hs : X.stack = X.env :: X.outer) (hf : X.env.frame = some X.env.locals) (hcf : cenv.frame = X.env.frame) (hC : cenv.locals = s.heap.objs.size) (tk : Takes X W) (hW : ∀ cls d H, E cls d H → W cls d σ H)
    (I : Inv X pins σ H s) (f3 : ∀ b ∈ fp, FpOk X pins H b) : Passes (L2.CX X.prog X.w) (blkX X s H scope cenv fp) E := by
  intro pins' σ' H5 s5 u s6 I' c
  obtain ⟨a, B, H', cls, d, rfl, fl, hok, ub, na, os, ag, hE⟩ := c
  -- before the call, back in the def's context
  have J : Inv X pins σ H5 s5 := I.call' (ch := fp) I'.os I'.base I'.hok I'.bare fun b hb => ⟨(f3 b hb).2.2.2.1, (f3 b hb).2.1, (f3 b hb).2.2.2.2.1, (f3 b hb).2.2.2.2.2⟩
  have nC : H5 cenv.locals = none := I'.free
  have FC : FpOk X pins H5 cenv.locals := I.fpOk (Nat.le_of_eq hC.symm) nC
  obtain ⟨m, hn, _⟩ := I'.loc
  have hn : s5.heap.Ns cenv.locals m := hn
  have stkC : cenv.locals ∉ frs X.stack := fun hm => by
    have z := I.stkSub _ hm
    rcases List.mem_cons.mp z with z | z
    · exact FC.2.1 z
    · exact FC.2.2.1 z
  -- the ground, without the block's names
  have hfr : X.A.frames = some (X.env :: X.outer) := by rw [J.ok.frames, hs]
  have fl0 : HandSPX.FlyingZ B (X.env :: X.outer) a (Zc cls d) s6.heap := by rw [← hs]; exact fl
  show wpAny (model X.prog X.w) X.A (noteFrame (.ref a) cenv) _ _ s6
  rw [noteFrame_env _ hcf]
  refine HandSPX.looks_onZ Zc.steady hfr hf fl0 fun h7 hh7 up7 => ?_
  -- C in the ground
  obtain ⟨oC, es, ep, eC, dC, rC⟩ := hn
  have bC : B.get? cenv.locals = some oC := ub.keep _ _ eC nC stkC
  have n6 : s6.heap.Ns cenv.locals m := ⟨oC, es, ep, fl.1 _ _ bC, dC, rC⟩
  have n7 : h7.Ns cenv.locals m := upSlots_ns n6 up7
  have gb : ∀ b o, (PySem.W.hideAll B [cenv.locals]).get? b = some o → B.get? b = some o ∧ b ≠ cenv.locals := fun b o e => ⟨PySem.W.of_hideAll _ e, fun q => by rw [PySem.W.hideAll_none _ (by rw [q]; exact List.mem_cons_self)] at e; cases e⟩
  have bg : ∀ b o, B.get? b = some o → b ≠ cenv.locals → (PySem.W.hideAll B [cenv.locals]).get? b = some o := fun b o e hne => PySem.W.hideAll_get _ e (by simpa using hne)
  refine ⟨m, n7, fun h8 m8 n8 sb8 => ?_⟩
  obtain ⟨k1, k2, k3, k4⟩ := hh7
  have hB0 : (PySem.W.hideAll B [cenv.locals]).get? cenv.locals = none := PySem.W.hideAll_none _ List.mem_cons_self
  have gnone : ∀ {b : Addr}, B.get? b = none → (PySem.W.hideAll B [cenv.locals]).get? b = none := fun {b} e => by
    cases q : (PySem.W.hideAll B [cenv.locals]).get? b with
    | none => rfl
    | some o =>
      rw [(gb _ _ q).1] at e
      cases e
  have held7 : HandSPX.HeldZ (PySem.W.hideAll B [cenv.locals]) (X.env :: X.outer) a (Zc cls d) X.env.locals h7 := by
    obtain ⟨oe, vs, T, oT, ts, he, hz, hd, h1, hnT, r⟩ := k4
    refine ⟨fun b o e => k1 b o (gb b o e).1, gnone k2, funFrames_none k3 fun b hb => ?_, oe, vs, T, oT, ts, he, hz, hd, h1, gnone hnT, r⟩
    exact gnone (k3.mem hb).1
  have held8 := held_let held7 hB0 n7 n8 sb8
  unfold PySem.passOn
  have fld := held8.2.2.2
  obtain ⟨oe, vs, T, oT, ts, he, hz, hd, h1, hnT, r⟩ := fld
  refine wpAny_bind (wpAny_field he hd h1 ?_)
  rw [if_neg (show ¬ ((Value.ref T == Value.none) = true) from by simp)]
  rw [hcf, hf]
  refine wpAny_bind (HandSPX.setFlight_onZ held8 fun h9 held9 up9 => wpAny_throw ?_)
  refine tk _ _ (xe_held (H := H5) (H' := H') (s := { s5 with heap := PySem.W.hideAll s5.heap [cenv.locals] }) (B := PySem.W.hideAll B [cenv.locals]) (pins := pins) (σ := σ) ?_ (by rw [hs]; exact held9) ?_ ?_ na os ag (hW _ _ _ hE))
  · exact J.turned (t' := s5.toks) (fun b o hb e => PySem.W.hideAll_get _ e (by simpa using hb)) FC.1 FC.2.1 FC.2.2.2.1 FC.2.2.2.2.1 FC.2.2.2.2.2
  · have nC' : H' cenv.locals = none := ub.free _ _ eC nC
    exact fun b u e => (hok b u e).stay (fun c v hc q => bg c v q fun z => by
      rcases hc with hc | hc
      · rw [← hc, z, nC'] at e
        cases e
      · rw [z, nC'] at hc
        cases hc) (fun _ q => q) fun _ _ q => q
  · have hid : ∀ b o, (PySem.W.hideAll s5.heap [cenv.locals]).get? b = some o → s5.heap.get? b = some o ∧ b ≠ cenv.locals := fun b o e => ⟨PySem.W.of_hideAll _ e, fun q => by rw [PySem.W.hideAll_none _ (by rw [q]; exact List.mem_cons_self)] at e; cases e⟩
    refine ⟨fun b o e n hb => bg b o (ub.keep b o (hid b o e).1 n hb) (hid b o e).2, fun b o e hb => ?_, fun b o e n => ub.free b o (hid b o e).1 n, fun b o e hb => ?_, ub.tups, ub.frzs, ub.tbls⟩
    · obtain ⟨e1, hne⟩ := hid b o e
      obtain ⟨sl, q⟩ := ub.slot b o e1 hb
      obtain ⟨_, of, ef, nf⟩ := J.stack.mem hb
      have nf : ∀ vs, o.data ≠ .fields vs := by
        rw [e1] at ef
        cases ef
        exact nf
      obtain ⟨sl7, q7⟩ := up7 b _ q nf
      obtain ⟨sl9, q9⟩ := up9 b _ ((sb8.2 b hne).trans q7) nf
      exact ⟨sl9, q9⟩
    · obtain ⟨o', q⟩ := ub.there b o (hid b o e).1 hb
      exact ⟨o', bg b o' q (hid b o e).2⟩
end
section
variable {X : Cx}
/-- [elt for tg in iter if ..], as a value; what the element's calls let out is taken by W -/
theorem pe_lcX {W : WX} {elt tg iter : Expr} {ifs : List Expr} {scope : Scope} {own : List (Str × Nat)} {pos : Pos} {wi : TI} {g : TG} {tt : TT} {te : XK → TE} (hs : X.stack = X.env :: X.outer) (hf : X.env.frame = some X.env.locals) (tk : Takes X W)
    (hc : X.calm = true) (hN : X.N.Nodup) (hi : PI X tg iter wi) (ok : BlkOk X.N X.env.scope scope own)
    (hg : ∀ (s : Shared) (H : Hp) (C : Addr) (cl : List (Str × Addr)) (fp : List Addr), PG (blkX X s H scope (compEnvC scope cl C X.env) fp) tg g) (ht : ∀ (s : Shared) (H : Hp) (C : Addr) (cl : List (Str × Addr)) (fp : List Addr), PTs (blkX X s H scope (compEnvC scope cl C X.env) fp) ifs tt)
    (he : ∀ (s : Shared) (H : Hp) (C : Addr) (cl : List (Str × Addr)) (fp : List Addr) (E : XK), Passes (L2.CX X.prog X.w) (blkX X s H scope (compEnvC scope cl C X.env) fp) E → PE (blkX X s H scope (compEnvC scope cl C X.env) fp) elt (te E)) (hfs : ∀ x, foldedSetIterable iter X.env x = pure x := by intro _; rfl) :
    PE X (.ListComp elt [⟨tg, iter, ifs, 0⟩] scope pos) (fun σ H Q => tLc wi g tt (te fun c d H => W c d σ H) (own.map (·.2)) σ H Q) := by
  refine ⟨fun pins s σ H Q I h => ?_⟩
  rw [eval_ListComp]
  have hfree : ∀ y ∈ scope.names, y.2 = .free → ∃ c, X.env.cells.lookup y.1 = some c := fun y hy e => (ok.free y hy e).elim (fun k => I.ok.has _ (.inl k)) (fun k => I.ok.has _ (.inr k))
  refine comprehension_at (use := none) rfl hfs (closure_ok hfree) ok.kind (fun y hy e => by rw [ok.uniq y hy, e]) ?_
  refine thn (hi.run pins s σ H _ I h) fun xv s1 hx => thn hx fun itv s2 h2 => ?_
  obtain ⟨it, fp, tn, J, H2, e, I2, T, st2, f2, q⟩ := h2
  subst e
  refine wpAny_newObj_type (newEnv_comp ?_) (by show 0 ≤ sizeLine; decide)
  generalize hD : s2.heap.objs.size = D
  have hDn : H2 D = none := I2.hok.fresh (Nat.le_of_eq hD)
  obtain ⟨V, ⟨m0, v0⟩, turn⟩ := q D hDn
  generalize hs3 : ({ s2 with heap := s2.heap.push { cls := .type "list", data := .seq ([] : List Value).toArray } } : Shared) = s3
  have h3 : s3.heap = s2.heap.push { cls := .type "list", data := .seq ([] : List Value).toArray } := by rw [← hs3]
  have I3 : Inv X pins σ (upd H2 D (.lst [])) s3 := by
    rw [← hs3]
    exact I2.laid (t' := s2.toks) (fun b o e => Heap.get?_push_of_some _ e) (Nat.le_of_eq hD) ⟨Nat.zero_le _, [], 0, .nil, by rw [← hD]; exact Heap.get?_push_size _ rfl⟩
  have f3 : ∀ b ∈ fp, FpOk X pins (upd H2 D (.lst [])) b ∧ b < s3.heap.objs.size := fun b hb => by
    obtain ⟨o, e, _⟩ := T.obj _ _ st2 b hb
    have hlt := Heap.lt_size e
    exact ⟨⟨by rw [upd_ne (by rw [← hD]; exact Nat.ne_of_lt hlt)]; exact (f2 b hb).1, (f2 b hb).2⟩, by rw [h3, Heap.size_push]; exact Nat.lt_succ_of_lt hlt⟩
  have st3 : tn 0 s3.heap := T.keep _ _ _ st2 fun b _ o e => by rw [h3]; exact Heap.get?_push_of_some _ e
  have I4 := block_start I3 ok hN f3
  have pg := hg s3 (upd H2 D (.lst [])) s3.heap.objs.size (cellsFrom (s3.heap.objs.size + 1) scope.names (cloFrom X.env.cells scope.names [])) fp
  have pt := ht s3 (upd H2 D (.lst [])) s3.heap.objs.size (cellsFrom (s3.heap.objs.size + 1) scope.names (cloFrom X.env.cells scope.names [])) fp
  have pe := he s3 (upd H2 D (.lst [])) s3.heap.objs.size (cellsFrom (s3.heap.objs.size + 1) scope.names (cloFrom X.env.cells scope.names [])) fp (fun c d H => W c d σ H)
    (blk_passes (W := W) hs hf rfl rfl tk (fun _ _ _ z => z) I3 fun b hb => (f3 b hb).1)
  show codeAny _ _ (.compStart (.ListComp elt [⟨tg, iter, ifs, 0⟩] scope pos) 0 (.ref it) (.ref D) (compEnvC scope (cellsFrom (s3.heap.objs.size + 1) scope.names (cloFrom X.env.cells scope.names [])) s3.heap.objs.size X.env))
    (compEnds (model X.prog X.w) X.A X.xe none (EP X pins σ Q) (.ref D) (compEnvC scope (cellsFrom (s3.heap.objs.size + 1) scope.names (cloFrom X.env.cells scope.names [])) s3.heap.objs.size X.env)) { s3 with heap := pushCells (s3.heap.push { cls := .type "dict", data := .dict #[] }) scope.names }
  have nfp : ∀ b ∈ fp, (upd H2 D (.lst [])) b = none := fun b hb => (f3 b hb).1.1
  have I4 : Inv (blkX X s3 (upd H2 D (.lst [])) scope (compEnvC scope (cellsFrom (s3.heap.objs.size + 1) scope.names (cloFrom X.env.cells scope.names [])) s3.heap.objs.size X.env) fp) [] (wipe σ (own.map (·.2))) (upd H2 D (.lst [])) { s3 with heap := pushCells (s3.heap.push { cls := .type "dict", data := .dict #[] }) scope.names } :=
    ⟨⟨I4.ok.mod, I4.ok.kind, I4.ok.glob, I4.ok.blt, I4.ok.above, I4.ok.inj, I4.ok.has, I4.ok.cab, I4.ok.hd, I4.ok.frames, I4.ok.stk, I4.ok.exf, I4.ok.bs, I4.ok.bsz, I4.ok.noex, I4.ok.exfs, I4.ok.funs, I4.ok.frf⟩, I4.os, I4.bare, I4.base, I4.loc, I4.cell, I4.free, I4.freeC, I4.pin, I4.hok, I4.len⟩
  generalize hce : compEnvC scope (cellsFrom (s3.heap.objs.size + 1) scope.names (cloFrom X.env.cells scope.names [])) s3.heap.objs.size X.env = ce at I4 pg pt pe ⊢
  have cL : ce.locals = s3.heap.objs.size := by subst hce; rfl
  generalize hH3 : upd H2 D (.lst []) = H3 at I3 I4 pg pt pe v0 nfp f3
  generalize hs4 : ({ s3 with heap := pushCells (s3.heap.push { cls := .type "dict", data := .dict #[] }) scope.names } : Shared) = s4 at I4 ⊢
  have st4 : tn 0 s4.heap := T.keep _ _ _ st3 fun b _ o e => by rw [← hs4]; exact pushCells_keeps _ _ _ _ (Heap.get?_push_of_some _ e)
  have stat : ∀ {σ' : L2.St} {H' : Hp} {s' : Shared}, Inv (blkX X s3 H3 scope ce fp) [] σ' H' s' → (∀ b ∈ fp, H' b = none) → ∀ b ∈ fp, FpOk (blkX X s3 H3 scope ce fp) [] H' b := fun {σ' H' s'} I' hn b hb =>
    ⟨hn b hb, (I'.ok.exf b hb).1, I'.ok.exfs b hb, .inl hb, fun x c e => (I'.ok.exf b hb).2 x c e, fun p hp => absurd (show p ∈ ([] : List (Addr × Obj)) ++ [] from hp) (by simp)⟩
  have loop : codeAny (model X.prog X.w) X.A (.compLoop (.ListComp elt [⟨tg, iter, ifs, 0⟩] scope pos) 0 (.ref it) (.ref D) ce) (compEnds (model X.prog X.w) X.A X.xe none (EP X pins σ Q) (.ref D) ce) s4 := by
    refine compLoop_any (fun n s' => ∃ i H', Inv (blkX X s3 H3 scope ce fp) [] (wipe σ (own.map (·.2))) H' s' ∧ tn i s'.heap ∧ (∀ b ∈ fp, H' b = none) ∧ V i n H') ?_ m0 ⟨0, H3, I4, st4, nfp, v0⟩
    rintro n s5 ⟨i, H5, I5, st5, n5, v5⟩
    rcases turn i n H5 v5 with ⟨stop, qq⟩ | ⟨go, Nx, hNx, step⟩
    · have td := T.done (blkX X s3 H3 scope ce fp) rfl rfl rfl hc i [] s5 _ H5 (fun _ _ => False) I5 (stat I5 n5) st5 stop
      refine thnF td fun r s6 ⟨hr, I6⟩ => ?_
      subst hr
      have I7 : Inv X pins σ H5 s6 := I3.call' (ch := fp) I6.os I6.base I6.hok I6.bare fun b hb => ⟨(f3 b hb).1.2.2.2.1, (f3 b hb).1.2.1, (f3 b hb).1.2.2.2.2.1, (f3 b hb).1.2.2.2.2.2⟩
      have nC : H5 ce.locals = none := I6.free
      obtain ⟨m, hn, _⟩ := I6.loc
      have FC : FpOk X pins H5 ce.locals := I3.fpOk (Nat.le_of_eq cL.symm) nC
      exact ⟨m, hn, fun h'' sb => ⟨.ref D, H5, I7.turned (t' := s6.toks) (fun b o hb e => (sb.2 b hb).trans e) FC.1 FC.2.1 FC.2.2.2.1 FC.2.2.2.2.1 FC.2.2.2.2.2, rfl, qq⟩⟩
    · have ti := T.item (blkX X s3 H3 scope ce fp) rfl rfl rfl hc i [] s5 _ H5 (fun _ _ => False) I5 (stat I5 n5) st5 go
      refine thnF ti fun r s6 ⟨u, hr, h6⟩ => ?_
      subst hr
      refine thnF h6 fun _ s7 ⟨x, H7, I7, r7, y7, st7, n7⟩ => ?_
      have I7' := I7.pinned (stat I7 n7) (T.obj _ _ st7)
      refine wpAny_mono (pg.run _ s7 _ H7 x u _ I7' r7 (step x H7 y7)) (fun _ s8 ⟨σ8, H8, I8, hw8, q8⟩ => ?_) fun _ _ z => z
      refine wpAny_mono (pt.run _ s8 σ8 H8 _ I8 q8) (fun b s9 ⟨H9, I9, q9⟩ => ?_) fun _ _ z => z
      have fin : ∀ {s' : Shared} {H' : Hp}, Inv (blkX X s3 H3 scope ce fp) ([] ++ pinsAt fp s7.heap) σ8 H' s' → Nx H' → ∃ m, m < n ∧ ∃ i H', Inv (blkX X s3 H3 scope ce fp) [] (wipe σ (own.map (·.2))) H' s' ∧ tn i s'.heap ∧ (∀ b ∈ fp, H' b = none) ∧ V i m H' := fun {s' H'} I' nx => by
        obtain ⟨m', hm, v'⟩ := hNx H' nx
        have pin' : ∀ b ∈ fp, ∀ o, s7.heap.get? b = some o → s'.heap.get? b = some o ∧ H' b = none := fun b hb o e =>
          let z := I'.pin (b, o) (List.mem_append_right _ (List.mem_append_right _ (mem_pinsAt hb e)))
          ⟨z.1, z.2.1⟩
        refine ⟨m', hm, i + 1, H', (I'.unpinned (pins := [])).weak (by rw [← hw8, wipe_length]) (fun j v e => ?_), T.keep _ _ _ st7 fun b hb o e => (pin' b hb o e).1, fun b hb => ?_, v'⟩
        · rw [← hw8] at e
          exact (wipe_some e).1
        · obtain ⟨o, e, _⟩ := T.obj _ _ st7 b hb
          exact (pin' b hb o e).2
      cases b with
      | false =>
        simp only [Bool.false_eq_true, if_false] at q9 ⊢
        exact fin I9 q9
      | true =>
        simp only [if_true] at q9 ⊢
        refine wpAny_mono (pe.run _ s9 σ8 H9 _ I9 q9) (fun z s10 ⟨yv, H10, I10, r10, acc, hD10, hz10, nx⟩ => ?_) fun _ _ z => z
        exact app_ok (X := blkX X s3 H3 scope ce fp) I10 hD10 hz10 r10 fun s11 I11 => fin I11 nx
  exact codeAny_compStart_list loop (T.self X.A 0 _ _ _ st4 loop)
end
end Og
set_option Elab.async false
set_option linter.all false
set_option maxRecDepth 100000
set_option maxHeartbeats 2000000
/-! sorted(xs), xs a list of data. -/
namespace Og
open PySem PySem.Spec PyProof.Rows L2
/-- sorted(xs): the items bs.map fst read as the data bs.map snd -/
def rSortedD (K : PySem.W.Frag) : List V → Hp → VK → Prop := fun vs H Q => ∃ (a : Addr) (bs : List (V × PyData)), vs = [V.ref a] ∧ SqL K H a (bs.map (·.1)) ∧ (∀ b ∈ bs, Dp K H b.1 b.2) ∧ PySem.W.AllAlike (bs.map (·.2)) ∧ PySem.W.Sortable (bs.map (·.2)) ∧
  (∀ b ∈ bs, b.2.depth ≤ 40) ∧ ∀ p, H p = none → Q (.ref p) (upd H p (.lst ((bs.mergeSort (PySem.W.dataLe false (·.2))).map (·.1))))
theorem vals_each {bs : List (V × PyData)} : ∀ {us : List Value}, Vals (bs.map (·.1)) us → PySem.W.EachIs (fun (u : Value) (b : V × PyData) => RelV b.1 u) us bs := by
  induction bs with
  | nil => intro us r; cases r; exact .nil
  | cons b bs ih =>
    intro us r
    have r' : Vals (b.1 :: bs.map (·.1)) us := r
    cases r' with
    | cons h t => exact .cons h (ih t)
theorem each_vals {bs : List (V × PyData)} : ∀ {us : List Value}, PySem.W.EachIs (fun (u : Value) (b : V × PyData) => RelV b.1 u) us bs → Vals (bs.map (·.1)) us := by
  induction bs with
  | nil => intro us r; cases r; exact .nil
  | cons b bs ih =>
    intro us r
    cases r with
    | cons h t => exact .cons h (ih t)
theorem each_with {α β : Type} {R S : α → β → Prop} : ∀ {us : List α} {bs : List β}, PySem.W.EachIs R us bs → (∀ u b, b ∈ bs → R u b → S u b) → PySem.W.EachIs S us bs
  | _, _, .nil, _ => .nil
  | _, _, .cons h t, k => .cons (k _ _ List.mem_cons_self h) (each_with t fun u b hb => k u b (List.mem_cons_of_mem _ hb))
theorem call_sortedD {X : Cx} {k : Nat} (hr : Room k X.A) : CallR X (.builtin "sorted") (rSortedD X.K) := by
  intro pins s σ H vs us Q I r h
  obtain ⟨a, bs, rfl, hs, hd, hal, hk, hz40, q⟩ := h
  obtain ⟨its, rv, hl, hz⟩ := I.list hs
  obtain ⟨u, rfl, ru⟩ := vals1 r
  obtain rfl : u = Value.ref a := ru
  have e := vals_each rv
  have hlen : its.length = bs.length := e.length
  refine PySem.W.sorted_data (R := fun (u : Value) (b : V × PyData) => RelV b.1 u) (enc := (·.2)) hl.isList e (each_with e fun u b hb rr => Dp.reads I b.2 b.1 u (hd b hb) rr) hal hk (by have z := rv.length; rw [← hlen, ← z]; exact hz) (fun b hb => ?_) fun out h1 h2 => ?_
  · have := hz40 b hb
    have := hr.un
    show X.A.units + 2 + b.2.depth < cLine
    omega
  · have z := each_vals h2
    obtain ⟨n, hn⟩ := PyProof.Rows.sortedAll_at s.heap its out.toArray
    refine ⟨.ref (s.heap.objs.size + 1), upd H (s.heap.objs.size + 1) (.lst ((bs.mergeSort (PySem.W.dataLe false (·.2))).map (·.1))), I.laid (t' := s.toks) (fun b o e => PyProof.Rows.sortedAll_old e) (Nat.le_succ _) (show ObjOk _ _ _ _ _ (.lst _) from ⟨?_, out, n, z, hn⟩), rfl, q _ (I.hok.fresh (Nat.le_succ _))⟩
    rw [List.length_map, List.length_mergeSort]
    rw [List.length_map] at hz
    exact hz
end Og
set_option Elab.async false
set_option linter.all false
set_option maxRecDepth 100000
set_option maxHeartbeats 2000000
/-! try: .. except X as n: a suite that raises. -/
namespace Og
open PySem PySem.Spec PyProof.Rows L2
section
variable {X : Cx} {pins : List (Addr × Obj)} {σ : L2.St} {H : Hp} {s : Shared} {n : Str} {i : Nat}
/-- the name n (slot i) is gone from the def's names -/
theorem inv_gone (I : Inv X pins σ H s) (hN : X.N.Nodup) (hi : X.N[i]? = some n) :
    ∃ m, s.heap.Ns X.env.locals m ∧ ∀ h' v, h'.Ns X.env.locals (fun y => if y = n then v else m y) → Heap.SameBut X.env.locals s.heap h' → Inv X pins (σ.set i none) H { s with heap := h' } := by
  obtain ⟨m, hn, hlk⟩ := I.loc
  refine ⟨m, hn, fun h' v n' sb => ?_⟩
  have old : ∀ b o, X.s_0.heap.get? b = some o → h'.get? b = s.heap.get? b := fun b o e => sb.2 b (Nat.ne_of_lt (Nat.lt_of_lt_of_le (Heap.lt_size e) I.ok.above))
  refine { ok := I.ok, os := I.os, bare := I.bare, base := ?_, loc := ⟨_, n', fun j y u e1 e2 e3 => ?_⟩, cell := fun y c e => ?_, free := I.free, freeC := I.freeC, pin := fun p hp => ?_, hok := fun b ob e => ?_, len := by rw [List.length_set]; exact I.len }
  · refine { keep := fun b o e a1 a2 a3 => (old b o e).trans (I.base.keep b o e a1 a2 a3), slot := fun b o e a1 a2 a3 => ?_, free := I.base.free, there := fun b o e a1 => ?_, tups := I.base.tups, frzs := I.base.frzs, tbls := I.base.tbls }
    · obtain ⟨sl, q⟩ := I.base.slot b o e a1 a2 a3
      exact ⟨sl, (old b o e).trans q⟩
    · obtain ⟨o', q⟩ := I.base.there b o e a1
      exact ⟨o', (old b o e).trans q⟩
  · have nj : j ≠ i := fun z => by
      subst z
      by_cases hl : j < σ.length
      · rw [List.getElem?_set_self hl] at e2
        cases e2
      · rw [List.getElem?_eq_none (by simpa using hl)] at e2
        cases e2
    rw [List.getElem?_set_ne (Ne.symm nj)] at e2
    obtain ⟨w', r, q⟩ := hlk j y u e1 e2 e3
    refine ⟨w', r, q.imp (fun ⟨k, e⟩ => ⟨k, ?_⟩) fun ⟨k, c, e, z⟩ => ⟨k, c, e, z.sameBut sb (I.cne y c e)⟩⟩
    have ny : y ≠ n := fun z => nj (nodup_ix hN e1 (z ▸ hi))
    show (if y = n then v else m y) = some w'
    rw [if_neg ny]
    exact e
  · obtain ⟨w', z⟩ := I.cell y c e
    exact ⟨w', z.sameBut sb (I.cne y c e)⟩
  · obtain ⟨e, a1, a2, a3, a4⟩ := I.pin p hp
    exact ⟨(sb.2 p.1 a2).trans e, a1, a2, a3, a4⟩
  · have z := I.hok b ob e
    refine z.stay (fun c u hc q => (sb.2 c fun y => ?_).trans q) (fun _ q => q) fun _ _ q => q
    have fr := I.free
    rw [← y] at fr
    rcases hc with hc | hc
    · rw [hc, e] at fr
      cases fr
    · rw [hc] at fr
      cases fr
end
/-- the context of an except suite; xe: what becomes of its exceptions -/
abbrev suiteY (X : Cx) (a : Addr) (pn : List (Addr × Obj)) (xe : Value → Shared → Prop) : Cx := { X with A := X.A.mark (some (.ref a)), calm := false, pn := pn, xe := xe }
section
variable {X : Cx} {pins : List (Addr × Obj)} {σ : L2.St} {H : Hp} {s : Shared}
theorem suiteY_of {a : Addr} {pn pn' : List (Addr × Obj)} {xe : Value → Shared → Prop} (I : Inv (X.suite a pn) pn' σ H s) : Inv (suiteY X a pn xe) pn' σ H s := Inv.unwish (X := suiteY X a pn xe) (E := fun _ _ => False) I
theorem unsuiteY {a : Addr} {q : Addr × Obj} {pn' : List (Addr × Obj)} {xe : Value → Shared → Prop} (I : Inv (suiteY X a (q :: (X.pn ++ pins)) xe) pn' σ H s) (ok : X.Ok) : Inv X pins σ H s :=
  Inv.unsuite (X := X) (a := a) (q := q) (pn' := pn') (show Inv (X.suite a (q :: (X.pn ++ pins))) pn' σ H s from I.wish fun _ _ => False) ok
end
/-- what the clause wishes: every exception of the body is one of the class c -/
def wAsX (K : PySem.W.Frag) (c : Value) (i : Nat) (ts : Addr → Value → Option Addr → TS) (D : Ends) : WX := fun cls d σ H =>
  PySem.W.exmOne K cls c = some true ∧ ∀ a, H a = none → ts a cls d { nx := fun σ' H' => D.nx (σ'.set i none) H', rt := D.rt, bk := fun σ' H' => D.bk (σ'.set i none) H', ct := fun σ' H' => D.ct (σ'.set i none) H' } (σ.set i (some (.ref a))) H
section
variable {X : Cx} {x n : Str} {c : Value} {i : Nat} {body suite : List Stmt} {b₀ : Stmt} {np pos pos' : Pos} {tb : WX → TS} {ts : Addr → Value → Option Addr → TS} {Wout : WX}
theorem ps_try_asX (hs : X.stack = X.env :: X.outer) (hf : X.env.frame = some X.env.locals) (hN : X.N.Nodup) (hi : X.N[i]? = some n) (hln : X.env.kindOf n = some .local) (hc : Names X x c) (hpa : ∀ hd : Option Value, PassesOwnAt (model X.prog X.w) (X.A.mark hd) X.A X.env X.xe) (tk : L2.Takes X Wout)
    (hb : ∀ (W : WX) (pn : List (Addr × Obj)) (xe : Value → Shared → Prop), L2N.Takes (X.tr pn xe) W → PassesOwn (model X.prog X.w) X.A X.env xe → PSs (X.tr pn xe) body (tb W))
    (hsu : ∀ (a : Addr) (oe : Obj) (cls : Value) (d : Option Addr) (pn : List (Addr × Obj)) (xe : Value → Shared → Prop), L2N.Zn cls d oe → (∃ vs, oe.data = .fields vs) → L2.Takes (suiteY X a ((a, oe) :: pn) xe) (fun cls d σ H => Wout cls d (σ.set i none) H) → L2H.HotC (suiteY X a ((a, oe) :: pn) xe) →
      PSs (suiteY X a ((a, oe) :: pn) xe) (b₀ :: suite) (ts a cls d)) :
    PS X (.Try body [.ExceptHandler (some (.Name x np)) (some n) (b₀ :: suite) pos'] [] [] pos) (fun D σ H => tb (wAsX X.K c i ts D) D σ H) := by
  refine ⟨fun pins s σ H D I h => ?_⟩
  have ok := I.ok
  have hfr : X.A.frames = some (X.env :: X.outer) := by rw [ok.frames, hs]
  refine wpAny_Try_except ?_
  refine wpAny_mono ((hb (wAsX X.K c i ts D) (X.pn ++ pins) (fun e s₁ => wpAny (model X.prog X.w) X.A (noteFrame e X.env) (fun _ s₂ => wpAny (model X.prog X.w) X.A (setFlight e none) (fun _ s₃ =>
    wpAny (model X.prog X.w) X.A (handleBy e X.env [.ExceptHandler (some (.Name x np)) (some n) (b₀ :: suite) pos']) (SP X pins D) X.xe s₃) X.xe s₂) X.xe s₁) (fun u s' xx => ?_) PassesOwn.looking).run [] s σ H D (I.toTry _) h) (fun fl s1 hsp => ?_) fun e s1 he => he
  · obtain ⟨a, B, sI, pins', σ', H', cls, d, rfl, J', nb, up, sky, na, os, ag, hb1, hyes⟩ := xx
    have J : Inv X pins σ' H' sI := J'.ofTry ok
    rw [hs] at sky
    show wpAny (model X.prog X.w) X.A (noteFrame (.ref a) X.env) _ _ _
    refine L2N.Sky.land L2N.Zn.steady hfr hf sky fun h3 fl3 up3 => ?_
    have J3 : Inv X pins σ' H' { s' with heap := h3 } := J.landed nb fl3.1 (up.trans up3) os ag
    obtain ⟨oe3, vs3, he3, hz3, hd3⟩ := fl3.there
    have nfr : a ∉ frs (X.env :: X.outer) := fun hm => by
      obtain ⟨_, o', e', hnf⟩ := fl3.2.2.1.mem hm
      rw [he3] at e'
      cases e'
      exact hnf _ hd3
    have nL : a ≠ X.env.locals := fun z => nfr (List.mem_filterMap.mpr ⟨X.env, List.mem_cons_self, by rw [hf, z]⟩)
    have nF : a ∉ X.fs := fun hm => by
      obtain ⟨e, he, q⟩ := List.mem_filterMap.mp hm
      exact nfr (List.mem_filterMap.mpr ⟨e, List.mem_cons_of_mem _ he, q⟩)
    have S3 := J3.suite he3 hd3 na nL nF
    refine wpAny_handleBy_cons (codeAny_handlers_test ?_) (by intro q; cases q)
    have LT : PySem.W.Looks (model X.prog X.w) h3 (typeOf (.ref a)) cls := fun A Q E s k q => wpAny_typeOf_ref (k _ _ he3) (by rw [hz3.1]; exact q)
    have LM := PySem.W.exm_one (M := model X.prog X.w) (J3.kIn) LT hb1
    have test : ∀ {Q : Value → Shared → Prop} {E : Value → Shared → Prop}, Q c { s' with heap := h3 } → wpAny (model X.prog X.w) (X.A.mark (some (.ref a))) (eval (.Name x np) X.env) Q E { s' with heap := h3 } := fun {Q E} q => by
      obtain ⟨hg, hdbg, hm | ⟨hm, hv, hnn⟩⟩ := hc
      · exact ld_glob (X := X.suite a ((a, oe3) :: (X.pn ++ pins))) S3 hg hm q hdbg
      · exact ld_blt (X := X.suite a ((a, oe3) :: (X.pn ++ pins))) S3 hg hm hv q hnn hdbg
    refine test (LM.here ?_)
    refine codeAny_handlers_suite_as ?_
    refine HandSPX.lands_againZ fl3 fun h4 fl4 up4 => ?_
    have J4 : Inv X pins σ' H' { s' with heap := h4 } := J.landed nb fl4.1 ((up.trans up3).trans up4) os ag
    obtain ⟨oe4, vs4, he4, hz4, hd4⟩ := fl4.there
    have S4 := J4.suite he4 hd4 na nL nF
    refine store_ok (X := X.suite a ((a, oe4) :: (X.pn ++ pins))) (v := .ref a) S4 hN hi (.inl hln) rfl (fun s5 S5 => ?_) (.inr hln)
    refine wpAny_mono ((hsu a oe4 cls d (X.pn ++ pins) _ hz4 ⟨_, hd4⟩ ?_ ⟨(a, oe4), ⟨rfl, vs4, hd4, hz4.2.2 vs4 hd4⟩, List.mem_cons_self⟩).run [] s5 _ H' _ (suiteY_of S5) (hyes a na)) (fun f s6 hsp => ?_) (fun _ _ z => z)
    · -- what the suite raises
      rintro u s6 ⟨a2, B2, sI2, pn2, σ2, H2, cls2, d2, rfl, I2, nb2, up2, sky2, na2, os2, ag2, w2⟩
      have I2 : Inv X pins σ2 H2 sI2 := unsuiteY I2 ok
      have sky2 : Sky B2 (X.env :: X.outer) a2 (Zc cls2 d2) X.env.locals s6.heap := by rw [← hs]; exact sky2
      have nb2 : ∀ b o, sI2.heap.get? b = some o → b ∉ frs X.stack → B2.get? b = some o := nb2
      have held : wpAny (model X.prog X.w) (X.A.mark (some (.ref a))) (noteFrame (.ref a2) X.env) (fun _ s7 => ∃ h7, s7 = { s6 with heap := h7 } ∧ HandSPX.HeldZ B2 (X.env :: X.outer) a2 (Zc cls2 d2) X.env.locals h7 ∧ s6.heap.UpToSlots h7) (fun _ _ => False) s6 := by
        rcases sky2 with ⟨hB, hn, hl, oe, vs, he, hz, hd, h1⟩ | fl | hh
        · exact HandSPX.look_newZ Zc.steady hfr hl hf he hB hn hd h1 hz fun h7 hh up => ⟨h7, rfl, hh, up⟩
        · exact HandSPX.looks_onZ Zc.steady hfr hf fl fun h7 hh up => ⟨h7, rfl, hh, up⟩
        · exact HandSPX.againZ hf hh.2.2.2 ⟨s6.heap, rfl, hh, Heap.UpToSlots.refl _⟩
      refine wpAny_mono held (fun _ s7 hs7 => ?_) fun _ _ z => z.elim
      obtain ⟨h7, rfl, held7, up7⟩ := hs7
      obtain ⟨m2, n2, gone2⟩ := inv_gone (n := n) (i := i) I2 hN hi
      have n7 : h7.Ns X.env.locals m2 := upSlots_ns (upSlots_ns n2 up2) up7
      have hcls : (X.env.scope.kind == .class || (X.env.scope.kind == .module && X.env.locals != X.env.globals)) = false := by rw [ok.kind]; rfl
      refine wpAny_nameGoes_keeps hln n7 hcls fun h8 v n8 sb8 => ?_
      have BL : B2.get? X.env.locals = none := (held7.2.2.1.mem (List.mem_filterMap.mpr ⟨X.env, List.mem_cons_self, hf⟩)).1
      have held8 := held_let held7 BL n7 n8 sb8
      -- the state without the exception, the name gone
      obtain ⟨o8, es8, ep8, e8, dd8, r8⟩ := id n8
      obtain ⟨oI, esI, epI, eI, dI, rI⟩ := id n2
      have nfz : o8.isFreed = false := by
        have q := (Heap.get?_some_iff.mp e8).2
        exact q
      have gI : (sI2.heap.update X.env.locals fun _ => o8).get? X.env.locals = some o8 := Heap.get?_update_self (fun _ => o8) eI nfz
      have oI' : ∀ b, b ≠ X.env.locals → (sI2.heap.update X.env.locals fun _ => o8).get? b = sI2.heap.get? b := fun b hb => Heap.get?_update_other _ _ (Ne.symm hb)
      have JI := gone2 (sI2.heap.update X.env.locals fun _ => o8) v ⟨o8, es8, ep8, gI, dd8, r8⟩ ⟨Heap.size_after_update _ _ _, oI'⟩
      have Lfr : X.env.locals ∈ frs X.stack := by
        rw [hs]
        exact List.mem_filterMap.mpr ⟨X.env, List.mem_cons_self, hf⟩
      unfold PySem.passOn
      have fld := held8.2.2.2
      obtain ⟨oe, vs, T, oT, ts', he, hz, hd, h1, r⟩ := fld
      refine wpAny_bind (wpAny_field he hd h1 ?_)
      rw [if_neg (show ¬ ((Value.ref T == Value.none) = true) from by simp), hf]
      refine wpAny_bind (HandSPX.setFlight_onZ held8 fun h9 held9 up9 => wpAny_throw ?_)
      refine hpa (some (.ref a)) _ _ (tk _ _ ⟨a2, B2, { sI2 with heap := sI2.heap.update X.env.locals fun _ => o8 }, pins, σ2.set i none, H2, cls2, d2, rfl, JI, fun b o e hb => ?_, fun b o e hnf => ?_, .inr (.inr (by rw [hs]; exact held9)), na2, os2, ag2, w2⟩)
      · rw [oI' b fun z => hb (z ▸ Lfr)] at e
        exact nb2 b o e hb
      · by_cases hb : b = X.env.locals
        · subst hb
          rw [gI] at e
          cases e
          exact up9 _ _ e8 hnf
        · rw [oI' b hb] at e
          obtain ⟨sl, q⟩ := (up2.trans up7) b o e hnf
          have q8 : h8.get? b = some { o with slots := sl } := (sb8.2 b hb).trans q
          obtain ⟨sl9, q9⟩ := up9 b _ q8 hnf
          exact ⟨sl9, q9⟩
    · have end_ : ∀ {σ6 : L2.St} {H6 : Hp} {Q : Shared → Prop}, Inv X pins σ6 H6 s6 → (∀ s7, Inv X pins (σ6.set i none) H6 s7 → Q s7) →
          wpAny (model X.prog X.w) X.A (do bindName X.env n .none; unbindBehindTheSuite X.env n pos') (fun _ s7 => Q s7) X.xe s6 := fun {σ6 H6 Q} S6 hq => gone_ok S6 hN hi hln hq
      cases f with
      | next =>
        obtain ⟨σ6, H6, S6, q6⟩ := hsp
        exact end_ (unsuiteY S6 ok) fun s7 J7 => ⟨_, _, J7, q6⟩
      | brk =>
        obtain ⟨σ6, H6, S6, q6⟩ := hsp
        exact end_ (unsuiteY S6 ok) fun s7 J7 => ⟨_, _, J7, q6⟩
      | cont =>
        obtain ⟨σ6, H6, S6, q6⟩ := hsp
        exact end_ (unsuiteY S6 ok) fun s7 J7 => ⟨_, _, J7, q6⟩
      | ret u =>
        obtain ⟨v6, σ6, H6, S6, r6, q6⟩ := hsp
        exact end_ (unsuiteY S6 ok) fun s7 J7 => ⟨_, _, _, J7, r6, q6⟩
  · cases fl with
    | next =>
      obtain ⟨σ', H', J', q⟩ := hsp
      exact wpAny_execs_nil ⟨σ', H', J'.ofTry ok, q⟩
    | brk =>
      obtain ⟨σ', H', J', q⟩ := hsp
      exact ⟨σ', H', J'.ofTry ok, q⟩
    | cont =>
      obtain ⟨σ', H', J', q⟩ := hsp
      exact ⟨σ', H', J'.ofTry ok, q⟩
    | ret u =>
      obtain ⟨v, σ', H', J', r, q⟩ := hsp
      exact ⟨v, σ', H', J'.ofTry ok, r, q⟩
/-- e.f in such a suite, e the exception -/
theorem pe_xfY {a C : Addr} {oe : Obj} {cls : Value} {d : Option Addr} {pn : List (Addr × Obj)} {xe : Value → Shared → Prop} {e : Expr} {te : TE} {pos : Pos} {n : Str} (T : XfC X.K C) (hno : PySem.W.findIn X.K (.ref C) n = some none) (hz : Zc cls d oe) (hf : ∃ vs, oe.data = .fields vs)
    (he : PE (suiteY X a ((a, oe) :: pn) xe) e te) (hb : attributeBase e n X.env (eval e X.env) = eval e X.env := by rfl) : PE (suiteY X a ((a, oe) :: pn) xe) (.Attribute e n pos) (tXf a cls d C n te) := by
  refine ⟨fun pins s σ H Q I h => attr_of hb (thn (he.run pins s σ H _ I h) fun u s1 hh => ?_)⟩
  obtain ⟨x, H1, I1, rx, rfl, rfl, dd, fs, v, rfl, ea, l, q⟩ := hh
  obtain rfl : u = Value.ref a := rx
  have ha := (I1.pin (a, oe) (List.mem_append_left _ List.mem_cons_self)).1
  obtain ⟨vs, hd⟩ := hf
  obtain ⟨mA, hns, hr⟩ := (show ObjOk X.prog X.w H1 s1.heap dd (.xd fs) from I1.hok dd _ ea)
  obtain ⟨od, ho, hl⟩ := lookIn_ns hns
  have hrn := hr n
  rw [l] at hrn
  obtain ⟨u, hu, ru⟩ := RelO.some_of hrn
  have J : PySem.W.InstAt s1.heap a oe C (some od) := ⟨ha, hz.1, by unfold PySem.W.notCls; rw [hd] <;> rfl, by rw [hz.2]; exact ho⟩
  exact HandSPX.exc_get I1.kIn J T.ga T.gg T.exC (PySem.W.findObj_own T.hdC hno rfl (by rw [hl, hu])) (handed_of ru) ⟨v, H1, I1.tok _, ru, q⟩
end
end Og
set_option Elab.async false
set_option linter.all false
set_option maxRecDepth 100000
set_option maxHeartbeats 2000000
/-! The head's facts for a text with exception classes whose __init__ says super().__init__. -/
namespace Og
open PySem PySem.Spec PyProof.Rows L2 He
def oexB (K : PySem.W.Frag) (C : Addr) : Bool := (match K.lookup C with
  | some ⟨.type t, _, .cls cd, sl⟩ => (match cd.mro, sl.toList with
    | .ref C' :: bm, [_, _, _, _, some (.builtin n), _] => decide (t = "type") && (decide (C' = C) && (decide (n = "ValueError.__new__") && (!cd.hasDel && (PySem.HandSPX.refsVE bm && cd.hasDict))))
    | _, _ => false)
  | _ => false) && (eqO (PySem.W.findIn K (.ref C) "__setattr__") (some (some (.builtin "object.__setattr__"))) && (decide (PySem.W.subIn K (.ref C) (.type "BaseException") = some true) && (decide (PySem.W.typeIn K (.ref C) = some (.type "type")) && PySem.W.keepIn K (.ref C))))
theorem oexB_ok {K : PySem.W.Frag} {C : Addr} (h : oexB K C = true) : OexC K C := by
  obtain ⟨h1, h⟩ := ba h
  obtain ⟨h2, h⟩ := ba h
  obtain ⟨h3, h⟩ := ba h
  obtain ⟨h4, h5⟩ := ba h
  refine ⟨?_, eqO_ok h2, of_decide_eq_true h3, of_decide_eq_true h4, h5⟩
  split at h1
  · rename_i t dd cd sl ho
    split at h1
    · rename_i C' bm k0 k1 k2 k3 n k5 hm hs
      obtain ⟨g1, h1⟩ := ba h1
      obtain ⟨g2, h1⟩ := ba h1
      obtain ⟨g3, h1⟩ := ba h1
      obtain ⟨g4, h1⟩ := ba h1
      obtain ⟨g5, g6⟩ := ba h1
      have g1 := of_decide_eq_true g1
      have g2 := of_decide_eq_true g2
      have g3 := of_decide_eq_true g3
      obtain ⟨nm, bs, mro, ns, qn, hd, sn, sub, ab, col, del⟩ := cd
      dsimp only at hm g4 g6
      subst hm g1 g2 g3 g6
      have g4 : del = false := by cases del with | false => rfl | true => cases g4
      subst g4
      have hsl : sl = #[k0, k1, k2, k3, some (.builtin "ValueError.__new__"), k5] := by
        obtain ⟨l⟩ := sl
        simp only at hs
        rw [hs]
      subst hsl
      exact ⟨nm, qn, ns, bs, bm, sn, sub, ab, col, dd, k0, k1, k2, k3, k5, ho, g5⟩
    · cases h1
  · cases h1

/-! ### an __init__ that says super().__init__ -/
abbrev FnI : Type := Option (Str × Str × Arguments × FuncBody × Scope × Addr × List Str × Addr)
def fnI (K : PySem.W.Frag) (f : Addr) : FnI := match K.lookup f with
  | some ⟨_, _, .func fd, _⟩ => some (fd.name, fd.qualname, fd.params, fd.body, fd.scope, fd.globals, fd.closure.map (·.1), fd.builtins)
  | _ => none
/-- what the statement says of it -/
def iniV (st : Stmt) (qual : Str) : FnI := some ("__init__", qual, defArgs st, .stmts (defBody st), defScope st, mainGlobals, ["__class__"], builtinsNs)
def cellB (K : PySem.W.Frag) (cc C : Addr) : Bool := match K.lookup cc with
  | some ⟨_, _, .cell (some (.ref D)), _⟩ => decide (D = C)
  | _ => false
theorem cellB_ok {K : PySem.W.Frag} {cc C : Addr} (h : cellB K cc C = true) : ∃ cl cld csl, K.lookup cc = some ⟨cl, cld, .cell (some (.ref C)), csl⟩ := by
  unfold cellB at h
  split at h
  · rename_i c d D sl ho
    have e := of_decide_eq_true h
    subst e
    exact ⟨_, _, _, ho⟩
  · cases h
def fileB (K : PySem.W.Frag) (P : Program) (c : Addr) : Bool := match K.lookup c with
  | some ⟨_, _, .fields vs, _⟩ => (match (vs[2]? : Option Value) with
    | some (.str z _) => P.main.file == z
    | _ => false)
  | _ => false
theorem fileB_ok {K : PySem.W.Frag} {P : Program} {c : Addr} (h : fileB K P c = true) : ∃ ccl cdd ccs vs file tf, K.lookup c = some ⟨ccl, cdd, .fields vs, ccs⟩ ∧ vs[2]? = some (.str file tf) ∧ (P.main.file == file) = true := by
  unfold fileB at h
  split at h
  · rename_i ccl cdd vs ccs ho
    split at h
    · rename_i z tf hv
      exact ⟨_, _, _, _, _, _, ho, hv, h⟩
    · cases h
  · cases h
def noneV : Value → Bool
  | .none => true
  | _ => false
theorem noneV_ok {v : Value} (h : noneV v = true) : v = .none := by
  cases v with
  | none => rfl
  | _ => cases h
def iniB (K : PySem.W.Frag) (P : Program) (C f : Addr) (qual : Str) : Bool := (match K.lookup f with
  | some ⟨_, _, .func fd, _⟩ => noneV fd.defaults && (PySem.W.codeIn K fd.code qual && ((match fd.code with
    | .ref c => fileB K P c
    | _ => false) && (match fd.closure with
    | [(_, cc)] => cellB K cc C
    | _ => false)))
  | _ => false) && ((PySem.W.clsIn K C).isSome && (decide (PySem.W.mroIn K C (.ref C) = some true) && (eqO (PySem.W.ks_superIn K C C "__init__") (some (some (.builtin "ValueError.__init__"))) &&
    (decide (PySem.W.subIn K (.ref C) (.type "ValueError") = some true) && oexB K C))))
/-- what such a text's top must say besides -/
def supB (K : PySem.W.Frag) (P : Program) : Bool := eqO (PySem.W.nsIn K mainGlobals "super") (some none) && (!(P.main.scope.names.lookup ("super" : Str)).isSome && eqO (PySem.W.nsIn K cStatics "thirdparty.any") (some none))
theorem iniT_of {P : Program} {K : PySem.W.Frag} {C f : Addr} {qual : Str} {st : Stmt} (h : iniB K P C f qual = true) (hs : supB K P = true) (e : fnI K f = iniV st qual) : ∃ fd, IniT P K C f fd st qual ∧ (∃ oc od osl, K.lookup f = some ⟨oc, od, .func fd, osl⟩) := by
  obtain ⟨h1, h⟩ := ba h
  obtain ⟨h2, h⟩ := ba h
  obtain ⟨h3, h⟩ := ba h
  obtain ⟨h4, h⟩ := ba h
  obtain ⟨h5, h6⟩ := ba h
  obtain ⟨s1, hs⟩ := ba hs
  obtain ⟨s2, s3⟩ := ba hs
  have s2 : (P.main.scope.names.lookup ("super" : Str)).isSome = false := by
    cases q : (P.main.scope.names.lookup ("super" : Str)).isSome with
    | false => rfl
    | true => rw [q] at s2; cases s2
  unfold fnI iniV at e
  cases q : K.lookup f with
  | none => rw [q] at h1; cases h1
  | some o =>
    obtain ⟨oc, od, dt, osl⟩ := o
    rw [q] at h1 e
    cases dt with
    | func fd =>
      obtain ⟨n1, n2, n3, n4, n5, n6, n7, n8, n9, n10, n11, n12, n13, n14, n15⟩ := fd
      dsimp only at e h1
      simp only [Option.some.injEq, Prod.mk.injEq] at e
      obtain ⟨e1, e2, e3, e4, e5, e6, e7, e8⟩ := e
      subst e1 e2 e3 e4 e5 e6 e8
      obtain ⟨k1, h1⟩ := ba h1
      obtain ⟨k2, h1⟩ := ba h1
      obtain ⟨k3, k4⟩ := ba h1
      have k1 := noneV_ok k1
      subst k1
      obtain ⟨cda, rfl⟩ := codeIn_ref k2
      obtain ⟨ccl, cdd, ccs, vs, file, tf, f1, f2, f3⟩ := fileB_ok k3
      obtain ⟨cdD, hD⟩ := Option.isSome_iff_exists.mp h2
      match n7, e7, k4 with
      | [(nn, cc)], e7, k4 =>
        have en : nn = "__class__" := by simpa using e7
        subst en
        obtain ⟨cl, cld, csl, c1⟩ := cellB_ok k4
        exact ⟨_, ⟨⟨oc, od, n9, n10, n11, n14, n12, osl, cc, cda, cl, ccl, cld, cdd, csl, ccs, vs, file, tf, cdD, rfl, q, k2, c1, f1, f2, f3, hD⟩, of_decide_eq_true h3, eqO_ok s1, s2, eqO_ok s3, eqO_ok h4, of_decide_eq_true h5, oexB_ok h6⟩, oc, od, osl, rfl⟩
      | [], e7, _ => cases e7
      | _ :: _ :: _, e7, _ => simp at e7
    | _ => cases h1
/-! ### isinstance of such an exception -/
def excB (K : PySem.W.Frag) (D : Addr) : Bool := eqO (PySem.W.findIn K (.ref D) "__getattribute__") (some (some (.builtin "BaseException.__getattribute__"))) && (eqO (PySem.W.findIn K (.ref D) "__getattr__") (some none) &&
  (decide (PySem.W.subIn K (.ref D) (.type "BaseException") = some true) && (PySem.W.hasDictIn K D && (eqO (PySem.W.findIn K (.ref D) "__class__") (some (some (.builtin "object.__class__"))) &&
  (eqO (PySem.W.specialIn K (.builtin "object.__class__") "__get__") (some (some (.builtin "getset_descriptor.__get__"))) && (decide (PySem.W.takesIn K (.builtin "object.__class__") = some true) && decide (PySem.W.mroIn K D (.type "object") = some true)))))))
theorem excB_ok {K : PySem.W.Frag} {D : Addr} (h : excB K D = true) : ExcC K D := by
  obtain ⟨h1, h⟩ := ba h
  obtain ⟨h2, h⟩ := ba h
  obtain ⟨h3, h⟩ := ba h
  obtain ⟨h4, h⟩ := ba h
  obtain ⟨h5, h⟩ := ba h
  obtain ⟨h6, h⟩ := ba h
  obtain ⟨h7, h8⟩ := ba h
  exact ⟨eqO_ok h1, eqO_ok h2, of_decide_eq_true h3, h4, eqO_ok h5, eqO_ok h6, of_decide_eq_true h7, of_decide_eq_true h8⟩
/-! ### the Hook: facts, defs, a Bool, one more look; tables of code objects, empty, not in K -/
/-- the part of the heap that is looked at -/
def fragR (n : Nat) (g : Addr → Option Obj) : PySem.W.Frag := frT g (cStatics :: asD g n)
structure SaysR {β : Type} (fa : List Fa) (fn : List DefD) (tf : List Defn) (ex : PySem.W.Frag → Bool) (q : PySem.W.Frag → β) (v : β) (h : Heap) (K : PySem.W.Frag) : Prop where
  d : SaysD fa fn K
  more : ex K = true
  qv : q K = v
  tab : ∀ p ∈ tf, PySem.W.codeHdIn K (cT K p).1 (cT K p).2 = true ∧ K.lookup (cT K p).2 = none ∧ h.get? (cT K p).2 = some { cls := .none, data := .fields #[] }
def tabR (g : Addr → Option Obj) (K : PySem.W.Frag) (p : Defn) : Bool := PySem.W.codeHdIn K (cT K p).1 (cT K p).2 && (match g (cT K p).2 with
  | some o => emptyTab o
  | none => false)
abbrev AlR (β : Type) : Type := (AlD × Bool) × β
def obsR {β : Type} (n : Nat) (fa : List Fa) (fn : List DefD) (tf : List Defn) (ex : PySem.W.Frag → Bool) (q : PySem.W.Frag → β) (g : Addr → Option Obj) : AlR β :=
  ((obsD fa fn (fragR n g), ex (fragR n g) && tf.all (tabR g (fragR n g))), q (fragR n g))
theorem saysR_of {β : Type} {n : Nat} {fa : List Fa} {fn : List DefD} {tf : List Defn} {ex : PySem.W.Frag → Bool} {q : PySem.W.Frag → β} {v : β} {h : Heap} (e : obsR n fa fn tf ex q h.get? = ((valD fn, true), v)) : SaysR fa fn tf ex q v h (fragR n h.get?) := by
  have e1 : obsD fa fn (fragR n h.get?) = valD fn := congrArg (fun z : AlR β => z.1.1) e
  have e2 : (ex (fragR n h.get?) && tf.all (tabR h.get? (fragR n h.get?))) = true := congrArg (fun z : AlR β => z.1.2) e
  have e3 : q (fragR n h.get?) = v := congrArg (fun z : AlR β => z.2) e
  obtain ⟨e4, e5⟩ := ba e2
  refine ⟨e1, e4, e3, fun p hp => ?_⟩
  obtain ⟨h3, h4⟩ := ba (List.all_eq_true.mp e5 p hp)
  cases r : h.get? (cT (fragR n h.get?) p).2 with
  | none => rw [r] at h4; cases h4
  | some o =>
    rw [r] at h4
    exact ⟨h3, frT_none r h4, by rw [emptyTab_eq h4]⟩
def hookR {β : Type} (n : Nat) (fa : List Fa) (fn : List DefD) (tf : List Defn) (ex : PySem.W.Frag → Bool) (q : PySem.W.Frag → β) (v : β) : PySem.W.Hook where
  α := AlR β
  obs := fun s => obsR n fa fn tf ex q s.heap.get?
  val := fun _ => ((valD fn, true), v)
  says := fun _ h => ∃ K : PySem.W.Frag, K.In h ∧ SaysR fa fn tf ex q v h K
  of := fun _ _ e => ⟨_, frT_in, saysR_of e⟩
  keeps := fun _ _ _ ⟨K, hK, c⟩ k => ⟨K, PySem.W.Frag.In.keeps hK k, ⟨c.d, c.more, c.qv, fun p hp => ⟨(c.tab p hp).1, (c.tab p hp).2.1, k _ _ (c.tab p hp).2.2⟩⟩⟩
theorem obsR_eq {β : Type} {n : Nat} {fa : List Fa} {fn : List DefD} {tf : List Defn} {ex : PySem.W.Frag → Bool} {q : PySem.W.Frag → β} {v : β} {g : Addr → Option Obj} {s : Shared} (h : ∀ a, g a = s.heap.get? a) : obsR n fa fn tf ex q g = (hookR n fa fn tf ex q v).obs s := by
  have e : g = s.heap.get? := funext h
  rw [e]
  rfl
/-! ### defs by their names -/
def dP (x : Str) (st : Stmt) : DefD := ⟨(x, none), x, x, defArgs st, defBody st, defScope st, [], []⟩
def dK (x : Str) (st : Stmt) (ks : List (Str × Dv)) : DefD := ⟨(x, none), x, x, defArgs st, defBody st, defScope st, [], ks⟩
/-- the function object at an address -/
def fdAt (K : PySem.W.Frag) (f : Addr) : FuncData := match K.lookup f with
  | some ⟨_, _, .func fd, _⟩ => fd
  | _ => default
theorem fdAt_eq {K : PySem.W.Frag} {f : Addr} {fd : FuncData} (h : ∃ oc od osl, K.lookup f = some ⟨oc, od, .func fd, osl⟩) : fdAt K f = fd := by
  obtain ⟨oc, od, osl, e⟩ := h
  unfold fdAt
  rw [e]
section
variable {K : PySem.W.Frag} {x qual : Str} {st : Stmt} {kws : List (Str × V)} {f : Addr} {fd : FuncData}
theorem FunD.lk {params : Arguments} {body : List Stmt} {scope : Scope} {dvs : List V} (F : FunD K x qual params body scope dvs kws f fd) : ∃ oc od osl, K.lookup f = some ⟨oc, od, .func fd, osl⟩ := by
  obtain ⟨oc, od, dV, kV, doc, pm, an, cdv, ct, osl, rfl, lk, hcd, hD, hK⟩ := F.ex
  exact ⟨_, _, _, lk⟩
theorem FunD.fun_ (F : FunD K x qual (defArgs st) (defBody st) (defScope st) [] kws f fd) : Fun K x qual st f fd := by
  obtain ⟨oc, od, dV, kV, doc, pm, an, cdv, ct, osl, rfl, lk, hcd, hD, hK⟩ := F.ex
  rcases hD with ⟨_, rfl⟩ | ⟨e, _⟩
  · exact ⟨⟨oc, od, kV, doc, pm, an, cdv, ct, osl, rfl, lk, hcd⟩, F.kp⟩
  · exact absurd rfl e
theorem FunD.code {params : Arguments} {body : List Stmt} {scope : Scope} {dvs : List V} {p : Str × Option Str} (F : FunD K x qual params body scope dvs kws (fAd K p) fd) : fd.code = .ref (codeOf K p) := by
  obtain ⟨oc, od, dV, kV, doc, pm, an, cdv, ct, osl, rfl, lk, hcd, hD, hK⟩ := F.ex
  obtain ⟨c, rfl⟩ := codeIn_ref hcd
  rw [codeOf_eq lk rfl]
end
end Og
set_option Elab.async false
set_option linter.all false
set_option maxRecDepth 100000
namespace Og
open PySem L2
/-- the i-th statement of the text's top -/
def top (i : Nat) : Stmt := PySem.Challenge.pw_onlygiven_k74_lines_nobody_wrote.main.body.getD i (.Pass ⟨0, 0, 0, 0⟩)
abbrev s_name_end : Stmt := top 16
abbrev s_arrow_end : Stmt := top 17
abbrev s_kind_end : Stmt := top 18
abbrev s_entry_end : Stmt := top 19
abbrev s_greatest_name : Stmt := top 20
abbrev s_is_integer : Stmt := top 22
abbrev s_is_number : Stmt := top 23
abbrev s_kind_read : Stmt := top 25
abbrev s_entry_read : Stmt := top 26
abbrev s_want_text : Stmt := top 27
abbrev s_want_line : Stmt := top 28
abbrev s_entry_after : Stmt := top 29
abbrev s_common_with : Stmt := top 36
abbrev s_letters_ahead : Stmt := top 37
abbrev s_name_in : Stmt := top 38
abbrev s_entry_in : Stmt := top 39
abbrev s_kind_in : Stmt := top 40
abbrev s_event_in : Stmt := top 41
abbrev s_later_reach : Stmt := top 42
abbrev s_later_entry : Stmt := top 43
abbrev s_entries_in : Stmt := top 44
abbrev s_first_in : Stmt := top 45
abbrev s_read_event : Stmt := top 46
abbrev s_read_log : Stmt := top 47
abbrev s__law_feed : Stmt := top 49
abbrev s__law_draw : Stmt := top 50
abbrev s__law_pick : Stmt := top 51
abbrev s__law_scenes : Stmt := top 52
abbrev s__law_turned : Stmt := top 53
abbrev s__law_book : Stmt := top 54
abbrev s__law_refusal : Stmt := top 55
abbrev s__law_said : Stmt := top 56
abbrev s__law_alike : Stmt := top 57
abbrev s__law_is_sign : Stmt := top 58
abbrev s__law_kind_scan : Stmt := top 59
abbrev s__law_entry_scan : Stmt := top 60
abbrev s__law_first_scan : Stmt := top 61
abbrev s__law_line_fault : Stmt := top 62
abbrev s__law_event_of : Stmt := top 63
abbrev s__law_first_of : Stmt := top 64
abbrev s__law_line : Stmt := top 65
abbrev s__law_entries : Stmt := top 66
abbrev s__law_some_line : Stmt := top 67
abbrev s__law_spoilt : Stmt := top 68
abbrev s__law_event_right : Stmt := top 69
abbrev s__law_log_right : Stmt := top 70
abbrev s__law_hands : Stmt := top 71
abbrev s__law_firsts : Stmt := top 72
abbrev s_law : Stmt := top 73
end Og
set_option Elab.async false
set_option linter.all false
set_option maxRecDepth 100000
set_option maxHeartbeats 4000000
namespace Og
open PySem PySem.Spec PyProof.Rows L2 TL
/-! ### texts as lists of signs -/
def S (l : List Nat) : Str := ⟨l.toArray⟩
theorem tl_S (l : List Nat) : tl (S l) = l := rfl
theorem S_len (l : List Nat) : (S l).length = l.length := by
  show l.toArray.size = l.length
  simp
theorem S_inj {l m : List Nat} (h : S l = S m) : l = m := congrArg tl h
theorem S_app (l m : List Nat) : S l ++ S m = S (l ++ m) := ext_tl (by rw [tl_append]; rfl)
theorem cutNN (l : List Nat) {i j : Int} (a b : Nat) (hi : i = a) (hj : j = b) : cutS (S l) (some i) (some j) = S ((l.drop a).take (b - a)) := by
  subst hi hj
  unfold cutS
  rw [HT.sIx_nat, HT.sIx_nat, S_len]
  show S _ = S _
  congr 1
  show (l.drop (min a l.length)).take (min b l.length - min a l.length) = _
  by_cases h : a ≤ l.length
  · rw [Nat.min_eq_left h]
    apply List.take_eq_take_iff.mpr
    rw [List.length_drop]
    omega
  · have e1 : l.drop a = [] := List.drop_eq_nil_of_le (by omega)
    have e2 : min b l.length - min a l.length = 0 := by omega
    rw [e1, e2]
    simp
theorem cutN (l : List Nat) {i : Int} (a : Nat) (hi : i = a) : cutS (S l) (some i) none = S (l.drop a) := by
  subst hi
  unfold cutS
  rw [HT.sIx_nat, HT.sIx_none, S_len]
  show S _ = S _
  congr 1
  show (l.drop (min a l.length)).take (l.length - min a l.length) = _
  by_cases h : a ≤ l.length
  · rw [Nat.min_eq_left h]
    exact List.take_of_length_le (by rw [List.length_drop]; exact Nat.le_refl _)
  · have e1 : l.drop a = [] := List.drop_eq_nil_of_le (by omega)
    rw [e1, Nat.min_eq_right (by omega)]
    simp
theorem cut0N (l : List Nat) {j : Int} (b : Nat) (hj : j = b) : cutS (S l) none (some j) = S (l.take b) := by
  subst hj
  unfold cutS
  rw [HT.sIx_nat, HT.sIx_none, S_len]
  show S _ = S _
  congr 1
  show (l.drop 0).take (min b l.length - 0) = _
  rw [List.drop_zero, Nat.sub_zero]
  apply List.take_eq_take_iff.mpr
  omega
theorem cutLast (l : List Nat) (c : Nat) : cutS (S (l ++ [c])) none (some (-1)) = S l := by
  have e : HT.sIx (S (l ++ [c])).length (S (l ++ [c])).length (some (-1)) = l.length := by
    rw [S_len]
    unfold HT.sIx
    dsimp only
    rw [if_pos (by decide), List.length_append, List.length_singleton]
    omega
  unfold cutS
  rw [e]
  show S (((l ++ [c]).drop 0).take (l.length - 0)) = S l
  simp
/-! ### heaps that only grow -/
def Ext (H H' : Hp) : Prop := ∀ b o, H b = some o → H' b = some o
theorem Ext.refl (H : Hp) : Ext H H := fun _ _ h => h
theorem Ext.trans {H H1 H2 : Hp} (a : Ext H H1) (b : Ext H1 H2) : Ext H H2 := fun c o h => b c o (a c o h)
theorem Ext.upd {H H1 : Hp} {p : Addr} {o : HO} (a : Ext H H1) (h : H p = none) : Ext H (upd H1 p o) := fun c u e => by
  have n : c ≠ p := fun z => by
    rw [z, h] at e
    cases e
  rw [upd_ne n]
  exact a c u e
theorem Ext.new {H : Hp} {p : Addr} {o : HO} (h : H p = none) : Ext H (L2.upd H p o) := (Ext.refl H).upd h
theorem Ext.none {H H1 : Hp} {p : Addr} (a : Ext H H1) (h : H1 p = Option.none) : H p = Option.none := by
  cases e : H p with
  | none => rfl
  | some o =>
    rw [a p o e] at h
    cases h
/-! ### letters -/
def isL (c : Nat) : Bool := decide (97 ≤ c ∧ c ≤ 122)
/-- how many letters stand ahead, at most n -/
def lets : Nat → List Nat → Nat
  | 0, _ => 0
  | _, [] => 0
  | n + 1, c :: r => if isL c then lets n r + 1 else 0
theorem lets_le : ∀ (n : Nat) (l : List Nat), lets n l ≤ n ∧ lets n l ≤ l.length
  | 0, l => by unfold lets; omega
  | n + 1, [] => by unfold lets; simp
  | n + 1, c :: r => by
    unfold lets
    have := lets_le n r
    split <;> simp <;> omega
/-- the e letters seen so far, and whether there is one more -/
theorem lets_step {n e : Nat} {l : List Nat} {c : Nat} (he : e < n) (h : l[e]? = some c) (hp : e ≤ lets n l) : (isL c = true → e + 1 ≤ lets n l) ∧ (isL c = false → lets n l = e) := by
  induction n generalizing l e with
  | zero => omega
  | succ n ih =>
    cases l with
    | nil => simp at h
    | cons d r =>
      cases e with
      | zero =>
        simp at h
        subst h
        unfold lets
        cases isL d <;> simp
      | succ e =>
        unfold lets at hp ⊢
        cases hd : isL d with
        | false => rw [hd] at hp; simp at hp
        | true =>
          rw [hd] at hp
          simp at hp h ⊢
          have := ih (e := e) (l := r) (by omega) h (by omega)
          constructor
          · intro q; have := this.1 q; omega
          · intro q; exact this.2 q
theorem lets_end {n e : Nat} {l : List Nat} (h : e = n ∨ e = l.length) (hp : e ≤ lets n l) : lets n l = e := by
  have := lets_le n l
  omega
/-! ### the facts of the text -/
structure At (K : PySem.W.Frag) (mg : Str → Option Value) (x : Str) (st : Stmt) (ps : List Str) (f : Addr) (fd : FuncData) : Prop where
  fn : Fun K x x st f fd
  mg : mg x = some (.ref f)
  kp : PySem.W.keepIn K (.ref f) = true
  bi : Binds K fd ps []
/-- n values, m keywords -/
def gK {α : Type} (n m : Nat) (us ws : List α) : List α := if us.length = n ∧ ws.length = m then us ++ ws else []
structure AtK (K : PySem.W.Frag) (mg : Str → Option Value) (x : Str) (st : Stmt) (ps ks : List Str) (n m : Nat) (f : Addr) (fd : FuncData) : Prop where
  fn : Fun K x x st f fd
  mg : mg x = some (.ref f)
  kp : PySem.W.keepIn K (.ref f) = true
  kb : KBinds K fd ps ks (gK n m) (gK n m)
structure AtD (K : PySem.W.Frag) (mg : Str → Option Value) (x : Str) (st : Stmt) (ps : List Str) (dv : V) (f : Addr) (fd : FuncData) : Prop where
  fn : Fun K x x st f fd
  mg : mg x = some (.ref f)
  kp : PySem.W.keepIn K (.ref f) = true
  bd : ∃ ds, Vals [dv] ds ∧ Binds K fd ps ds
def T_LETTERS : V := .str "abcdefghijklmnopqrstuvwxyz"
def T_ARROW : V := .str " -> "
def T_LAST_NAME_spellings : V := .str "zzzzzzzz"
def T_SMALL : V := .str "abcdefghijklmnopqrstuvwxyz"
def T_LONGEST_NAME : V := .int 8
def T_LAST_NAME_benchreadings : V := .str "zzzzzzzz"
abbrev s_ini : Stmt := inClass (top 10) 0
abbrev s_NU : Stmt := inClass (top 6) 0
structure Facts (P : Program) (K : PySem.W.Frag) (mg : Str → Option Value) (A : Str → Addr) (B : Str → FuncData) : Prop where
  LETTERS : ∃ t, mg "LETTERS" = some (.str "abcdefghijklmnopqrstuvwxyz" t)
  ARROW : ∃ t, mg "ARROW" = some (.str " -> " t)
  LAST_NAME_spellings : ∃ t, mg "LAST_NAME_spellings" = some (.str "zzzzzzzz" t)
  SMALL : ∃ t, mg "SMALL" = some (.str "abcdefghijklmnopqrstuvwxyz" t)
  LONGEST_NAME : ∃ t, mg "LONGEST_NAME" = some (.int 8 t)
  LAST_NAME_benchreadings : ∃ t, mg "LAST_NAME_benchreadings" = some (.str "zzzzzzzz" t)
  EVENT_BEGINNINGS : mg "EVENT_BEGINNINGS" = some (.ref (A "EVENT_BEGINNINGS"))
  FIRST_BEGINNINGS : mg "FIRST_BEGINNINGS" = some (.ref (A "FIRST_BEGINNINGS"))
  tEB : ∀ H, SqT K H (A "EVENT_BEGINNINGS") [.str "name ", .str "drop ", .str "kind ", .str "let ", .str "bar ", .str "free "]
  tFB : ∀ H, SqT K H (A "FIRST_BEGINNINGS") [.str "bench "]
  b_len : mg "len" = none
  b_int : mg "int" = none
  b_str : mg "str" = none
  b_bool : mg "bool" = none
  b_list : mg "list" = none
  b_tuple : mg "tuple" = none
  b_sorted : mg "sorted" = none
  b_min : mg "min" = none
  b_max : mg "max" = none
  b_any : mg "any" = none
  b_all : mg "all" = none
  b_isinstance : mg "isinstance" = none
  b_repr : mg "repr" = none
  b_range : mg "range" = none
  b_enumerate : mg "enumerate" = none
  gIT : mg "InvalidText" = some (.ref (A "InvalidText"))
  iniT : IniT P K (A "InvalidText") (A "InvalidText.__init__") (B "InvalidText.__init__") s_ini "InvalidText.__init__"
  n1 : PySem.W.findIn K (.ref (A "InvalidText")) "line" = some none
  n2 : PySem.W.findIn K (.ref (A "InvalidText")) "column" = some none
  iC : PySem.W.findIn K (.ref (A "InvalidText")) "__init__" = some (some (.ref (A "InvalidText.__init__")))
  tI : PySem.W.typeIn K (.ref (A "InvalidText.__init__")) = some (.type "function")
  bI : ∀ (s : Shared) (us : List Value), us.length = 3 → BindsTo s (B "InvalidText.__init__") ⟨us, []⟩ ((["self", "line", "column"] : List Str).zip us)
  xf : XfC K (A "InvalidText")
  ex : ExcC K (A "InvalidText")
  gGE : mg "GivenError" = some (.ref (A "GivenError"))
  teGE : PySem.W.exmOne K (.ref (A "InvalidText")) (.ref (A "GivenError")) = some true
  gNU : mg "NotUsable" = some (.ref (A "NotUsable"))
  gIE : mg "InvalidEvent" = some (.ref (A "InvalidEvent"))
  gNT : mg "NothingToUndo" = some (.ref (A "NothingToUndo"))
  gBr : mg "Broken" = some (.ref (A "Broken"))
  gIR : mg "InvalidRow" = some (.ref (A "InvalidRow"))
  gBo : mg "BookError" = some (.ref (A "BookError"))
  gBe : mg "BenchError" = some (.ref (A "BenchError"))
  gTe : mg "TextError" = some (.ref (A "TextError"))
  gPa : mg "PaperError" = some (.ref (A "PaperError"))
  b_ValueError : mg "ValueError" = none
  kNU : PySem.W.kitOne K (.ref (A "InvalidText")) (.ref (A "NotUsable")) = some false
  kIE : PySem.W.kitOne K (.ref (A "InvalidText")) (.ref (A "InvalidEvent")) = some false
  kNT : PySem.W.kitOne K (.ref (A "InvalidText")) (.ref (A "NothingToUndo")) = some false
  kBr : PySem.W.kitOne K (.ref (A "InvalidText")) (.ref (A "Broken")) = some false
  kIT : PySem.W.kitOne K (.ref (A "InvalidText")) (.ref (A "InvalidText")) = some true
  kIR : PySem.W.kitOne K (.ref (A "InvalidText")) (.ref (A "InvalidRow")) = some false
  kBo : PySem.W.kitOne K (.ref (A "InvalidText")) (.ref (A "BookError")) = some false
  kBe : PySem.W.kitOne K (.ref (A "InvalidText")) (.ref (A "BenchError")) = some false
  kTe : PySem.W.kitOne K (.ref (A "InvalidText")) (.ref (A "TextError")) = some true
  kPa : PySem.W.kitOne K (.ref (A "InvalidText")) (.ref (A "PaperError")) = some false
  kVE : PySem.W.kitOne K (.ref (A "InvalidText")) (.type "ValueError") = some true
  teIT : PySem.W.exmOne K (.ref (A "InvalidText")) (.ref (A "InvalidText")) = some true
  -- the defs
  name_end : At K mg "name_end" s_name_end ["text", "at"] (A "name_end") (B "name_end")
  arrow_end : At K mg "arrow_end" s_arrow_end ["text", "at"] (A "arrow_end") (B "arrow_end")
  kind_end : At K mg "kind_end" s_kind_end ["text", "at"] (A "kind_end") (B "kind_end")
  entry_end : At K mg "entry_end" s_entry_end ["text", "before"] (A "entry_end") (B "entry_end")
  greatest_name : At K mg "greatest_name" s_greatest_name ["word"] (A "greatest_name") (B "greatest_name")
  is_integer : At K mg "is_integer" s_is_integer ["thing"] (A "is_integer") (B "is_integer")
  is_number : At K mg "is_number" s_is_number ["thing"] (A "is_number") (B "is_number")
  kind_read : AtD K mg "kind_read" s_kind_read ["text", "line"] (.int 0) (A "kind_read") (B "kind_read")
  entry_read : AtD K mg "entry_read" s_entry_read ["text", "line"] (.int 0) (A "entry_read") (B "entry_read")
  want_text : At K mg "want_text" s_want_text ["text"] (A "want_text") (B "want_text")
  want_line : At K mg "want_line" s_want_line ["line"] (A "want_line") (B "want_line")
  entry_after : At K mg "entry_after" s_entry_after ["text", "line", "before"] (A "entry_after") (B "entry_after")
  common_with : At K mg "common_with" s_common_with ["text", "beginnings"] (A "common_with") (B "common_with")
  letters_ahead : At K mg "letters_ahead" s_letters_ahead ["text"] (A "letters_ahead") (B "letters_ahead")
  name_in : AtK K mg "name_in" s_name_in ["text", "line", "column"] ["line", "column"] 1 2 (A "name_in") (B "name_in")
  entry_in : AtK K mg "entry_in" s_entry_in ["text", "line", "column"] ["line", "column"] 1 2 (A "entry_in") (B "entry_in")
  kind_in : AtK K mg "kind_in" s_kind_in ["text", "line", "column"] ["line", "column"] 1 2 (A "kind_in") (B "kind_in")
  event_in : At K mg "event_in" s_event_in ["text", "line"] (A "event_in") (B "event_in")
  later_reach : At K mg "later_reach" s_later_reach ["text", "before"] (A "later_reach") (B "later_reach")
  later_entry : AtK K mg "later_entry" s_later_entry ["text", "before", "column"] ["column"] 2 1 (A "later_entry") (B "later_entry")
  entries_in : AtK K mg "entries_in" s_entries_in ["text", "column"] ["column"] 1 1 (A "entries_in") (B "entries_in")
  first_in : At K mg "first_in" s_first_in ["text"] (A "first_in") (B "first_in")
  read_event : At K mg "read_event" s_read_event ["text"] (A "read_event") (B "read_event")
  read_log : At K mg "read_log" s_read_log ["lines"] (A "read_log") (B "read_log")
  _law_feed : At K mg "_law_feed" s__law_feed ["script"] (A "_law_feed") (B "_law_feed")
  _law_draw : At K mg "_law_draw" s__law_draw ["feed", "size"] (A "_law_draw") (B "_law_draw")
  _law_pick : At K mg "_law_pick" s__law_pick ["feed", "some"] (A "_law_pick") (B "_law_pick")
  _law_scenes : At K mg "_law_scenes" s__law_scenes [] (A "_law_scenes") (B "_law_scenes")
  _law_turned : At K mg "_law_turned" s__law_turned ["text", "table"] (A "_law_turned") (B "_law_turned")
  _law_book : At K mg "_law_book" s__law_book ["feed"] (A "_law_book") (B "_law_book")
  _law_refusal : At K mg "_law_refusal" s__law_refusal ["error"] (A "_law_refusal") (B "_law_refusal")
  _law_said : At K mg "_law_said" s__law_said ["ask"] (A "_law_said") (B "_law_said")
  _law_alike : At K mg "_law_alike" s__law_alike ["text", "due"] (A "_law_alike") (B "_law_alike")
  _law_is_sign : At K mg "_law_is_sign" s__law_is_sign ["sign"] (A "_law_is_sign") (B "_law_is_sign")
  _law_kind_scan : At K mg "_law_kind_scan" s__law_kind_scan ["text", "at"] (A "_law_kind_scan") (B "_law_kind_scan")
  _law_entry_scan : At K mg "_law_entry_scan" s__law_entry_scan ["text", "at", "before"] (A "_law_entry_scan") (B "_law_entry_scan")
  _law_first_scan : At K mg "_law_first_scan" s__law_first_scan ["text"] (A "_law_first_scan") (B "_law_first_scan")
  _law_line_fault : At K mg "_law_line_fault" s__law_line_fault ["text", "is_opening"] (A "_law_line_fault") (B "_law_line_fault")
  _law_event_of : At K mg "_law_event_of" s__law_event_of ["text"] (A "_law_event_of") (B "_law_event_of")
  _law_first_of : At K mg "_law_first_of" s__law_first_of ["text"] (A "_law_first_of") (B "_law_first_of")
  _law_line : At K mg "_law_line" s__law_line ["event"] (A "_law_line") (B "_law_line")
  _law_entries : At K mg "_law_entries" s__law_entries ["book"] (A "_law_entries") (B "_law_entries")
  _law_some_line : At K mg "_law_some_line" s__law_some_line ["feed", "book", "wish"] (A "_law_some_line") (B "_law_some_line")
  _law_spoilt : At K mg "_law_spoilt" s__law_spoilt ["feed", "line"] (A "_law_spoilt") (B "_law_spoilt")
  _law_event_right : At K mg "_law_event_right" s__law_event_right ["text"] (A "_law_event_right") (B "_law_event_right")
  _law_log_right : At K mg "_law_log_right" s__law_log_right ["lines"] (A "_law_log_right") (B "_law_log_right")
  _law_hands : At K mg "_law_hands" s__law_hands [] (A "_law_hands") (B "_law_hands")
  _law_firsts : At K mg "_law_firsts" s__law_firsts [] (A "_law_firsts") (B "_law_firsts")
/-! ### a while's reading -/
theorem whileN {c : TT} {tb : TS} {D : Ends} {σ : L2.St} {H : Hp} (W : Nat → L2.St → Hp → Prop) (m0 : Nat) (h0 : W m0 σ H)
    (hs : ∀ m σ H, W m σ H → c σ H fun b H1 => if b = true then ∃ N : L2.St → Hp → Prop, (∀ σ' H', N σ' H' → ∃ m', m' < m ∧ W m' σ' H') ∧ tb { D with nx := N, ct := N, bk := D.nx } σ H1 else D.nx σ H1) : tWhile c tb D σ H := ⟨W, ⟨m0, h0⟩, hs⟩
theorem iteB {b : Bool} {A B : Prop} (h : b = true) (k : A) : if b = true then A else B := by rw [if_pos h]; exact k
theorem iteBF {b : Bool} {A B : Prop} (h : b = false) (k : B) : if b = true then A else B := by rw [h]; exact iteF k
theorem iteD {p : Prop} [Decidable p] {A B : Prop} (h : p) (k : A) : if decide p = true then A else B := iteB (decide_eq_true h) k
theorem iteDF {p : Prop} [Decidable p] {A B : Prop} (h : ¬ p) (k : B) : if decide p = true then A else B := iteBF (decide_eq_false h) k
end Og
set_option Elab.async false
set_option linter.all false
set_option maxRecDepth 100000
set_option maxHeartbeats 4000000
namespace Og
open PySem TL
/-- with how many equal signs both begin -/
def cp : List Nat → List Nat → Nat
  | a :: l, b :: m => if a = b then cp l m + 1 else 0
  | _, _ => 0
theorem cp_le : ∀ l m : List Nat, cp l m ≤ l.length ∧ cp l m ≤ m.length
  | [], m => by unfold cp; simp
  | a :: l, [] => by unfold cp; simp
  | a :: l, b :: m => by
    unfold cp
    have := cp_le l m
    split <;> simp <;> omega
theorem cp_step {e : Nat} {l m : List Nat} {c d : Nat} (h : l[e]? = some c) (h' : m[e]? = some d) (hp : e ≤ cp l m) : (c = d → e + 1 ≤ cp l m) ∧ (c ≠ d → cp l m = e) := by
  induction e generalizing l m with
  | zero =>
    cases l with
    | nil => simp at h
    | cons a l =>
      cases m with
      | nil => simp at h'
      | cons b m =>
        simp at h h'
        subst h h'
        unfold cp
        constructor <;> intro q <;> simp [q]
  | succ e ih =>
    cases l with
    | nil => simp at h
    | cons a l =>
      cases m with
      | nil => simp at h'
      | cons b m =>
        simp at h h'
        unfold cp at hp ⊢
        by_cases q : a = b
        · rw [if_pos q] at hp ⊢
          have := ih h h' (by omega)
          constructor
          · intro z; have := this.1 z; omega
          · intro z; have := this.2 z; omega
        · rw [if_neg q] at hp
          omega
theorem cp_end {e : Nat} {l m : List Nat} (h : e = l.length ∨ e = m.length) (hp : e ≤ cp l m) : cp l m = e := by
  have := cp_le l m
  omega
def up (k : Nat) (p : Nat × Bool) : Nat × Bool := (k + p.1, p.2)
theorem up0 (p : Nat × Bool) : up 0 p = p := by unfold up; simp
theorem up_up (j k : Nat) (p : Nat × Bool) : up j (up k p) = up (j + k) p := by unfold up; simp [Nat.add_assoc]
def ARR : List Nat := [32, 45, 62, 32]
def atom (st : Nat) : Bool := decide (1 ≤ st ∧ st ≤ 8)
/-- how far a kind stands, and whether it can end there; f: the open levels, the innermost first; st: 0 open, 1 .. 8 so many letters, 9 closed -/
def kS (r : List Nat) (f : List Bool) (st : Nat) : Nat × Bool :=
  match r with
  | [] => (0, atom st && f.length == 1)
  | c :: r' =>
    if st = 0 ∧ c = 40 then up 1 (kS r' (false :: f) 0)
    else if isL c = true ∧ st < 8 then up 1 (kS r' f (st + 1))
    else if c = 41 ∧ atom st = true ∧ 1 < f.length ∧ f.head? = some true then up 1 (kS r' f.tail 9)
    else if c = 32 ∧ st ≠ 0 then
      if cp (c :: r') ARR < 4 then (cp (c :: r') ARR, false) else up 4 (kS (r'.drop 3) (true :: f.tail) 0)
    else (0, atom st && f.length == 1)
termination_by r.length
decreasing_by all_goals (simp; try omega)
theorem kS_nil (f : List Bool) (st : Nat) : kS [] f st = (0, atom st && f.length == 1) := by rw [kS]
theorem kS_open (r : List Nat) (f : List Bool) : kS (40 :: r) f 0 = up 1 (kS r (false :: f) 0) := by
  rw [kS, if_pos ⟨rfl, rfl⟩]
theorem kS_letter {c : Nat} (r : List Nat) (f : List Bool) {st : Nat} (hc : isL c = true) (hs : st < 8) : kS (c :: r) f st = up 1 (kS r f (st + 1)) := by
  have : c ≠ 40 := fun z => by subst z; exact absurd hc (by decide)
  rw [kS, if_neg (fun z => this z.2), if_pos ⟨hc, hs⟩]
theorem kS_pop {r : List Nat} {f : List Bool} {st : Nat} (h1 : atom st = true) (h2 : 1 < f.length) (h3 : f.head? = some true) : kS (41 :: r) f st = up 1 (kS r f.tail 9) := by
  rw [kS, if_neg (fun z => by have := z.2; omega), if_neg (fun z => absurd z.1 (by decide)), if_pos ⟨rfl, h1, h2, h3⟩]
/-- neither a sign of a name nor a parenthesis that closes -/
theorem kS_rest {c : Nat} {r : List Nat} {f : List Bool} {st : Nat} (h0 : st ≠ 0) (h1 : ¬ (isL c = true ∧ st < 8)) (h2 : ¬ (c = 41 ∧ atom st = true ∧ 1 < f.length ∧ f.head? = some true)) :
    kS (c :: r) f st = if cp (c :: r) ARR < 4 then (cp (c :: r) ARR, (c ≠ 32) && (atom st && f.length == 1)) else up 4 (kS ((c :: r).drop 4) (true :: f.tail) 0) := by
  rw [kS, if_neg (fun z => h0 z.1), if_neg h1, if_neg h2]
  by_cases hc : c = 32
  · rw [if_pos ⟨hc, h0⟩]
    simp [hc]
  · rw [if_neg (fun z => hc z.1)]
    have e : cp (c :: r) ARR = 0 := by unfold ARR; rw [cp, if_neg hc]
    rw [e]
    simp [hc]
theorem kS_stop0 {c : Nat} {r : List Nat} {f : List Bool} (h1 : c ≠ 40) (h2 : isL c = false) : kS (c :: r) f 0 = (0, false) := by
  rw [kS, if_neg (fun z => h1 z.2), if_neg (fun z => by rw [h2] at z; exact absurd z.1 (by decide)), if_neg (fun z => absurd z.2.1 (by decide)), if_neg (fun z => z.2 rfl)]
  rfl
theorem kS_letters (f : List Bool) : ∀ (r : List Nat) (st : Nat), kS r f st = up (lets (8 - st) r) (kS (r.drop (lets (8 - st) r)) f (st + lets (8 - st) r))
  | [], st => by
    have : lets (8 - st) [] = 0 := by cases 8 - st <;> rfl
    rw [this, up0]
    rfl
  | c :: r, st => by
    by_cases hs : st < 8
    · obtain ⟨k, hk⟩ : ∃ k, 8 - st = k + 1 := ⟨7 - st, by omega⟩
      rw [hk]
      unfold lets
      cases hc : isL c with
      | false => simp [up0]
      | true =>
        simp only [if_true]
        rw [kS_letter r f hc hs, kS_letters f r (st + 1), up_up, show 8 - (st + 1) = k by omega, List.drop_succ_cons, Nat.add_comm 1, show st + 1 + lets k r = st + (lets k r + 1) by omega]
    · have : 8 - st = 0 := by omega
      rw [this]
      unfold lets
      simp [up0]
/-- behind the letters there is none more -/
theorem lets_stop : ∀ (n : Nat) (r : List Nat) (c : Nat) (r' : List Nat), r.drop (lets n r) = c :: r' → ¬ (isL c = true ∧ lets n r < n)
  | 0, r, c, r', h => fun z => absurd z.2 (Nat.not_lt_zero _)
  | n + 1, [], c, r', h => by unfold lets at h; simp at h
  | n + 1, d :: r, c, r', h => by
    unfold lets at h ⊢
    cases hd : isL d with
    | false =>
      rw [hd] at h
      simp at h
      rw [← h.1, hd]
      simp
    | true =>
      rw [hd] at h
      simp at h
      have := lets_stop n r c r' h
      simp
      intro z
      have : ¬ lets n r < n := fun q => this ⟨z, q⟩
      omega
theorem kS_comma (q : List Nat) : ∀ (n : Nat) (p : List Nat) (f : List Bool) (st : Nat), p.length ≤ n → kS (p ++ 44 :: q) f st = kS p f st := by
  have hcp : ∀ (p m : List Nat), 44 ∉ m → cp (p ++ 44 :: q) m = cp p m := by
    intro p
    induction p with
    | nil =>
      intro m hm
      cases m with
      | nil => rfl
      | cons b m =>
        show (if 44 = b then _ else 0) = 0
        rw [if_neg (fun z => hm (by rw [z]; exact List.mem_cons_self))]
    | cons a p ih =>
      intro m hm
      cases m with
      | nil => rfl
      | cons b m =>
        show (if a = b then cp (p ++ 44 :: q) m + 1 else 0) = if a = b then cp p m + 1 else 0
        rw [ih m (fun z => hm (List.mem_cons_of_mem _ z))]
  have base : ∀ f st, kS (44 :: q) f st = kS [] f st := fun f st => by
    rw [kS_nil, kS, if_neg (fun z => absurd z.2 (by decide)), if_neg (fun z => absurd z.1 (by decide)), if_neg (fun z => absurd z.1 (by decide)), if_neg (fun z => absurd z.1 (by decide))]
  intro n
  induction n with
  | zero =>
    intro p f st h
    have : p = [] := List.eq_nil_of_length_eq_zero (by omega)
    subst this
    exact base f st
  | succ n ih =>
    intro p f st h
    cases p with
    | nil => exact base f st
    | cons c p =>
      simp at h
      rw [List.cons_append, kS, kS, ih p _ _ h, ih p _ _ h, ih p _ _ h]
      have e : cp (c :: (p ++ 44 :: q)) ARR = cp (c :: p) ARR := hcp (c :: p) ARR (by decide)
      rw [e]
      by_cases h4 : cp (c :: p) ARR < 4
      · simp only [if_pos h4]
      · have l4 := (cp_le (c :: p) ARR).1
        simp at l4
        have : (p ++ 44 :: q).drop 3 = p.drop 3 ++ 44 :: q := List.drop_append_of_le_length (by omega)
        rw [this, ih (p.drop 3) _ _ (by simp; omega)]
/-- what is passed has no comma, and lies within -/
theorem kS_free : ∀ (n : Nat) (r : List Nat) (f : List Bool) (st : Nat), r.length ≤ n → (kS r f st).1 ≤ r.length ∧ 44 ∉ r.take (kS r f st).1 := by
  intro n
  induction n with
  | zero =>
    intro r f st h
    have : r = [] := List.eq_nil_of_length_eq_zero (by omega)
    subst this
    rw [kS_nil]
    simp
  | succ n ih =>
    intro r f st h
    cases r with
    | nil => rw [kS_nil]; simp
    | cons c r =>
      simp at h
      have one : ∀ f st, c ≠ 44 → (up 1 (kS r f st)).1 ≤ (c :: r).length ∧ 44 ∉ (c :: r).take (up 1 (kS r f st)).1 := fun f st hc => by
        have := ih r f st h
        unfold up
        constructor
        · simp; omega
        · rw [Nat.add_comm, List.take_succ_cons]
          simp
          exact ⟨fun z => hc z.symm, this.2⟩
      rw [kS]
      split
      · rename_i q
        exact one _ _ (by omega)
      · split
        · rename_i q
          exact one _ _ (fun z => by subst z; exact absurd q.1 (by decide))
        · split
          · rename_i q
            exact one _ _ (by omega)
          · split
            · rename_i q
              have l4 := cp_le (c :: r) ARR
              have pre : ∀ (k : Nat) (l m : List Nat), k ≤ cp l m → 44 ∉ m → 44 ∉ l.take k := by
                intro k
                induction k with
                | zero => simp
                | succ k ihk =>
                  intro l m hk hm
                  cases l with
                  | nil => simp
                  | cons a l =>
                    cases m with
                    | nil => unfold cp at hk; omega
                    | cons b m =>
                      unfold cp at hk
                      by_cases z : a = b
                      · rw [if_pos z] at hk
                        rw [List.take_succ_cons]
                        simp
                        simp at hm
                        exact ⟨by rw [z]; exact hm.1, ihk l m (by omega) hm.2⟩
                      · rw [if_neg z] at hk; omega
              split
              · exact ⟨l4.1, pre _ _ ARR (Nat.le_refl _) (by decide)⟩
              · rename_i h4
                have h4' : 4 ≤ cp (c :: r) ARR := by omega
                have a4 := pre 4 _ ARR h4' (by decide)
                have := ih (r.drop 3) (true :: f.tail) 0 (by simp; omega)
                simp at l4
                unfold up
                constructor
                · have t := this.1
                  simp at t ⊢
                  omega
                · show 44 ∉ (c :: r).take (4 + _)
                  rw [List.take_add]
                  simp
                  simp at a4
                  exact ⟨a4.1, a4.2, this.2⟩
            · simp
end Og
set_option Elab.async false
set_option linter.all false
set_option maxRecDepth 100000
set_option maxHeartbeats 4000000
namespace Og
open PySem PySem.Spec PyProof.Rows L2 TL
variable {P : Program} {w : World} {K : PySem.W.Frag} {mg : Str → Option Value} {base : Heap} {A : Str → Addr} {B : Str → FuncData}
abbrev LIM : Nat := 1000000
theorem lim_line {l : List Nat} (h : l.length ≤ LIM) : (S l).length ≤ sizeLine := by
  rw [S_len, sizeLine_eq]
  unfold LIM at h
  omega
theorem in_letters (c : Nat) : (c ∈ (("abcdefghijklmnopqrstuvwxyz" : Str)).cps.toList) ↔ isL c = true := by
  have e : (("abcdefghijklmnopqrstuvwxyz" : Str)).cps.toList = [97, 98, 99, 100, 101, 102, 103, 104, 105, 106, 107, 108, 109, 110, 111, 112, 113, 114, 115, 116, 117, 118, 119, 120, 121, 122] := by decide +kernel
  rw [e]
  unfold isL
  simp only [List.mem_cons, List.not_mem_nil, or_false, decide_eq_true_eq]
  omega
def spNameEnd : Sp := fun vs H Q _ => ∃ (l : List Nat) (a : Nat), vs = [.str (S l), .int a] ∧ l.length ≤ LIM ∧ a ≤ LIM ∧ Q (.int ((a + lets 8 (l.drop a) : Nat) : Int)) H
abbrev N_name_end : List Str := ["text", "at", "end"]
abbrev P_name_end : List Str := ["text", "at"]
theorem sc_name_end : FnScope N_name_end P_name_end (defScope s_name_end) := ⟨rfl, rfl, rfl, by decide +kernel, rfl, by decide +kernel, by decide +kernel⟩
theorem ok_name_end (T : Facts P K mg A B) : FnOk P w K mg base CX0 1 (A "name_end") (B "name_end") ["text", "at"] spNameEnd := by
  obtain ⟨tk, hL⟩ := T.LETTERS
  refine T.name_end.fn.ok sc_name_end (fun vs H Q E h => ?_) (fun cdv Ar outer s H vs Q E hr h => ?_)
  · obtain ⟨l, a, rfl, _⟩ := h
    rfl
  · obtain ⟨l, a, rfl, hl, ha, k⟩ := h
    refine ⟨_, ((pss_cons (ps_set (i := 2) sc_name_end.nd rfl (Or.inl rfl) (pv 1))
      (pss_cons (ps_while PassesOwn.never (PW.pt (pw_and (pt_cmpR op_lt (pv 2) (pe_callB call_len_str (by rfl) T.b_len PySem.boot_len (pa_cons (pv 0) pa_nil)) (nomark _)) (pw_and (pt_cmpR op_lt (pv 2) (pe_op op_add (pv 1) pe_int) (nomark _)) (pw_and1 (pt_cmpR op_in_sign (pe_ix ix_str (pv 0) (pv 2) (fun _ _ => rfl)) (pe_glob (v := T_LETTERS) rfl T.LETTERS.choose_spec ⟨_, rfl⟩) (by rfl)))))) (pss_one (ps_set (i := 2) sc_name_end.nd rfl (Or.inl rfl) (pe_op op_add (pv 2) pe_int))))
      (pss_one (ps_ret (pv 2)))))), ?_⟩
    refine ⟨_, rfl, ?_⟩
    refine whileN (fun m σ H' => ∃ e, H' = H ∧ σ = [some (.str (S l)), some (.int a), some (.int ((a + e : Nat) : Int))] ∧ m = 8 - e ∧ e ≤ lets 8 (l.drop a)) 8 ⟨0, rfl, rfl, rfl, Nat.zero_le _⟩ ?_
    rintro m σ H' ⟨e, rfl, rfl, rfl, he⟩
    have hle := lets_le 8 (l.drop a)
    rw [List.length_drop] at hle
    refine ⟨_, rfl, _, rfl, _, rfl, lim_line hl, _, _, rfl, rfl, _, rfl, ?_⟩
    have fin : a + lets 8 (l.drop a) = a + e → tRet (tVar 2) { nx := fun _ H' => Q .non H', rt := Q } [some (.str (S l)), some (.int a), some (.int ((a + e : Nat) : Int))] H' := fun q => ⟨_, rfl, by rw [← q]; exact k⟩
    by_cases h1 : a + e < l.length
    · refine iteD (by rw [S_len]; omega) ?_
      refine ⟨_, rfl, _, rfl, _, _, rfl, rfl, _, _, rfl, rfl, _, rfl, ?_⟩
      by_cases h2 : e < 8
      · refine iteD (by omega) ?_
        have hc : l[a + e]? = some l[a + e] := List.getElem?_eq_getElem h1
        refine ⟨_, rfl, _, rfl, _, _, l[a + e], rfl, rfl, lim_line hl, atI_nat hc, _, _, rfl, rfl, _, rfl, ?_⟩
        have st := lets_step (n := 8) (e := e) (l := l.drop a) h2 (by rw [List.getElem?_drop]; exact hc) he
        cases hi : isL l[a + e] with
        | true =>
          refine iteD ((in_letters _).mpr hi) ⟨_, fun _ _ z => z, _, rfl, _, _, rfl, rfl, ?_⟩
          exact ⟨8 - (e + 1), by omega, e + 1, rfl, by push_cast; rfl, rfl, st.1 hi⟩
        | false => exact iteDF (fun z => by rw [(in_letters _).mp z] at hi; cases hi) (fin (by rw [st.2 hi]))
      · exact iteDF (by omega) (iteF (fin (by rw [lets_end (n := 8) (.inl (by omega)) he])))
    · exact iteDF (by rw [S_len]; omega) (iteF (fin (by rw [lets_end (n := 8) (.inr (by rw [List.length_drop]; omega)) he])))
theorem arrow_tl : (" -> " : Str) = S ARR := by decide +kernel
theorem S1 (l : List Nat) (k : Nat) : S ((l.drop k).take 1) = match l[k]? with | some c => S [c] | none => S [] := by
  cases h : l[k]? with
  | none => simp at h; rw [List.drop_eq_nil_of_le h]; rfl
  | some c =>
    obtain ⟨hk, hc⟩ := List.getElem?_eq_some_iff.mp h
    rw [List.drop_eq_getElem_cons hk, hc]
    rfl
def spArrowEnd : Sp := fun vs H Q _ => ∃ (l : List Nat) (a : Nat), vs = [.str (S l), .int a] ∧ l.length ≤ LIM ∧ Q (.int ((a + cp (l.drop a) ARR : Nat) : Int)) H
abbrev N_arrow_end : List Str := ["text", "at", "many"]
abbrev P_arrow_end : List Str := ["text", "at"]
theorem sc_arrow_end : FnScope N_arrow_end P_arrow_end (defScope s_arrow_end) := ⟨rfl, rfl, rfl, by decide +kernel, rfl, by decide +kernel, by decide +kernel⟩
theorem ok_arrow_end (T : Facts P K mg A B) : FnOk P w K mg base CX0 1 (A "arrow_end") (B "arrow_end") ["text", "at"] spArrowEnd := by
  refine T.arrow_end.fn.ok sc_arrow_end (fun vs H Q E h => ?_) (fun cdv Ar outer s H vs Q E hr h => ?_)
  · obtain ⟨l, a, rfl, _⟩ := h
    rfl
  · obtain ⟨l, a, rfl, hl, k⟩ := h
    refine ⟨_, ((pss_cons (ps_set (i := 2) sc_arrow_end.nd rfl (Or.inl rfl) pe_int)
      (pss_cons (ps_while PassesOwn.never (PW.pt (pw_and (pt_cmpR op_lt (pv 2) (pe_callB call_len_str (by rfl) T.b_len PySem.boot_len (pa_cons (pe_glob (v := T_ARROW) rfl T.ARROW.choose_spec ⟨_, rfl⟩) pa_nil)) (nomark _)) (pw_and1 (pt_cmpR op_eq (pe_slice sl_str (pv 0) (po_some (pe_op op_add (pv 1) (pv 2))) (po_some (pe_op op_add (pe_op op_add (pv 1) (pv 2)) pe_int))) (pe_ix ix_str (pe_glob (v := T_ARROW) rfl T.ARROW.choose_spec ⟨_, rfl⟩) (pv 2) (fun _ _ => rfl)) (nomark _))))) (pss_one (ps_set (i := 2) sc_arrow_end.nd rfl (Or.inl rfl) (pe_op op_add (pv 2) pe_int))))
      (pss_one (ps_ret (pe_op op_add (pv 1) (pv 2))))))), ?_⟩
    refine whileN (fun m σ H' => ∃ e, H' = H ∧ σ = [some (.str (S l)), some (.int a), some (.int (e : Nat))] ∧ m = 4 - e ∧ e ≤ cp (l.drop a) ARR) 4 ⟨0, rfl, rfl, rfl, Nat.zero_le _⟩ ?_
    rintro m σ H' ⟨e, rfl, rfl, rfl, he⟩
    have hle := cp_le (l.drop a) ARR
    have fin : cp (l.drop a) ARR = e → tRet (tOp (rI0 fun i j => V.int (i + j)) (tVar 1) (tVar 2)) { nx := fun _ H' => Q .non H', rt := Q } [some (.str (S l)), some (.int a), some (.int (e : Nat))] H' := fun q => ⟨_, rfl, _, rfl, _, _, rfl, rfl, by
      rw [q] at k
      push_cast at k
      exact k⟩
    refine ⟨_, rfl, (" -> " : Str), rfl, by rw [sizeLine_eq]; decide, _, _, rfl, rfl, _, rfl, ?_⟩
    have l4 : ((" -> " : Str).length : Int) = 4 := by decide
    by_cases h1 : e < 4
    · refine iteD (by rw [l4]; omega) ?_
      obtain ⟨d, hd⟩ : ∃ d, ARR[e]? = some d := ⟨ARR[e], List.getElem?_eq_getElem h1⟩
      refine ⟨_, rfl, _, rfl, _, rfl, _, _, rfl, rfl, _, rfl, _, rfl, _, rfl, _, _, rfl, rfl, _, _, rfl, rfl, _, rfl, S l, rfl, lim_line hl, ?_⟩
      refine ⟨_, rfl, (" -> " : Str), _, d, rfl, rfl, by rw [sizeLine_eq]; decide, atI_nat (by rw [arrow_tl]; exact hd), ?_⟩
      rw [cutNN l (a + e) (a + e + 1) (by push_cast; rfl) (by push_cast; rfl), show a + e + 1 - (a + e) = 1 by omega, S1]
      refine ⟨rfl, _, rfl, ?_⟩
      cases hc : l[a + e]? with
      | none =>
        refine iteDF (fun z => by cases z) (fin (cp_end (.inl ?_) he))
        simp at hc
        rw [List.length_drop] at hle ⊢
        omega
      | some c =>
        have st := cp_step (e := e) (l := l.drop a) (m := ARR) (c := c) (d := d) (by rw [List.getElem?_drop]; exact hc) hd he
        by_cases q : c = d
        · refine iteD (by subst q; rfl) ⟨_, fun _ _ z => z, _, rfl, _, _, rfl, rfl, ?_⟩
          exact ⟨4 - (e + 1), by omega, e + 1, rfl, by push_cast; rfl, rfl, st.1 q⟩
        · exact iteDF (fun z => q (by have := S_inj (V.str.inj z); simpa using this)) (fin (st.2 q))
    · exact iteDF (by rw [l4]; omega) (iteF (fin (cp_end (.inr (by unfold ARR at *; simp at *; omega)) he)))
/-- the levels as the text has them -/
def lv (f : List Bool) : List Nat := f.reverse.map fun b => if b then 43 else 46
theorem lv_cons (b : Bool) (f : List Bool) : lv (b :: f) = lv f ++ [if b then 43 else 46] := by unfold lv; simp
theorem lv_len (f : List Bool) : (lv f).length = f.length := by unfold lv; simp
theorem dot_tl : ("." : Str) = S [46] := by decide +kernel
theorem plus_tl : ("+" : Str) = S [43] := by decide +kernel
theorem open_tl : ("(" : Str) = S [40] := by decide +kernel
theorem shut_tl : (")" : Str) = S [41] := by decide +kernel
theorem S_cons_ne (c d : Nat) (h : c ≠ d) : S [c] ≠ S [d] := fun z => h (by have := S_inj z; simpa using this)
theorem S_none_ne (c : Nat) : S [] ≠ S [c] := fun z => by have := S_inj z; simp at this
theorem kS_none {r : List Nat} {f : List Bool} (h1 : r[0]? ≠ some 40) (h2 : lets 8 r = 0) : kS r f 0 = (0, false) := by
  cases r with
  | nil => rw [kS_nil]; rfl
  | cons c r =>
    refine kS_stop0 (fun z => h1 (by rw [z]; rfl)) ?_
    unfold lets at h2
    cases hc : isL c with
    | false => rfl
    | true => rw [hc] at h2; simp at h2
theorem lv_last {f : List Bool} {b : Bool} {g : List Bool} (h : f = b :: g) : atI (lv f) (-1) = some (if b then 43 else 46) := by
  subst h
  rw [lv_cons]
  exact atI_last _ _
def spKindEnd : Sp := fun vs H Q _ => ∃ (l : List Nat) (a : Nat), vs = [.str (S l), .int a] ∧ l.length ≤ LIM ∧ a ≤ l.length ∧
  ∀ p, H p = none → Q (.ref p) (upd H p (.tup [.int ((up a (kS (l.drop a) [false] 0)).1 : Nat), .bl ((kS (l.drop a) [false] 0).2 && decide ((up a (kS (l.drop a) [false] 0)).1 = l.length))]))
abbrev N_kind_end : List Str := ["text", "at", "levels", "end"]
abbrev P_kind_end : List Str := ["text", "at"]
theorem sc_kind_end : FnScope N_kind_end P_kind_end (defScope s_kind_end) := ⟨rfl, rfl, rfl, by decide +kernel, rfl, by decide +kernel, by decide +kernel⟩
theorem ok_kind_end (T : Facts P K mg A B) : FnOk P w K mg base CX0 2 (A "kind_end") (B "kind_end") ["text", "at"] spKindEnd := by
  refine T.kind_end.fn.ok sc_kind_end (fun vs H Q E h => ?_) (fun cdv Ar outer s H vs Q E hr h => ?_)
  · obtain ⟨l, a, rfl, _⟩ := h
    rfl
  · obtain ⟨l, a0, rfl, hl, ha0, k⟩ := h
    refine ⟨_, ((pss_cons (ps_set (i := 2) sc_kind_end.nd rfl (Or.inl rfl) pe_str)
      (pss_one (ps_while PassesOwn.never (pt_val pe_bl) (pss_cons (ps_while PassesOwn.never (pt_cmpR op_eq (pe_slice sl_str (pv 0) (po_some (pv 1)) (po_some (pe_op op_add (pv 1) pe_int))) pe_str (nomark _)) (pss_cons (ps_set (i := 2) sc_kind_end.nd rfl (Or.inl rfl) (pe_op op_add_str (pv 2) pe_str))
      (pss_one (ps_set (i := 1) sc_kind_end.nd rfl (Or.inl rfl) (pe_op op_add (pv 1) pe_int)))))
      (pss_cons (ps_set (i := 3) sc_kind_end.nd rfl (Or.inl rfl) (pe_call (ok_name_end T) (hr.mono (by decide)) rfl T.name_end.mg T.name_end.kp T.name_end.bi .nil pass0 (pa_cons (pv 0) (pa_cons (pv 1) pa_nil))))
      (pss_cons (ps_if (pt_cmpR op_eq (pv 3) (pv 1) (nomark _)) (pss_one (ps_ret (pe_tup (pa_cons (pv 1) (pa_cons pe_bl pa_nil))))) pss_nil)
      (pss_cons (ps_set (i := 1) sc_kind_end.nd rfl (Or.inl rfl) (pv 3))
      (pss_cons (ps_if (pt_cmpR op_eq (pv 1) (pe_callB call_len_str (by rfl) T.b_len PySem.boot_len (pa_cons (pv 0) pa_nil)) (nomark _)) (pss_one (ps_ret (pe_tup (pa_cons (pv 1) (pa_cons (pe_cmpR op_eq (pe_callB call_len_str (by rfl) T.b_len PySem.boot_len (pa_cons (pv 2) pa_nil)) pe_int (nomark _)) pa_nil))))) pss_nil)
      (pss_cons (ps_if (PW.pt (pw_and (pt_cmpR op_eq (pe_ix ix_str (pv 0) (pv 1) (fun _ _ => rfl)) pe_str (nomark _)) (pw_and (pt_cmpR op_gt (pe_callB call_len_str (by rfl) T.b_len PySem.boot_len (pa_cons (pv 2) pa_nil)) pe_int (nomark _)) (pw_and1 (pt_cmpR op_eq (pe_ix ix_str (pv 2) (pe_un un_neg pe_int) (fun _ _ => rfl)) pe_str (nomark _)))))) (pss_cons (ps_set (i := 2) sc_kind_end.nd rfl (Or.inl rfl) (pe_slice sl_str (pv 2) po_none (po_some (pe_un un_neg pe_int))))
      (pss_one (ps_set (i := 1) sc_kind_end.nd rfl (Or.inl rfl) (pe_op op_add (pv 1) pe_int)))) pss_nil)
      (pss_cons (ps_set (i := 3) sc_kind_end.nd rfl (Or.inl rfl) (pe_call (ok_arrow_end T) (hr.mono (by decide)) rfl T.arrow_end.mg T.arrow_end.kp T.arrow_end.bi .nil pass0 (pa_cons (pv 0) (pa_cons (pv 1) pa_nil))))
      (pss_cons (ps_if (pt_cmpR op_lt (pv 3) (pe_op op_add (pv 1) (pe_callB call_len_str (by rfl) T.b_len PySem.boot_len (pa_cons (pe_glob (v := T_ARROW) rfl T.ARROW.choose_spec ⟨_, rfl⟩) pa_nil))) (nomark _)) (pss_one (ps_ret (pe_tup (pa_cons (pv 3) (pa_cons pe_bl pa_nil))))) pss_nil)
      (pss_cons (ps_set (i := 2) sc_kind_end.nd rfl (Or.inl rfl) (pe_op op_add_str (pe_slice sl_str (pv 2) po_none (po_some (pe_un un_neg pe_int))) pe_str))
      (pss_one (ps_set (i := 1) sc_kind_end.nd rfl (Or.inl rfl) (pv 3)))))))))))))))), ?_⟩
    have kk : ∀ (R : Nat × Bool) (e : Nat) (b : Bool), up a0 (kS (l.drop a0) [false] 0) = R → R.1 = e → (R.2 && decide (e = l.length)) = b → ∀ p, H p = none → Q (.ref p) (upd H p (.tup [.int (e : Nat), .bl b])) := fun R e b q1 q2 q3 p hp => by
      have z := k p hp
      have e2 : (kS (l.drop a0) [false] 0).2 = R.2 := by rw [← q1]; rfl
      rw [q1, e2, q2, q3] at z
      exact z
    generalize hK : up a0 (kS (l.drop a0) [false] 0) = KK at kk
    refine whileN (fun m σ H' => ∃ a f ev, H' = H ∧ σ = [some (.str (S l)), some (.int (a : Nat)), some (.str (S (lv f))), ev] ∧ m = l.length + 1 - a ∧ a ≤ l.length ∧ f ≠ [] ∧ f.length ≤ a + 1 ∧ up a (kS (l.drop a) f 0) = KK) (l.length + 1 - a0) ⟨a0, [false], none, rfl, by rw [dot_tl]; rfl, rfl, ha0, by simp, by simp, hK⟩ ?_
    rintro m σ H' ⟨a, f, ev, rfl, rfl, rfl, ha, hf, hfl, hR⟩
    refine ⟨true, rfl, iteT ⟨_, fun _ _ z => z, ?_⟩⟩
    -- the parentheses that open
    refine whileN (fun m σ H1 => ∃ a1 f1, H1 = H' ∧ σ = [some (.str (S l)), some (.int (a1 : Nat)), some (.str (S (lv f1))), ev] ∧ m = l.length + 1 - a1 ∧ a ≤ a1 ∧ a1 ≤ l.length ∧ f1 ≠ [] ∧ f1.length ≤ a1 + 1 ∧ up a1 (kS (l.drop a1) f1 0) = KK) (l.length + 1 - a) ⟨a, f, rfl, rfl, rfl, Nat.le_refl _, ha, hf, hfl, hR⟩ ?_
    rintro m σ H1 ⟨a1, f1, rfl, rfl, rfl, ha1, hl1, hf1, hfl1, hR1⟩
    refine ⟨_, rfl, _, rfl, _, rfl, _, rfl, _, _, rfl, rfl, _, rfl, S l, rfl, lim_line hl, ?_⟩
    rw [cutNN l a1 (a1 + 1) rfl (by push_cast; rfl), show a1 + 1 - a1 = 1 by omega, S1, open_tl]
    refine ⟨rfl, _, rfl, ?_⟩
    by_cases hop : l[a1]? = some 40
    · rw [hop]
      refine iteD rfl ⟨_, fun _ _ z => z, ?_⟩
      obtain ⟨hlt, hc⟩ := List.getElem?_eq_some_iff.mp hop
      refine ⟨_, rfl, _, _, rfl, rfl, ?_, _, rfl, _, _, rfl, rfl, l.length + 1 - (a1 + 1), by omega, a1 + 1, false :: f1, rfl, ?_, rfl, by omega, by omega, by simp, by simp; omega, ?_⟩
      · rw [dot_tl, S_len, S_len, lv_len, sizeLine_eq]; unfold LIM at hl; simp; omega
      · rw [dot_tl, S_app, lv_cons]; push_cast; rfl
      · rw [List.drop_eq_getElem_cons hlt, hc, kS_open, up_up] at hR1
        exact hR1
    have nop : (match l[a1]? with | some c => S [c] | none => S []) ≠ S [40] := by
      cases h : l[a1]? with
      | none => exact S_none_ne 40
      | some c => exact S_cons_ne c 40 fun z => hop (by rw [h, z])
    refine iteDF (fun z => nop (V.str.inj z)) ?_
    -- the name
    refine ⟨_, rfl, _, rfl, l, a1, rfl, hl, by unfold LIM at *; omega, ?_⟩
    have hlets := kS_letters f1 (l.drop a1) 0
    rw [Nat.sub_zero, Nat.zero_add] at hlets
    have hle := lets_le 8 (l.drop a1)
    rw [List.length_drop] at hle
    have hstop := lets_stop 8 (l.drop a1)
    generalize hn : lets 8 (l.drop a1) = n at hlets hle hstop
    refine ⟨_, rfl, _, rfl, rfl, _, rfl, ?_⟩
    by_cases hn0 : n = 0
    · subst hn0
      refine iteD (by simp) ?_
      refine ⟨_, rfl, by show 2 ≤ sizeLine; rw [sizeLine_eq]; decide, fun p hp => ?_⟩
      rw [kS_none (by rw [List.getElem?_drop]; exact hop) hn] at hR1
      exact kk _ a1 false hR1.symm rfl rfl p hp
    refine iteDF (fun z => hn0 (by have := V.int.inj z; omega)) ?_
    have nL : ((S l).length : Int) = (l.length : Nat) := by rw [S_len]
    refine ⟨_, rfl, _, rfl, _, rfl, _, rfl, lim_line hl, rfl, _, rfl, ?_⟩
    rw [List.drop_drop] at hlets hstop
    have hf0 : f1 ≠ [] := hf1
    by_cases hend : a1 + n = l.length
    · refine iteD (by rw [nL, hend]) ?_
      refine ⟨_, rfl, _, rfl, _, rfl, by rw [S_len, lv_len, sizeLine_eq]; unfold LIM at hl; omega, rfl, ?_⟩
      refine ⟨by show 2 ≤ sizeLine; rw [sizeLine_eq]; decide, fun p hp => ?_⟩
      rw [hlets, List.drop_eq_nil_of_le (by omega), kS_nil, up_up] at hR1
      have ha : atom n = true := by unfold atom; exact decide_eq_true (by omega)
      refine kk _ (a1 + n) _ hR1.symm rfl ?_ p hp
      show (atom n && f1.length == 1 && decide (a1 + n = l.length)) = decide (V.int ((S (lv f1)).length : Nat) = V.int 1)
      rw [ha, decide_eq_true hend, S_len, lv_len]
      by_cases h1 : f1.length = 1
      · rw [h1]; rfl
      · have : (f1.length == 1) = false := by simpa using h1
        rw [this]
        simp only [Bool.and_false, Bool.false_and]
        exact (decide_eq_false fun z => h1 (by have := V.int.inj z; omega)).symm
    refine iteDF (fun z => hend (by have := V.int.inj z; omega)) ?_
    have hlt : a1 + n < l.length := by omega
    obtain ⟨c, hc⟩ : ∃ c, l[a1 + n]? = some c := ⟨l[a1 + n], List.getElem?_eq_getElem hlt⟩
    have hdrop : l.drop (a1 + n) = c :: l.drop (a1 + n + 1) := by
      obtain ⟨h1, h2⟩ := List.getElem?_eq_some_iff.mp hc
      rw [List.drop_eq_getElem_cons h1, h2]
    have hat : atom n = true := by unfold atom; exact decide_eq_true (by omega)
    have hns : ¬ (isL c = true ∧ n < 8) := hstop c _ hdrop
    rw [hlets, up_up] at hR1
    -- behind the name (and a parenthesis that shuts): an arrow
    have arrow : ∀ (a2 st : Nat) (g : List Bool) (e2 : V), a2 ≤ l.length → a1 + n ≤ a2 → g ≠ [] → g.length ≤ a2 + 1 → st ≠ 0 → (l[a2]? = none → atom st = false) → (∀ c r, l.drop a2 = c :: r → ¬ (isL c = true ∧ st < 8)) → (∀ c r, l.drop a2 = c :: r → ¬ (c = 41 ∧ atom st = true ∧ 1 < g.length ∧ g.head? = some true)) → up a2 (kS (l.drop a2) g st) = KK →
        kS (l.drop a2) g st = (if cp (l.drop a2) ARR < 4 then (cp (l.drop a2) ARR, (kS (l.drop a2) g st).2) else up 4 (kS (l.drop (a2 + 4)) (true :: g.tail) 0)) ∧ (cp (l.drop a2) ARR < 4 → ((kS (l.drop a2) g st).2 && decide (a2 + cp (l.drop a2) ARR = l.length)) = false) := by
      intro a2 st g e2 ha2 hn2 hg hgl hst hnone h1 h2 hR2
      cases hd : l.drop a2 with
      | nil =>
        have hge : l.length ≤ a2 := by simpa using hd
        have q := hnone (List.getElem?_eq_none hge)
        rw [kS_nil, q]
        exact ⟨by simp [cp], fun _ => by simp⟩
      | cons d r =>
        have z := kS_rest (r := r) (f := g) hst (h1 d r hd) (h2 d r hd)
        have hle2 := cp_le (d :: r) ARR
        rw [← hd, List.length_drop, hd] at hle2
        by_cases h4 : cp (d :: r) ARR < 4
        · rw [if_pos h4] at z ⊢
          refine ⟨by rw [z], fun _ => ?_⟩
          rw [z]
          by_cases hd32 : d = 32
          · simp [hd32]
          · have : cp (d :: r) ARR = 0 := by unfold ARR; rw [cp, if_neg hd32]
            rw [this]
            have : decide (a2 + 0 = l.length) = false := decide_eq_false fun q => by
              have : l.drop a2 = [] := List.drop_eq_nil_of_le (by omega)
              rw [hd] at this; cases this
            rw [this, Bool.and_false]
        · rw [if_neg h4] at z ⊢
          refine ⟨?_, fun q => absurd q h4⟩
          rw [z, ← hd, List.drop_drop]
    have hcI : l[a1 + n]? = some c := hc
    refine ⟨_, rfl, _, rfl, S l, _, c, rfl, rfl, lim_line hl, atI_nat hc, rfl, _, rfl, ?_⟩
    rw [shut_tl]
    have nopop : (¬ (c = 41 ∧ atom n = true ∧ 1 < f1.length ∧ f1.head? = some true)) → (∀ c r, l.drop (a1 + n) = c :: r → ¬ (c = 41 ∧ atom n = true ∧ 1 < f1.length ∧ f1.head? = some true)) := fun h d r e => by
      rw [hdrop] at e
      injection e with e1 e2
      rw [← e1]
      exact h
    have hX : ∀ c r, l.drop (a1 + n) = c :: r → ¬ (isL c = true ∧ n < 8) := fun d r e => hstop d r e
    obtain ⟨bt, gt, hbt⟩ : ∃ b g', f1 = b :: g' := by
      cases hq : f1 with
      | nil => exact absurd hq hf1
      | cons b g' => exact ⟨b, g', rfl⟩
    have stay : (¬ (c = 41 ∧ atom n = true ∧ 1 < f1.length ∧ f1.head? = some true)) → ((a1 + n ≤ l.length) ∧ (a1 + n ≤ a1 + n) ∧ (f1 ≠ []) ∧ (f1.length ≤ a1 + n + 1) ∧ (n ≠ 0) ∧ (l[a1 + n]? = none → atom n = false)) := fun _ => ⟨by omega, Nat.le_refl _, hf1, by omega, hn0, fun z => by rw [hc] at z; cases z⟩
    by_cases hcs : c = 41
    · refine iteD (by rw [hcs]; rfl) ?_
      refine ⟨_, rfl, S (lv f1), rfl, by rw [S_len, lv_len, sizeLine_eq]; unfold LIM at hl; omega, _, _, rfl, rfl, _, rfl, ?_⟩
      by_cases hlen : 1 < f1.length
      · refine iteD (by rw [S_len, lv_len]; omega) ?_
        refine ⟨_, rfl, _, rfl, S (lv f1), _, _, rfl, rfl, by rw [S_len, lv_len, sizeLine_eq]; unfold LIM at hl; omega, lv_last hbt, rfl, _, rfl, ?_⟩
        rw [plus_tl]
        cases hb : bt with
        | true =>
          rw [hb] at hbt
          refine iteD rfl ?_
          have hpop : atom n = true ∧ 1 < f1.length ∧ f1.head? = some true := ⟨hat, hlen, by rw [hbt]; rfl⟩
          refine ⟨_, rfl, _, rfl, _, rfl, S (lv f1), rfl, by rw [S_len, lv_len, sizeLine_eq]; unfold LIM at hl; omega, ?_⟩
          refine ⟨_, rfl, _, _, rfl, rfl, ?_⟩
          rw [show cutS (S (lv f1)) none (some (-1)) = S (lv gt) by rw [hbt, lv_cons, cutLast]]
          rw [hdrop, hcs, kS_pop hpop.1 hpop.2.1 hpop.2.2, up_up, hbt] at hR1
          have hR2 : up (a1 + n + 1) (kS (l.drop (a1 + n + 1)) gt 9) = KK := hR1
          have hlen2 : 1 < gt.length + 1 := by rw [hbt] at hlen; simpa using hlen
          have hfl2 : gt.length + 1 ≤ a1 + 1 := by rw [hbt] at hfl1; simpa using hfl1
          have hA2 : a1 + n + 1 ≤ l.length := by omega
          have hN2 : a1 + n ≤ a1 + n + 1 := by omega
          have hG2 : gt ≠ [] := fun z => by rw [z] at hlen2; simp at hlen2
          have hL2 : gt.length ≤ a1 + n + 1 + 1 := by omega
          have hS2 : (9 : Nat) ≠ 0 := by decide
          have hO2 : l[a1 + n + 1]? = none → atom 9 = false := fun _ => rfl
          have hX2 : ∀ c r, l.drop (a1 + n + 1) = c :: r → ¬ (isL c = true ∧ 9 < 8) := fun _ _ _ z => absurd z.2 (by decide)
          have hY2 : ∀ c r, l.drop (a1 + n + 1) = c :: r → ¬ (c = 41 ∧ atom 9 = true ∧ 1 < gt.length ∧ gt.head? = some true) := fun _ _ _ z => absurd z.2.1 (by decide)
          obtain ⟨hA, hB⟩ := arrow (a1 + n + 1) (9) (gt) .non hA2 hN2 hG2 hL2 hS2 hO2 hX2 hY2 hR2
          refine ⟨_, rfl, _, rfl, l, a1 + n + 1, rfl, hl, ?_⟩
          refine ⟨_, rfl, _, rfl, (" -> " : Str), rfl, by rw [sizeLine_eq]; decide, _, _, rfl, rfl, _, _, rfl, rfl, _, rfl, ?_⟩
          have l4 : ((" -> " : Str).length : Int) = 4 := by decide
          by_cases h4 : cp (l.drop (a1 + n + 1)) ARR < 4
          · refine iteD (by rw [l4]; omega) ⟨_, rfl, by show 2 ≤ sizeLine; rw [sizeLine_eq]; decide, fun p hp => ?_⟩
            refine kk _ (a1 + n + 1 + cp (l.drop (a1 + n + 1)) ARR) false hR2.symm ?_ (hB h4) p hp
            rw [hA, if_pos h4]
            rfl
          · refine iteDF (by rw [l4]; omega) ?_
            have c4 : cp (l.drop (a1 + n + 1)) ARR = 4 := by
              have := (cp_le (l.drop (a1 + n + 1)) ARR).2
              unfold ARR at this h4 ⊢
              simp at this
              omega
            have cl := (cp_le (l.drop (a1 + n + 1)) ARR).1
            rw [c4, List.length_drop] at cl
            obtain ⟨b2, g2, hg2⟩ : ∃ b g', gt = b :: g' := by
              cases hq : gt with
              | nil => exact absurd hq hG2
              | cons b g' => exact ⟨b, g', rfl⟩
            have hl3 := hL2
            rw [hg2] at hl3
            simp at hl3
            have hl2 : g2.length + 1 ≤ l.length + 1 := by
              have := hL2
              rw [hg2] at this
              simp at this
              omega
            refine ⟨_, rfl, _, rfl, _, rfl, S (lv (gt)), rfl, by rw [S_len, lv_len, hg2, sizeLine_eq]; unfold LIM at hl; simp; omega, ?_⟩
            rw [hg2, lv_cons]
            rw [show (-1 : Int) = -1 from rfl, cutLast]
            try rw [plus_tl]
            refine ⟨_, _, rfl, rfl, by rw [S_len, S_len, lv_len, sizeLine_eq]; unfold LIM at hl; simp; omega, ?_⟩
            refine ⟨_, rfl, l.length + 1 - (a1 + n + 1 + 4), by omega, a1 + n + 1 + 4, true :: g2, some (.int (a1 + n + 1 + 4 : Nat)), rfl, ?_, rfl, by omega, by simp, by simp; omega, ?_⟩
            · rw [S_app, lv_cons, c4]
              rfl
            · rw [hA, if_neg h4, up_up, hg2] at hR2
              exact hR2
        | false =>
          rw [hb] at hbt
          refine iteDF (fun z => by have := S_inj (V.str.inj z); simp at this) ?_
          have hno : ¬ (c = 41 ∧ atom n = true ∧ 1 < f1.length ∧ f1.head? = some true) := fun z => by rw [hbt] at z; simp at z
          obtain ⟨hA2, hN2, hG2, hL2, hS2, hO2⟩ := stay hno
          have hX2 := hX
          have hY2 := nopop hno
          obtain ⟨hA, hB⟩ := arrow (a1 + n) (n) (f1) .non hA2 hN2 hG2 hL2 hS2 hO2 hX2 hY2 hR1
          refine ⟨_, rfl, _, rfl, l, a1 + n, rfl, hl, ?_⟩
          refine ⟨_, rfl, _, rfl, (" -> " : Str), rfl, by rw [sizeLine_eq]; decide, _, _, rfl, rfl, _, _, rfl, rfl, _, rfl, ?_⟩
          have l4 : ((" -> " : Str).length : Int) = 4 := by decide
          by_cases h4 : cp (l.drop (a1 + n)) ARR < 4
          · refine iteD (by rw [l4]; omega) ⟨_, rfl, by show 2 ≤ sizeLine; rw [sizeLine_eq]; decide, fun p hp => ?_⟩
            refine kk _ (a1 + n + cp (l.drop (a1 + n)) ARR) false hR1.symm ?_ (hB h4) p hp
            rw [hA, if_pos h4]
            rfl
          · refine iteDF (by rw [l4]; omega) ?_
            have c4 : cp (l.drop (a1 + n)) ARR = 4 := by
              have := (cp_le (l.drop (a1 + n)) ARR).2
              unfold ARR at this h4 ⊢
              simp at this
              omega
            have cl := (cp_le (l.drop (a1 + n)) ARR).1
            rw [c4, List.length_drop] at cl
            obtain ⟨b2, g2, hg2⟩ : ∃ b g', f1 = b :: g' := by
              cases hq : f1 with
              | nil => exact absurd hq hG2
              | cons b g' => exact ⟨b, g', rfl⟩
            have hl3 := hL2
            rw [hg2] at hl3
            simp at hl3
            have hl2 : g2.length + 1 ≤ l.length + 1 := by
              have := hL2
              rw [hg2] at this
              simp at this
              omega
            refine ⟨_, rfl, _, rfl, _, rfl, S (lv (f1)), rfl, by rw [S_len, lv_len, hg2, sizeLine_eq]; unfold LIM at hl; simp; omega, ?_⟩
            rw [hg2, lv_cons]
            rw [show (-1 : Int) = -1 from rfl, cutLast]
            try rw [plus_tl]
            refine ⟨_, _, rfl, rfl, by rw [S_len, S_len, lv_len, sizeLine_eq]; unfold LIM at hl; simp; omega, ?_⟩
            refine ⟨_, rfl, l.length + 1 - (a1 + n + 4), by omega, a1 + n + 4, true :: g2, some (.int (a1 + n + 4 : Nat)), rfl, ?_, rfl, by omega, by simp, by simp; omega, ?_⟩
            · rw [S_app, lv_cons, c4]
              rfl
            · rw [hA, if_neg h4, up_up, hg2] at hR1
              exact hR1
      · refine iteDF (by rw [S_len, lv_len]; omega) (iteF ?_)
        have hno : ¬ (c = 41 ∧ atom n = true ∧ 1 < f1.length ∧ f1.head? = some true) := fun z => hlen z.2.2.1
        obtain ⟨hA2, hN2, hG2, hL2, hS2, hO2⟩ := stay hno
        have hX2 := hX
        have hY2 := nopop hno
        obtain ⟨hA, hB⟩ := arrow (a1 + n) (n) (f1) .non hA2 hN2 hG2 hL2 hS2 hO2 hX2 hY2 hR1
        refine ⟨_, rfl, _, rfl, l, a1 + n, rfl, hl, ?_⟩
        refine ⟨_, rfl, _, rfl, (" -> " : Str), rfl, by rw [sizeLine_eq]; decide, _, _, rfl, rfl, _, _, rfl, rfl, _, rfl, ?_⟩
        have l4 : ((" -> " : Str).length : Int) = 4 := by decide
        by_cases h4 : cp (l.drop (a1 + n)) ARR < 4
        · refine iteD (by rw [l4]; omega) ⟨_, rfl, by show 2 ≤ sizeLine; rw [sizeLine_eq]; decide, fun p hp => ?_⟩
          refine kk _ (a1 + n + cp (l.drop (a1 + n)) ARR) false hR1.symm ?_ (hB h4) p hp
          rw [hA, if_pos h4]
          rfl
        · refine iteDF (by rw [l4]; omega) ?_
          have c4 : cp (l.drop (a1 + n)) ARR = 4 := by
            have := (cp_le (l.drop (a1 + n)) ARR).2
            unfold ARR at this h4 ⊢
            simp at this
            omega
          have cl := (cp_le (l.drop (a1 + n)) ARR).1
          rw [c4, List.length_drop] at cl
          obtain ⟨b2, g2, hg2⟩ : ∃ b g', f1 = b :: g' := by
            cases hq : f1 with
            | nil => exact absurd hq hG2
            | cons b g' => exact ⟨b, g', rfl⟩
          have hl3 := hL2
          rw [hg2] at hl3
          simp at hl3
          have hl2 : g2.length + 1 ≤ l.length + 1 := by
            have := hL2
            rw [hg2] at this
            simp at this
            omega
          refine ⟨_, rfl, _, rfl, _, rfl, S (lv (f1)), rfl, by rw [S_len, lv_len, hg2, sizeLine_eq]; unfold LIM at hl; simp; omega, ?_⟩
          rw [hg2, lv_cons]
          rw [show (-1 : Int) = -1 from rfl, cutLast]
          try rw [plus_tl]
          refine ⟨_, _, rfl, rfl, by rw [S_len, S_len, lv_len, sizeLine_eq]; unfold LIM at hl; simp; omega, ?_⟩
          refine ⟨_, rfl, l.length + 1 - (a1 + n + 4), by omega, a1 + n + 4, true :: g2, some (.int (a1 + n + 4 : Nat)), rfl, ?_, rfl, by omega, by simp, by simp; omega, ?_⟩
          · rw [S_app, lv_cons, c4]
            rfl
          · rw [hA, if_neg h4, up_up, hg2] at hR1
            exact hR1
    · refine iteDF (fun z => hcs (by have := S_inj (V.str.inj z); simpa using this)) (iteF ?_)
      have hno : ¬ (c = 41 ∧ atom n = true ∧ 1 < f1.length ∧ f1.head? = some true) := fun z => hcs z.1
      obtain ⟨hA2, hN2, hG2, hL2, hS2, hO2⟩ := stay hno
      have hX2 := hX
      have hY2 := nopop hno
      obtain ⟨hA, hB⟩ := arrow (a1 + n) (n) (f1) .non hA2 hN2 hG2 hL2 hS2 hO2 hX2 hY2 hR1
      refine ⟨_, rfl, _, rfl, l, a1 + n, rfl, hl, ?_⟩
      refine ⟨_, rfl, _, rfl, (" -> " : Str), rfl, by rw [sizeLine_eq]; decide, _, _, rfl, rfl, _, _, rfl, rfl, _, rfl, ?_⟩
      have l4 : ((" -> " : Str).length : Int) = 4 := by decide
      by_cases h4 : cp (l.drop (a1 + n)) ARR < 4
      · refine iteD (by rw [l4]; omega) ⟨_, rfl, by show 2 ≤ sizeLine; rw [sizeLine_eq]; decide, fun p hp => ?_⟩
        refine kk _ (a1 + n + cp (l.drop (a1 + n)) ARR) false hR1.symm ?_ (hB h4) p hp
        rw [hA, if_pos h4]
        rfl
      · refine iteDF (by rw [l4]; omega) ?_
        have c4 : cp (l.drop (a1 + n)) ARR = 4 := by
          have := (cp_le (l.drop (a1 + n)) ARR).2
          unfold ARR at this h4 ⊢
          simp at this
          omega
        have cl := (cp_le (l.drop (a1 + n)) ARR).1
        rw [c4, List.length_drop] at cl
        obtain ⟨b2, g2, hg2⟩ : ∃ b g', f1 = b :: g' := by
          cases hq : f1 with
          | nil => exact absurd hq hG2
          | cons b g' => exact ⟨b, g', rfl⟩
        have hl3 := hL2
        rw [hg2] at hl3
        simp at hl3
        have hl2 : g2.length + 1 ≤ l.length + 1 := by
          have := hL2
          rw [hg2] at this
          simp at this
          omega
        refine ⟨_, rfl, _, rfl, _, rfl, S (lv (f1)), rfl, by rw [S_len, lv_len, hg2, sizeLine_eq]; unfold LIM at hl; simp; omega, ?_⟩
        rw [hg2, lv_cons]
        rw [show (-1 : Int) = -1 from rfl, cutLast]
        try rw [plus_tl]
        refine ⟨_, _, rfl, rfl, by rw [S_len, S_len, lv_len, sizeLine_eq]; unfold LIM at hl; simp; omega, ?_⟩
        refine ⟨_, rfl, l.length + 1 - (a1 + n + 4), by omega, a1 + n + 4, true :: g2, some (.int (a1 + n + 4 : Nat)), rfl, ?_, rfl, by omega, by simp, by simp; omega, ?_⟩
        · rw [S_app, lv_cons, c4]
          rfl
        · rw [hA, if_neg h4, up_up, hg2] at hR1
          exact hR1
end Og
set_option Elab.async false
set_option linter.all false
set_option maxRecDepth 100000
set_option maxHeartbeats 4000000
namespace Og
open PySem PySem.Spec PyProof.Rows L2 TL
variable {P : Program} {w : World} {K : PySem.W.Frag} {mg : Str → Option Value} {base : Heap} {A : Str → Addr} {B : Str → FuncData}
/-- a while, an if with what comes behind said once -/
theorem whileZ {c : TT} {tb : TS} {D : Ends} {σ : L2.St} {H : Hp} (W : Nat → L2.St → Hp → Prop) (m0 : Nat) (h0 : W m0 σ H) (Z : L2.St → Hp → Prop) (hz : ∀ σ H, Z σ H → D.nx σ H)
    (hs : (∀ σ H, Z σ H → D.nx σ H) → ∀ m σ H, W m σ H → c σ H fun b H1 => if b = true then ∃ N : L2.St → Hp → Prop, (∀ σ' H', N σ' H' → ∃ m', m' < m ∧ W m' σ' H') ∧ tb { D with nx := N, ct := N, bk := D.nx } σ H1 else D.nx σ H1) : tWhile c tb D σ H := ⟨W, ⟨m0, h0⟩, hs hz⟩
theorem ifZ {c : TT} {t u : TS} {D : Ends} {σ : L2.St} {H : Hp} (Z : L2.St → Hp → Prop) (hz : ∀ σ H, Z σ H → D.nx σ H) (h : (∀ σ H, Z σ H → D.nx σ H) → tIfS c t u D σ H) : tIfS c t u D σ H := h hz
theorem ini2_text : Ini2 s_ini "line" "column" := by
  refine ⟨⟨_, rfl, by decide +kernel⟩, ⟨rfl, rfl, rfl, by decide +kernel, rfl, by decide +kernel, by decide +kernel, by decide +kernel, by decide +kernel, by decide +kernel, by decide +kernel⟩, ⟨_, _, _, _, _, _, _, _, _, _, _, _, _, _, _, rfl, fun env => ⟨_, rfl⟩, fun env => rfl, fun env => rfl, fun env => rfl⟩, by decide +kernel, by decide +kernel, by decide +kernel, by decide +kernel⟩
theorem pmk5_InvalidText {X : Cx} {e1 e2 : Expr} {ta : TA} {p pos : Pos} (T : Facts X.prog X.K X.mg A B) (hdp : X.A.depth + 1 < recursionLimit) (ha : PA X [e1, e2] ta) (hg : Gl X "InvalidText" := by rfl)
    (he : starEach [e1, e2] X.env = (false, eval e1 X.env) :: starEach [e2] X.env := by rfl) (hpl : (backTo pos (starEach [e2] X.env)).any (·.1) = false := by rfl) :
    L2H.PMk5 X (.Call (.Name "InvalidText" p) [e1, e2] [] pos) (tMk2 (A "InvalidText") "line" "column" ta) :=
  pmk5_ini2 T.iniT ini2_text T.n1 T.n2 T.iC T.tI T.bI hdp hg T.gIT ha (by decide) he hpl
theorem dep {k : Nat} {A : Around} (h : Room k A) : A.depth + 1 < recursionLimit := by have := h.dp; omega
/-- an InvalidText with these fields -/
def XT (A : Str → Addr) (H : Hp) (ln cl : V) (E : XK) : Prop := ∀ d H', Ext H H' → H' d = some (.xd [("column", cl), ("line", ln)]) → E (.ref (A "InvalidText")) (some d) H'
theorem XT.ext {H H1 : Hp} {ln cl : V} {E : XK} (h : XT A H ln cl E) (e : Ext H H1) : XT A H1 ln cl E := fun d H' e' k => h d H' (e.trans e') k
theorem XT.mk {H : Hp} {ln cl : V} {E : XK} (h : XT A H ln cl E) : ∃ v1 v2, [ln, cl] = [v1, v2] ∧ ∀ d, H d = none → E (.ref (A "InvalidText")) (some d) (upd H d (.xd [("column", v2), ("line", v1)])) :=
  ⟨ln, cl, rfl, fun d hd => h d _ (Ext.new hd) upd_same⟩
/-! ### find, startswith -/
theorem pre1 (c : Nat) (l : List Nat) (k : Nat) : pre [c] (l.drop k) = decide (l[k]? = some c) := by
  cases h : l[k]? with
  | none =>
    simp at h
    rw [List.drop_eq_nil_of_le h]
    simp [pre]
  | some d =>
    obtain ⟨h1, h2⟩ := List.getElem?_eq_some_iff.mp h
    rw [List.drop_eq_getElem_cons h1, h2]
    show ((d :: l.drop (k + 1)).take 1 == [c]) = _
    by_cases z : d = c <;> simp [z]
theorem find1 {l : List Nat} {c n : Nat} {y : Str} (hy : tl y = [c]) (h : l[n]? = some c) (hn : ∀ k, k < n → l[k]? ≠ some c) : Txt.find (S l) y = n := by
  have hy0 : tl y ≠ [] := by rw [hy]; simp
  have at_ : ∀ i, StrLaws.At (S l) y (S l).length i ↔ l[i]? = some c := fun i => by
    rw [at_iff hy0 i, hy, tl_S, pre1]
    simp
  rcases PyProof.Rows.find_whole (S l) y with ⟨_, e⟩ | ⟨i, e, hi, hk⟩
  · exact absurd ((at_ n).mpr h) (e n)
  · rw [e]
    have hi := (at_ i).mp hi
    have h1 : ¬ i < n := fun z => hn i z hi
    have h2 : ¬ n < i := fun z => hk n z ((at_ n).mpr h)
    have : i = n := by omega
    rw [this]
theorem starts {l : List Nat} {y : Str} (hy : tl y ≠ []) : Txt.startswith (S l) y = pre (tl y) l := by
  have z := at_iff (x := S l) hy 0
  rw [List.drop_zero, tl_S] at z
  cases h : pre (tl y) l with
  | true =>
    have q := z.mpr h
    unfold Txt.startswith
    have h1 := q.1
    have h2 := q.2
    rw [h2]
    simpa using h1
  | false =>
    cases h2 : Txt.startswith (S l) y with
    | false => rfl
    | true =>
      unfold Txt.startswith at h2
      simp only [Bool.and_eq_true, decide_eq_true_eq] at h2
      have := z.mp ⟨h2.1, h2.2⟩
      rw [h] at this
      cases this
/-! ### names -/
def ZZ : List Nat := [122, 122, 122, 122, 122, 122, 122, 122]
theorem zz_tl : ("zzzzzzzz" : Str) = S ZZ := by decide +kernel
theorem col_tl : (":" : Str) = S [58] := by decide +kernel
theorem spc_tl : (" " : Str) = S [32] := by decide +kernel
theorem emp_tl : ("" : Str) = S [] := by decide +kernel
def spGreat : Sp := fun vs H Q _ => ∃ l : List Nat, vs = [.str (S l)] ∧ l.length ≤ LIM ∧ Q (.str (S (l ++ ZZ.drop l.length))) H
abbrev N_greatest_name : List Str := ["word"]
abbrev P_greatest_name : List Str := ["word"]
theorem sc_greatest_name : FnScope N_greatest_name P_greatest_name (defScope s_greatest_name) := ⟨rfl, rfl, rfl, by decide +kernel, rfl, by decide +kernel, by decide +kernel⟩
theorem ok_greatest_name (T : Facts P K mg A B) : FnOk P w K mg base CX0 1 (A "greatest_name") (B "greatest_name") ["word"] spGreat := by
  refine T.greatest_name.fn.ok sc_greatest_name (fun vs H Q E h => ?_) (fun cdv Ar outer s H vs Q E hr h => ?_)
  · obtain ⟨l, rfl, _⟩ := h
    rfl
  · obtain ⟨l, rfl, hl, k⟩ := h
    refine ⟨_, ((pss_one (ps_ret (pe_op op_add_str (pv 0) (pe_slice sl_str (pe_glob (v := T_LAST_NAME_spellings) rfl T.LAST_NAME_spellings.choose_spec ⟨_, rfl⟩) (po_some (pe_callB call_len_str (by rfl) T.b_len PySem.boot_len (pa_cons (pv 0) pa_nil))) po_none))))), ?_⟩
    refine ⟨_, rfl, _, rfl, S l, rfl, lim_line hl, _, rfl, _, rfl, by rw [sizeLine_eq]; decide, ?_⟩
    rw [zz_tl, cutN ZZ l.length (by rw [S_len])]
    refine ⟨_, _, rfl, rfl, ?_, ?_⟩
    · rw [S_len, S_len, List.length_drop, sizeLine_eq]
      unfold LIM at hl
      have : ZZ.length = 8 := rfl
      omega
    · rw [S_app]
      exact k
theorem iteNT {c A B : Prop} [Decidable c] (hc : c) (h : B) : if (!decide c) = true then A else B := iteNS hc h
theorem iteNF {c A B : Prop} [Decidable c] (hc : ¬ c) (h : A) : if (!decide c) = true then A else B := by rw [decide_eq_false hc]; exact iteT h
theorem nil_lt {l : List Nat} {n : Nat} (h : 0 < n) (h2 : n ≤ l.length) (m : List Nat) : ([] : List Nat) < l.take n ++ m := by
  cases l with
  | nil => simp at h2; omega
  | cons a l =>
    cases n with
    | zero => omega
    | succ n => exact List.nil_lt_cons _ _
/-- how far an entry stands whose name may be any -/
def eP (l : List Nat) : Nat × Bool :=
  if lets 8 l = 0 ∨ l[lets 8 l]? ≠ some 58 then (lets 8 l, false)
  else if l[lets 8 l + 1]? ≠ some 32 then (lets 8 l + 1, false)
  else up (lets 8 l + 2) (kS (l.drop (lets 8 l + 2)) [false] 0)
theorem S1_is {l : List Nat} {k c : Nat} : S ((l.drop k).take 1) = S [c] ↔ l[k]? = some c := by
  rw [S1]
  cases h : l[k]? with
  | none => exact ⟨fun z => absurd z (S_none_ne c), fun z => by cases z⟩
  | some d => exact ⟨fun z => by have := S_inj z; simpa using this, fun z => by cases z; rfl⟩
def spEntryEnd : Sp := fun vs H Q _ => ∃ l : List Nat, vs = [.str (S l), .str (S [])] ∧ l.length ≤ LIM ∧ ∀ p, H p = none → Q (.ref p) (upd H p (.tup [.int ((eP l).1 : Nat), .bl ((eP l).2 && decide ((eP l).1 = l.length))]))
abbrev N_entry_end : List Str := ["text", "before", "end"]
abbrev P_entry_end : List Str := ["text", "before"]
theorem sc_entry_end : FnScope N_entry_end P_entry_end (defScope s_entry_end) := ⟨rfl, rfl, rfl, by decide +kernel, rfl, by decide +kernel, by decide +kernel⟩
theorem ok_entry_end (T : Facts P K mg A B) : FnOk P w K mg base CX0 3 (A "entry_end") (B "entry_end") ["text", "before"] spEntryEnd := by
  refine T.entry_end.fn.ok sc_entry_end (fun vs H Q E h => ?_) (fun cdv Ar outer s H vs Q E hr h => ?_)
  · obtain ⟨l, rfl, _⟩ := h
    rfl
  · obtain ⟨l, rfl, hl, k⟩ := h
    refine ⟨_, ((pss_cons (ps_set (i := 2) sc_entry_end.nd rfl (Or.inl rfl) pe_int)
      (pss_cons (ps_while PassesOwn.never (PW.pt (pw_and (pt_cmpR op_lt (pv 2) (pe_callB call_len_str (by rfl) T.b_len PySem.boot_len (pa_cons (pv 0) pa_nil)) (nomark _)) (pw_and (pt_cmpR op_lt (pv 2) pe_int (nomark _)) (pw_and (pt_cmpR op_in_sign (pe_ix ix_str (pv 0) (pv 2) (fun _ _ => rfl)) (pe_glob (v := T_LETTERS) rfl T.LETTERS.choose_spec ⟨_, rfl⟩) (by rfl)) (pw_and1 (pt_cmpR op_gt_str (pe_call (ok_greatest_name T) (hr.mono (by decide)) rfl T.greatest_name.mg T.greatest_name.kp T.greatest_name.bi .nil pass0 (pa_cons (pe_slice sl_str (pv 0) po_none (po_some (pe_op op_add (pv 2) pe_int))) pa_nil)) (pv 1) (nomark _))))))) (pss_one (ps_set (i := 2) sc_entry_end.nd rfl (Or.inl rfl) (pe_op op_add (pv 2) pe_int))))
      (pss_cons (ps_if (PW.pt (pw_or (pt_cmpR op_eq (pv 2) pe_int (nomark _)) (pw_or (pt_cmpR op_ne (pe_slice sl_str (pv 0) (po_some (pv 2)) (po_some (pe_op op_add (pv 2) pe_int))) pe_str (nomark _)) (pw_or1 (pt_not (pt_cmpR op_gt_str (pe_slice sl_str (pv 0) po_none (po_some (pv 2))) (pv 1) (nomark _))))))) (pss_one (ps_ret (pe_tup (pa_cons (pv 2) (pa_cons pe_bl pa_nil))))) pss_nil)
      (pss_cons (ps_if (pt_cmpR op_ne (pe_slice sl_str (pv 0) (po_some (pe_op op_add (pv 2) pe_int)) (po_some (pe_op op_add (pv 2) pe_int))) pe_str (nomark _)) (pss_one (ps_ret (pe_tup (pa_cons (pe_op op_add (pv 2) pe_int) (pa_cons pe_bl pa_nil))))) pss_nil)
      (pss_one (ps_ret (pe_call (ok_kind_end T) (hr.mono (by decide)) rfl T.kind_end.mg T.kind_end.kp T.kind_end.bi .nil pass0 (pa_cons (pv 0) (pa_cons (pe_op op_add (pv 2) pe_int) pa_nil)))))))))), ?_⟩
    have hle := lets_le 8 l
    have hk : ∀ (e : Nat) (b : Bool) (R : Nat × Bool), eP l = R → R.1 = e → (R.2 && decide (e = l.length)) = b → ∀ p, H p = none → Q (.ref p) (upd H p (.tup [.int (e : Nat), .bl b])) := fun e b R q1 q2 q3 p hp => by
      have z := k p hp
      rw [q1, q2, q3] at z
      exact z
    refine whileZ (fun m σ H' => ∃ e, H' = H ∧ σ = [some (.str (S l)), some (.str (S [])), some (.int (e : Nat))] ∧ m = 8 - e ∧ e ≤ lets 8 l) 8 ⟨0, rfl, rfl, rfl, Nat.zero_le _⟩
      (fun σ H' => H' = H ∧ σ = [some (.str (S l)), some (.str (S [])), some (.int (lets 8 l : Nat))]) ?_ ?_
    · rintro σ H' ⟨rfl, rfl⟩
      generalize hn : lets 8 l = n at *
      have two : 2 ≤ sizeLine := by rw [sizeLine_eq]; decide
      have no : ∀ e : Nat, (n = 0 ∨ l[n]? ≠ some 58) → eP l = (n, false) := fun e h => by unfold eP; rw [hn, if_pos h]
      refine ⟨_, rfl, rfl, _, rfl, ?_⟩
      by_cases h0 : n = 0
      · refine iteD (by rw [h0]; rfl) (iteT ⟨_, rfl, two, hk n false _ (no 0 (.inl h0)) rfl rfl⟩)
      refine iteDF (fun z => h0 (by have := V.int.inj z; omega)) ?_
      refine ⟨_, rfl, _, rfl, _, rfl, _, rfl, _, _, rfl, rfl, _, rfl, S l, rfl, lim_line hl, ?_⟩
      rw [cutNN l n (n + 1) rfl (by push_cast; rfl), show n + 1 - n = 1 by omega, col_tl]
      refine ⟨rfl, _, rfl, ?_⟩
      by_cases h1 : l[n]? = some 58
      rotate_left
      · exact iteNF (fun z => h1 (S1_is.mp (V.str.inj z))) (iteT ⟨_, rfl, two, hk n false _ (no 0 (.inr h1)) rfl rfl⟩)
      refine iteNT (by rw [S1_is.mpr h1]) ?_
      refine ⟨_, rfl, _, rfl, _, rfl, S l, rfl, lim_line hl, ?_⟩
      rw [cut0N l n rfl]
      refine ⟨_, rfl, _, _, rfl, rfl, _, rfl, ?_⟩
      have hpos : ([] : List Nat) < l.take n := by
        have := nil_lt (l := l) (n := n) (by omega) (by omega) []
        rwa [List.append_nil] at this
      have e0 : (S ([] : List Nat)).cps.toList = [] := rfl
      have e1 : (S (l.take n)).cps.toList = l.take n := rfl
      rw [e0, e1, decide_eq_true hpos]
      refine iteF ?_
      refine ⟨_, rfl, _, rfl, _, _, rfl, rfl, _, rfl, _, rfl, _, _, rfl, rfl, _, rfl, S l, rfl, lim_line hl, ?_⟩
      rw [cutNN l (n + 1) (n + 2) (by push_cast; rfl) (by push_cast; rfl), show n + 2 - (n + 1) = 1 by omega, spc_tl]
      refine ⟨rfl, _, rfl, ?_⟩
      have ne1 : ¬ (n = 0 ∨ l[n]? ≠ some 58) := fun z => z.elim h0 fun q => q h1
      by_cases h2 : l[n + 1]? = some 32
      · refine iteNT (by rw [S1_is.mpr h2]) ?_
        have hlt : n + 1 < l.length := (List.getElem?_eq_some_iff.mp h2).1
        refine ⟨_, rfl, _, rfl, _, _, rfl, rfl, l, n + 2, by push_cast; rfl, hl, by omega, ?_⟩
        exact fun p hp => hk _ _ (up (n + 2) (kS (l.drop (n + 2)) [false] 0)) (by unfold eP; rw [hn, if_neg ne1, if_neg (fun z => z h2)]) rfl rfl p hp
      · refine iteNF (fun z => h2 (S1_is.mp (V.str.inj z))) ?_
        exact ⟨_, rfl, _, _, rfl, rfl, two, fun p hp => hk (n + 1) false (n + 1, false) (by unfold eP; rw [hn, if_neg ne1, if_pos h2]) rfl rfl p hp⟩
    · rintro ex m σ H' ⟨e, rfl, rfl, rfl, he⟩
      refine ⟨_, rfl, _, rfl, S l, rfl, lim_line hl, _, _, rfl, rfl, _, rfl, ?_⟩
      by_cases h1 : e < l.length
      rotate_left
      · exact iteDF (by rw [S_len]; omega) (iteF (ex _ _ ⟨rfl, by rw [lets_end (n := 8) (.inr (by omega)) he]⟩))
      refine iteD (by rw [S_len]; omega) ?_
      refine ⟨_, rfl, _, _, rfl, rfl, _, rfl, ?_⟩
      by_cases h2 : e < 8
      rotate_left
      · exact iteDF (by omega) (iteF (ex _ _ ⟨rfl, by rw [lets_end (n := 8) (.inl (by omega)) he]⟩))
      refine iteD (by omega) ?_
      have hc : l[e]? = some l[e] := List.getElem?_eq_getElem h1
      refine ⟨_, rfl, _, rfl, S l, _, l[e], rfl, rfl, lim_line hl, atI_nat hc, _, _, rfl, rfl, _, rfl, ?_⟩
      have st := lets_step (n := 8) h2 hc he
      cases hi : isL l[e] with
      | false => exact iteDF (fun z => by rw [(in_letters _).mp z] at hi; cases hi) (iteF (ex _ _ ⟨rfl, by rw [st.2 hi]⟩))
      | true =>
        refine iteD ((in_letters _).mpr hi) ?_
        refine ⟨_, rfl, _, rfl, _, _, rfl, rfl, _, rfl, S l, rfl, lim_line hl, ?_⟩
        rw [cut0N l (e + 1) (by push_cast; rfl)]
        refine ⟨_, rfl, by unfold LIM at *; rw [List.length_take]; omega, ?_⟩
        refine ⟨_, rfl, _, _, rfl, rfl, _, rfl, ?_⟩
        refine iteD ?_ ⟨_, fun _ _ z => z, _, rfl, _, _, rfl, rfl, 8 - (e + 1), by omega, e + 1, rfl, by push_cast; rfl, rfl, st.1 hi⟩
        show ([] : List Nat) < l.take (e + 1) ++ _
        exact nil_lt (by omega) (by omega) _
end Og
set_option Elab.async false
set_option linter.all false
set_option maxRecDepth 100000
set_option maxHeartbeats 4000000
namespace Og
open PySem PySem.Spec PyProof.Rows L2 TL
variable {P : Program} {w : World} {K : PySem.W.Frag} {mg : Str → Option Value} {base : Heap} {A : Str → Addr} {B : Str → FuncData}
theorem Rd.ext {H H' : Hp} {a : Addr} {o : HO} (e : Ext H H') (h : Rd H a o) : Rd H' a o := by
  rcases h with h | ⟨ob, h⟩
  · exact .inl (e _ _ h)
  · exact .inr ⟨ob, e _ _ h⟩
theorem sqT_ext {H H' : Hp} {a : Addr} {xs : List V} (e : Ext H H') (h : SqT K H a xs) : SqT K H' a xs := h.imp (Rd.ext e) id
theorem sqL_ext {H H' : Hp} {a : Addr} {xs : List V} (e : Ext H H') (h : SqL K H a xs) : SqL K H' a xs := h.imp (Rd.ext e) id
theorem two_line : 2 ≤ sizeLine := by rw [sizeLine_eq]; decide
/-! ### is_number, want_text, want_line -/
def spIsInt : Sp := fun vs H Q _ => ∃ i : Int, vs = [.int i] ∧ Q (.bl true) H
abbrev N_is_integer : List Str := ["thing"]
abbrev P_is_integer : List Str := ["thing"]
theorem sc_is_integer : FnScope N_is_integer P_is_integer (defScope s_is_integer) := ⟨rfl, rfl, rfl, by decide +kernel, rfl, by decide +kernel, by decide +kernel⟩
theorem ok_is_integer (T : Facts P K mg A B) : FnOk P w K mg base CX0 1 (A "is_integer") (B "is_integer") ["thing"] spIsInt := by
  refine T.is_integer.fn.ok sc_is_integer (fun vs H Q E h => ?_) (fun cdv Ar outer s H vs Q E hr h => ?_)
  · obtain ⟨l, rfl, _⟩ := h
    rfl
  · obtain ⟨i, rfl, k⟩ := h
    refine ⟨_, ((pss_one (ps_ret (pe_and (pe_callB (id := "isinstance") (r := rIsi K) call_isi (by rfl) T.b_isinstance (by decide +kernel) (pa_cons (pv 0) (pa_cons (pe_bltn (v := .ty "int") (by rfl) T.b_int (by decide +kernel) rfl) pa_nil))) (pe_one (pe_not (pe_callB (id := "isinstance") (r := rIsi K) call_isi (by rfl) T.b_isinstance (by decide +kernel) (pa_cons (pv 0) (pa_cons (pe_bltn (v := .ty "bool") (by rfl) T.b_bool (by decide +kernel) rfl) pa_nil))))))))), ?_⟩
    refine ⟨_, rfl, .int i, .ty "int", .type "int", .type "int", true, rfl, .ty _, .base (.int i), kit_ty (by decide +kernel), true, rfl, iteT ?_⟩
    exact ⟨_, rfl, .int i, .ty "bool", .type "int", .type "bool", false, rfl, .ty _, .base (.int i), kit_ty (by decide +kernel), false, rfl, k⟩
def spIsNum : Sp := fun vs H Q _ => ∃ i : Nat, vs = [.int i] ∧ Q (.bl true) H
abbrev N_is_number : List Str := ["thing"]
abbrev P_is_number : List Str := ["thing"]
theorem sc_is_number : FnScope N_is_number P_is_number (defScope s_is_number) := ⟨rfl, rfl, rfl, by decide +kernel, rfl, by decide +kernel, by decide +kernel⟩
theorem ok_is_number (T : Facts P K mg A B) : FnOk P w K mg base CX0 2 (A "is_number") (B "is_number") ["thing"] spIsNum := by
  refine T.is_number.fn.ok sc_is_number (fun vs H Q E h => ?_) (fun cdv Ar outer s H vs Q E hr h => ?_)
  · obtain ⟨l, rfl, _⟩ := h
    rfl
  · obtain ⟨i, rfl, k⟩ := h
    refine ⟨_, ((pss_one (ps_ret (pe_and (pe_call (ok_is_integer T) (hr.mono (by decide)) rfl T.is_integer.mg T.is_integer.kp T.is_integer.bi .nil pass0 (pa_cons (pv 0) pa_nil)) (pe_one (pe_cmpR op_ge (pv 0) pe_int (nomark _))))))), ?_⟩
    refine ⟨_, rfl, _, rfl, true, rfl, iteT ⟨_, rfl, _, _, rfl, rfl, ?_⟩⟩
    show Q (.bl (decide ((0 : Int) ≤ i))) H
    rw [decide_eq_true (by omega)]
    exact k
def spWantText : Sp := fun vs H Q _ => ∃ x : Str, vs = [.str x] ∧ Q .non H
abbrev N_want_text : List Str := ["text"]
abbrev P_want_text : List Str := ["text"]
theorem sc_want_text : FnScope N_want_text P_want_text (defScope s_want_text) := ⟨rfl, rfl, rfl, by decide +kernel, rfl, by decide +kernel, by decide +kernel⟩
theorem ok_want_text (T : Facts P K mg A B) : FnOk P w K mg base CX0 1 (A "want_text") (B "want_text") ["text"] spWantText := by
  refine T.want_text.fn.ok sc_want_text (fun vs H Q E h => ?_) (fun cdv Ar outer s H vs Q E hr h => ?_)
  · obtain ⟨l, rfl, _⟩ := h
    rfl
  · obtain ⟨x, rfl, k⟩ := h
    refine ⟨_, ((pss_one (ps_if (pt_not (pt_val (pe_callB (id := "isinstance") (r := rIsi K) call_isi (by rfl) T.b_isinstance (by decide +kernel) (pa_cons (pv 0) (pa_cons (pe_bltn (v := .ty "str") (by rfl) T.b_str (by decide +kernel) rfl) pa_nil))))) (pss_one ps_never) pss_nil))), ?_⟩
    exact ⟨_, rfl, .str x, .ty "str", .type "str", .type "str", true, rfl, .ty _, .base (.str x), kit_ty (by decide +kernel), true, rfl, iteF k⟩
def spWantLine : Sp := fun vs H Q _ => ∃ i : Nat, vs = [.int i] ∧ Q .non H
abbrev N_want_line : List Str := ["line"]
abbrev P_want_line : List Str := ["line"]
theorem sc_want_line : FnScope N_want_line P_want_line (defScope s_want_line) := ⟨rfl, rfl, rfl, by decide +kernel, rfl, by decide +kernel, by decide +kernel⟩
theorem ok_want_line (T : Facts P K mg A B) : FnOk P w K mg base CX0 3 (A "want_line") (B "want_line") ["line"] spWantLine := by
  refine T.want_line.fn.ok sc_want_line (fun vs H Q E h => ?_) (fun cdv Ar outer s H vs Q E hr h => ?_)
  · obtain ⟨l, rfl, _⟩ := h
    rfl
  · obtain ⟨i, rfl, k⟩ := h
    refine ⟨_, ((pss_one (ps_if (pt_not (pt_val (pe_call (ok_is_number T) (hr.mono (by decide)) rfl T.is_number.mg T.is_number.kp T.is_number.bi .nil pass0 (pa_cons (pv 0) pa_nil)))) (pss_one ps_never) pss_nil))), ?_⟩
    exact ⟨_, rfl, i, rfl, true, rfl, iteF k⟩
/-! ### kind_read, entry_after, entry_read -/
def spKindRead (A : Str → Addr) : Sp := fun vs H Q E => ∃ (l : List Nat) (i : Nat), vs = [.str (S l), .int i] ∧ l.length ≤ LIM ∧
  (((kS l [false] 0).2 = true ∧ (kS l [false] 0).1 = l.length) → ∀ H', Ext H H' → Q (.str (S l)) H') ∧ (¬ ((kS l [false] 0).2 = true ∧ (kS l [false] 0).1 = l.length) → XT A H (.int i) (.int ((kS l [false] 0).1 : Nat)) E)
abbrev N_kind_read : List Str := ["text", "line", "end", "whole"]
abbrev P_kind_read : List Str := ["text", "line"]
theorem sc_kind_read : FnScope N_kind_read P_kind_read (defScope s_kind_read) := ⟨rfl, rfl, rfl, by decide +kernel, rfl, by decide +kernel, by decide +kernel⟩
theorem ok_kind_read (T : Facts P K mg A B) : FnOk P w K mg base (L2N.CX P w) 4 (A "kind_read") (B "kind_read") ["text", "line"] (spKindRead A) := by
  refine okC T.kind_read.fn sc_kind_read (fun vs H Q E h => ?_) (fun cdv Ar outer s H vs Q E hr h => ?_)
  · obtain ⟨l, i, rfl, _⟩ := h
    rfl
  · obtain ⟨l, i, rfl, hl, k1, k2⟩ := h
    refine ⟨_, ((pss_cons (ps_expr (pe_call (ok_want_text T) (hr.mono (by decide)) rfl T.want_text.mg T.want_text.kp T.want_text.bi .nil pass0 (pa_cons (pv 0) pa_nil)))
      (pss_cons (ps_expr (pe_call (ok_want_line T) (hr.mono (by decide)) rfl T.want_line.mg T.want_line.kp T.want_line.bi .nil pass0 (pa_cons (pv 1) pa_nil)))
      (pss_cons (ps_asg (pe_call (ok_kind_end T) (hr.mono (by decide)) rfl T.kind_end.mg T.kind_end.kp T.kind_end.bi .nil pass0 (pa_cons (pv 0) (pa_cons pe_int pa_nil))) (pg_tup rfl (pgs_cons (pg_name (i := 2) sc_kind_read.nd rfl (Or.inl rfl)) (pgs_cons (pg_name (i := 3) sc_kind_read.nd rfl (Or.inl rfl)) pgs_nil))))
      (pss_cons (ps_if (pt_not (pt_val (pv 3))) (pss_one (L2N.ps_raise rfl (L2N.takes_of rfl rfl rfl rfl) (L2H.PMk5.pmk (pmk5_InvalidText T (by have z := dep hr; exact z) (pa_cons (pv 1) (pa_cons (pv 2) pa_nil)))))) pss_nil)
      (pss_one (ps_ret (pv 0)))))))), ?_⟩
    refine ⟨_, rfl, _, rfl, _, rfl, i, rfl, _, rfl, l, 0, rfl, hl, Nat.zero_le _, fun p hp => ?_⟩
    rw [List.drop_zero, up0]
    refine ⟨p, _, rfl, SqT.of upd_same, rfl, _, _, rfl, _, _, rfl, rfl, _, rfl, _, rfl, ?_⟩
    by_cases hq : (kS l [false] 0).2 = true ∧ (kS l [false] 0).1 = l.length
    · rw [hq.1, decide_eq_true hq.2]
      exact iteF ⟨_, rfl, k1 hq _ (Ext.new hp)⟩
    · have e : ((kS l [false] 0).2 && decide ((kS l [false] 0).1 = l.length)) = false := by
        cases h1 : ((kS l [false] 0).2 && decide ((kS l [false] 0).1 = l.length)) with
        | false => rfl
        | true => exact absurd (by simpa using h1) hq
      rw [e]
      exact iteT ⟨_, rfl, _, rfl, ((k2 hq).ext (Ext.new hp)).mk⟩
def nameL (l : List Nat) : List Nat := l.take (lets 8 l)
def kindL (l : List Nat) : List Nat := l.drop (lets 8 l + 2)
def OkE (l : List Nat) : Prop := (eP l).2 = true ∧ (eP l).1 = l.length
instance (l : List Nat) : Decidable (OkE l) := inferInstanceAs (Decidable (_ ∧ _))
theorem lets_all (c : Nat) (hc : isL c = false) : ∀ (n : Nat) (l : List Nat) (k : Nat), k < lets n l → l[k]? ≠ some c
  | 0, l, k, h => by unfold lets at h; omega
  | n + 1, [], k, h => by unfold lets at h; omega
  | n + 1, d :: l, k, h => by
    unfold lets at h
    cases hd : isL d with
    | false => rw [hd] at h; simp at h
    | true =>
      rw [hd] at h
      simp at h
      cases k with
      | zero =>
        simp
        intro z
        rw [z, hc] at hd
        cases hd
      | succ k =>
        simp
        have := lets_all c hc n l k (by omega)
        exact this
theorem okE_at {l : List Nat} (h : OkE l) : 0 < lets 8 l ∧ l[lets 8 l]? = some 58 ∧ l[lets 8 l + 1]? = some 32 ∧ (kS (kindL l) [false] 0).2 = true ∧ (kS (kindL l) [false] 0).1 = (kindL l).length := by
  obtain ⟨h1, h2⟩ := h
  unfold eP at h1 h2
  by_cases a : lets 8 l = 0 ∨ l[lets 8 l]? ≠ some 58
  · rw [if_pos a] at h1
    cases h1
  · rw [if_neg a] at h1 h2
    by_cases b : l[lets 8 l + 1]? ≠ some 32
    · rw [if_pos b] at h1
      cases h1
    · rw [if_neg b] at h1 h2
      have hb : l[lets 8 l + 1]? = some 32 := by simpa using b
      have hlt := (List.getElem?_eq_some_iff.mp hb).1
      refine ⟨by omega, ?_, hb, h1, ?_⟩
      · have := not_or.mp a
        simpa using this.2
      · have h2 : lets 8 l + 2 + (kS (kindL l) [false] 0).1 = l.length := h2
        unfold kindL at *
        rw [List.length_drop]
        omega
def spEntryAfter (A : Str → Addr) : Sp := fun vs H Q E => ∃ (l : List Nat) (i : Nat), vs = [.str (S l), .int i, .str (S [])] ∧ l.length ≤ LIM ∧
  (OkE l → ∀ p H', Ext H H' → H' p = some (.tup [.str (S (nameL l)), .str (S (kindL l))]) → Q (.ref p) H') ∧ (¬ OkE l → XT A H (.int i) (.int ((eP l).1 : Nat)) E)
abbrev N_entry_after : List Str := ["text", "line", "before", "end", "whole", "colon"]
abbrev P_entry_after : List Str := ["text", "line", "before"]
theorem sc_entry_after : FnScope N_entry_after P_entry_after (defScope s_entry_after) := ⟨rfl, rfl, rfl, by decide +kernel, rfl, by decide +kernel, by decide +kernel⟩
theorem ok_entry_after (T : Facts P K mg A B) : FnOk P w K mg base (L2N.CX P w) 4 (A "entry_after") (B "entry_after") ["text", "line", "before"] (spEntryAfter A) := by
  refine okC T.entry_after.fn sc_entry_after (fun vs H Q E h => ?_) (fun cdv Ar outer s H vs Q E hr h => ?_)
  · obtain ⟨l, i, rfl, _⟩ := h
    rfl
  · obtain ⟨l, i, rfl, hl, k1, k2⟩ := h
    refine ⟨_, ((pss_cons (ps_asg (pe_call (ok_entry_end T) (hr.mono (by decide)) rfl T.entry_end.mg T.entry_end.kp T.entry_end.bi .nil pass0 (pa_cons (pv 0) (pa_cons (pv 2) pa_nil))) (pg_tup rfl (pgs_cons (pg_name (i := 3) sc_entry_after.nd rfl (Or.inl rfl)) (pgs_cons (pg_name (i := 4) sc_entry_after.nd rfl (Or.inl rfl)) pgs_nil))))
      (pss_cons (ps_if (pt_not (pt_val (pv 4))) (pss_one (L2N.ps_raise rfl (L2N.takes_of rfl rfl rfl rfl) (L2H.PMk5.pmk (pmk5_InvalidText T (by have z := dep hr; exact z) (pa_cons (pv 1) (pa_cons (pv 3) pa_nil)))))) pss_nil)
      (pss_cons (ps_set (i := 5) sc_entry_after.nd rfl (Or.inl rfl) (pe_m1 PySem.F.slot_str_find PySem.F.type_str_find mt_find (pv 0) pe_str))
      (pss_one (ps_ret (pe_tup (pa_cons (pe_slice sl_str (pv 0) po_none (po_some (pv 5))) (pa_cons (pe_slice sl_str (pv 0) (po_some (pe_op op_add (pv 5) pe_int)) po_none) pa_nil))))))))), ?_⟩
    refine ⟨_, rfl, _, rfl, l, rfl, hl, fun p hp => ?_⟩
    refine ⟨p, _, rfl, SqT.of upd_same, rfl, _, _, rfl, _, _, rfl, rfl, _, rfl, _, rfl, ?_⟩
    by_cases hq : OkE l
    · rw [hq.1, decide_eq_true hq.2]
      refine iteF ?_
      obtain ⟨h0, h1, h2, _, _⟩ := okE_at hq
      have hf : Txt.find (S l) (":" : Str) = (lets 8 l : Nat) := find1 (by rw [col_tl]; rfl) h1 (lets_all 58 (by decide) 8 l)
      refine ⟨_, rfl, ⟨_, rfl⟩, _, _, rfl, rfl, ?_⟩
      refine ⟨_, rfl, _, rfl, _, rfl, S l, rfl, lim_line hl, _, rfl, _, rfl, _, _, rfl, rfl, _, rfl, S l, rfl, lim_line hl, two_line, fun t ht => ?_⟩
      rw [hf, cut0N l (lets 8 l) rfl, cutN l (lets 8 l + 2) (by push_cast; rfl)]
      exact k1 hq t _ ((Ext.new hp).trans (Ext.new ht)) upd_same
    · have e : ((eP l).2 && decide ((eP l).1 = l.length)) = false := by
        cases h1 : ((eP l).2 && decide ((eP l).1 = l.length)) with
        | false => rfl
        | true => exact absurd (by simpa [OkE] using h1) hq
      rw [e]
      exact iteT ⟨_, rfl, _, rfl, ((k2 hq).ext (Ext.new hp)).mk⟩
def spEntryRead (A : Str → Addr) : Sp := fun vs H Q E => ∃ (l : List Nat) (i : Nat), vs = [.str (S l), .int i] ∧ l.length ≤ LIM ∧
  (OkE l → ∀ p H', Ext H H' → H' p = some (.tup [.str (S (nameL l)), .str (S (kindL l))]) → Q (.ref p) H') ∧ (¬ OkE l → XT A H (.int i) (.int ((eP l).1 : Nat)) E)
abbrev N_entry_read : List Str := ["text", "line"]
abbrev P_entry_read : List Str := ["text", "line"]
theorem sc_entry_read : FnScope N_entry_read P_entry_read (defScope s_entry_read) := ⟨rfl, rfl, rfl, by decide +kernel, rfl, by decide +kernel, by decide +kernel⟩
theorem ok_entry_read (T : Facts P K mg A B) : FnOk P w K mg base (L2N.CX P w) 5 (A "entry_read") (B "entry_read") ["text", "line"] (spEntryRead A) := by
  refine okC T.entry_read.fn sc_entry_read (fun vs H Q E h => ?_) (fun cdv Ar outer s H vs Q E hr h => ?_)
  · obtain ⟨l, i, rfl, _⟩ := h
    rfl
  · obtain ⟨l, i, rfl, hl, k1, k2⟩ := h
    refine ⟨_, ((pss_cons (ps_expr (pe_call (ok_want_text T) (hr.mono (by decide)) rfl T.want_text.mg T.want_text.kp T.want_text.bi .nil pass0 (pa_cons (pv 0) pa_nil)))
      (pss_cons (ps_expr (pe_call (ok_want_line T) (hr.mono (by decide)) rfl T.want_line.mg T.want_line.kp T.want_line.bi .nil pass0 (pa_cons (pv 1) pa_nil)))
      (pss_one (ps_ret (pe_call (ok_entry_after T) (hr.mono (by decide)) rfl T.entry_after.mg T.entry_after.kp T.entry_after.bi .nil (L2N.passes_call (L2N.takes_of rfl rfl rfl rfl) fun _ _ _ _ h => h) (pa_cons (pv 0) (pa_cons (pv 1) (pa_cons pe_str pa_nil))))))))), ?_⟩
    exact ⟨_, rfl, _, rfl, _, rfl, i, rfl, _, rfl, _, rfl, l, i, by rw [emp_tl]; rfl, hl, k1, k2⟩
/-! ### letters_ahead, name_in -/
def spLetters : Sp := fun vs H Q _ => ∃ l : List Nat, vs = [.str (S l)] ∧ l.length ≤ LIM ∧ Q (.int (lets 8 l : Nat)) H
abbrev N_letters_ahead : List Str := ["text", "many"]
abbrev P_letters_ahead : List Str := ["text"]
theorem sc_letters_ahead : FnScope N_letters_ahead P_letters_ahead (defScope s_letters_ahead) := ⟨rfl, rfl, rfl, by decide +kernel, rfl, by decide +kernel, by decide +kernel⟩
theorem ok_letters_ahead (T : Facts P K mg A B) : FnOk P w K mg base CX0 1 (A "letters_ahead") (B "letters_ahead") ["text"] spLetters := by
  refine T.letters_ahead.fn.ok sc_letters_ahead (fun vs H Q E h => ?_) (fun cdv Ar outer s H vs Q E hr h => ?_)
  · obtain ⟨l, rfl, _⟩ := h
    rfl
  · obtain ⟨l, rfl, hl, k⟩ := h
    refine ⟨_, ((pss_cons (ps_set (i := 1) sc_letters_ahead.nd rfl (Or.inl rfl) pe_int)
      (pss_cons (ps_while PassesOwn.never (PW.pt (pw_and (pt_cmpR op_lt (pv 1) (pe_callB call_len_str (by rfl) T.b_len PySem.boot_len (pa_cons (pv 0) pa_nil)) (nomark _)) (pw_and (pt_cmpR op_lt (pv 1) (pe_glob (v := T_LONGEST_NAME) rfl T.LONGEST_NAME.choose_spec ⟨_, rfl⟩) (nomark _)) (pw_and1 (pt_cmpR op_in_sign (pe_ix ix_str (pv 0) (pv 1) (fun _ _ => rfl)) (pe_glob (v := T_SMALL) rfl T.SMALL.choose_spec ⟨_, rfl⟩) (by rfl)))))) (pss_one (ps_aug (i := 1) sc_letters_ahead.nd rfl (Or.inl rfl) pe_int ip_add)))
      (pss_one (ps_ret (pv 1)))))), ?_⟩
    have hle := lets_le 8 l
    refine whileZ (fun m σ H' => ∃ e, H' = H ∧ σ = [some (.str (S l)), some (.int (e : Nat))] ∧ m = 8 - e ∧ e ≤ lets 8 l) 8 ⟨0, rfl, rfl, rfl, Nat.zero_le _⟩
      (fun σ H' => H' = H ∧ σ = [some (.str (S l)), some (.int (lets 8 l : Nat))]) ?_ ?_
    · rintro σ H' ⟨rfl, rfl⟩
      exact ⟨_, rfl, k⟩
    · rintro ex m σ H' ⟨e, rfl, rfl, rfl, he⟩
      refine ⟨_, rfl, _, rfl, S l, rfl, lim_line hl, _, _, rfl, rfl, _, rfl, ?_⟩
      by_cases h1 : e < l.length
      rotate_left
      · exact iteDF (by rw [S_len]; omega) (iteF (ex _ _ ⟨rfl, by rw [lets_end (n := 8) (.inr (by omega)) he]⟩))
      refine iteD (by rw [S_len]; omega) ?_
      refine ⟨_, rfl, _, _, rfl, rfl, _, rfl, ?_⟩
      by_cases h2 : e < 8
      rotate_left
      · exact iteDF (by omega) (iteF (ex _ _ ⟨rfl, by rw [lets_end (n := 8) (.inl (by omega)) he]⟩))
      refine iteD (by omega) ?_
      have hc : l[e]? = some l[e] := List.getElem?_eq_getElem h1
      refine ⟨_, rfl, _, rfl, S l, _, l[e], rfl, rfl, lim_line hl, atI_nat hc, _, _, rfl, rfl, _, rfl, ?_⟩
      have st := lets_step (n := 8) h2 hc he
      cases hi : isL l[e] with
      | false => exact iteDF (fun z => by rw [(in_letters _).mp z] at hi; cases hi) (ex _ _ ⟨rfl, by rw [st.2 hi]⟩)
      | true => exact iteD ((in_letters _).mpr hi) ⟨_, fun _ _ z => z, _, rfl, _, _, rfl, rfl, 8 - (e + 1), by omega, e + 1, rfl, by push_cast; rfl, rfl, st.1 hi⟩
def OkN (l : List Nat) : Prop := lets 8 l ≠ 0 ∧ lets 8 l = l.length
instance (l : List Nat) : Decidable (OkN l) := inferInstanceAs (Decidable (_ ∧ _))
def spNameIn (A : Str → Addr) : Sp := fun vs H Q E => ∃ (l : List Nat) (i c : Nat), vs = [.str (S l), .int i, .int c] ∧ l.length ≤ LIM ∧
  (OkN l → ∀ H', Ext H H' → Q (.str (S l)) H') ∧ (¬ OkN l → XT A H (.int i) (.int ((c + lets 8 l : Nat) : Int)) E)
abbrev N_name_in : List Str := ["text", "line", "column", "many"]
abbrev P_name_in : List Str := ["text", "line", "column"]
theorem sc_name_in : FnScope N_name_in P_name_in (defScope s_name_in) := ⟨rfl, rfl, rfl, by decide +kernel, rfl, by decide +kernel, by decide +kernel⟩
theorem ok_name_in (T : Facts P K mg A B) : FnOk P w K mg base (L2.CX P w) 2 (A "name_in") (B "name_in") ["text", "line", "column"] (spNameIn A) := by
  refine okC T.name_in.fn sc_name_in (fun vs H Q E h => ?_) (fun cdv Ar outer s H vs Q E hr h => ?_)
  · obtain ⟨l, i, c, rfl, _⟩ := h
    rfl
  · obtain ⟨l, i, c, rfl, hl, k1, k2⟩ := h
    refine ⟨_, ((pss_cons (ps_set (i := 3) sc_name_in.nd rfl (Or.inl rfl) (pe_call (ok_letters_ahead T) (hr.mono (by decide)) rfl T.letters_ahead.mg T.letters_ahead.kp T.letters_ahead.bi .nil pass0 (pa_cons (pv 0) pa_nil)))
      (pss_cons (ps_if (PW.pt (pw_or (pt_cmpR op_eq (pv 3) pe_int (nomark _)) (pw_or1 (pt_cmpR op_lt (pv 3) (pe_callB call_len_str (by rfl) T.b_len PySem.boot_len (pa_cons (pv 0) pa_nil)) (nomark _))))) (pss_one (ps_raise rfl (takes_of rfl rfl rfl rfl) (pmk_of_N (L2H.PMk5.pmk (pmk5_InvalidText T (by have z := dep hr; exact z) (pa_cons (pv 1) (pa_cons (pe_op op_add (pv 2) (pv 3)) pa_nil))))))) pss_nil)
      (pss_one (ps_ret (pv 0)))))), ?_⟩
    refine ⟨_, rfl, l, rfl, hl, _, rfl, rfl, _, rfl, ?_⟩
    have hle := lets_le 8 l
    have bad : ¬ OkN l → tMk2 (A "InvalidText") "line" "column" (tCons (tVar 1) (tCons (tOp (rI0 fun i j => V.int (i + j)) (tVar 2) (tVar 3)) tNil)) [some (.str (S l)), some (.int i), some (.int c), some (.int (lets 8 l : Nat))] H E := fun hq =>
      ⟨_, rfl, _, rfl, _, rfl, _, _, rfl, rfl, (k2 hq).mk⟩
    by_cases h0 : lets 8 l = 0
    · exact iteD (by rw [h0]; rfl) (iteT (bad fun z => z.1 h0))
    · refine iteDF (fun z => h0 (by have := V.int.inj z; omega)) ?_
      refine ⟨_, rfl, _, rfl, S l, rfl, lim_line hl, _, _, rfl, rfl, _, rfl, ?_⟩
      by_cases h1 : lets 8 l = l.length
      · exact iteDF (by rw [S_len]; omega) ⟨_, rfl, k1 ⟨h0, h1⟩ H (Ext.refl _)⟩
      · exact iteD (by rw [S_len]; omega) (bad fun z => h1 z.2)
end Og
set_option Elab.async false
set_option linter.all false
set_option maxRecDepth 100000
set_option maxHeartbeats 4000000
namespace Og
open PySem PySem.Spec PyProof.Rows L2 TL
variable {P : Program} {w : World} {K : PySem.W.Frag} {mg : Str → Option Value} {base : Heap} {A : Str → Addr} {B : Str → FuncData}
/-! ### common_with -/
def cw (l : List Nat) : List (List Nat) → Nat
  | [] => 0
  | h :: hs => max (cp l h) (cw l hs)
theorem cw_le (l : List Nat) : ∀ hs, cw l hs ≤ l.length
  | [] => Nat.zero_le _
  | h :: hs => by
    unfold cw
    have := cw_le l hs
    have := (cp_le l h).1
    omega
theorem le_cw {l : List Nat} {k : Nat} (hk : 0 < k) : ∀ hs, k ≤ cw l hs ↔ ∃ h ∈ hs, k ≤ cp l h
  | [] => by unfold cw; simp; omega
  | h :: hs => by
    unfold cw
    have := le_cw hk (l := l) hs
    simp only [List.mem_cons, exists_eq_or_imp]
    rw [← this]
    omega
theorem pre_cp : ∀ (k : Nat) (l h : List Nat), k ≤ l.length → pre (l.take k) h = decide (k ≤ cp l h)
  | 0, l, h, _ => by simp [pre]
  | k + 1, [], h, hk => by simp at hk
  | k + 1, a :: l, [], hk => by
    unfold cp pre
    simp
  | k + 1, a :: l, b :: h, hk => by
    have ih := pre_cp k l h (by simpa using hk)
    unfold pre at ih ⊢
    unfold cp
    have e : (a :: l).take (k + 1) = a :: l.take k := rfl
    rw [e]
    by_cases q : a = b
    · subst q
      rw [if_pos rfl]
      show ((a :: h.take (l.take k).length) == (a :: l.take k)) = _
      rw [List.cons_beq_cons]
      rw [ih]
      simp
    · rw [if_neg q]
      show ((b :: h.take (l.take k).length) == (a :: l.take k)) = _
      rw [List.cons_beq_cons]
      have : (b == a) = false := by simpa using fun z : b = a => q z.symm
      rw [this]
      simp
def spCommon (K : PySem.W.Frag) : Sp := fun vs H Q _ => ∃ (l : List Nat) (b : Addr) (hs : List (List Nat)), vs = [.str (S l), .ref b] ∧ l.length ≤ LIM ∧ hs.length ≤ 10 ∧ SqT K H b (hs.map fun h => .str (S h)) ∧ ∀ H', Ext H H' → Q (.int (cw l hs : Nat)) H'
abbrev N_common_with : List Str := ["text", "beginnings", "many", "each"]
abbrev P_common_with : List Str := ["text", "beginnings"]
theorem sc_common_with : FnScope N_common_with P_common_with (defScope s_common_with) := ⟨rfl, rfl, rfl, by decide +kernel, rfl, by decide +kernel, by decide +kernel⟩
theorem ok_common_with (T : Facts P K mg A B) : FnOk P w K mg base CX0 1 (A "common_with") (B "common_with") ["text", "beginnings"] (spCommon K) := by
  refine T.common_with.fn.ok sc_common_with (fun vs H Q E h => ?_) (fun cdv Ar outer s H vs Q E hr h => ?_)
  · obtain ⟨l, b, hs, rfl, _⟩ := h
    rfl
  · obtain ⟨l, b, hs, rfl, hl, h10, hb, k⟩ := h
    refine ⟨_, ((pss_cons (ps_set (i := 2) sc_common_with.nd rfl (Or.inr rfl) pe_int)
      (pss_cons (ps_while PassesOwn.never (PW.pt (pw_and (pt_cmpR op_lt (pv 2) (pe_callB call_len_str (by rfl) T.b_len PySem.boot_len (pa_cons (pv 0) pa_nil)) (nomark _)) (pw_and1 (pt_val (pe_callB (cr_any rfl) (by rfl) T.b_any (by decide +kernel) (pa_cons (pe_lc (own := [("each", 3)]) (g := gName 3) (tt := tYes) rfl sc_common_with.nd (pi_tup (pv 1)) (blkOk_by (own := [("each", 3)]) (N := N_common_with) (sc := defScope s_common_with) (by decide +kernel)) (fun _ _ _ _ _ => (pg_name (i := 3) sc_common_with.nd rfl (Or.inl rfl))) (fun _ _ _ _ _ => pts_nil) (fun _ _ _ _ _ => (pe_m1 PySem.F.slot_str_startswith PySem.F.type_str_startswith mt_startswith (pv 3) (pe_slice sl_str (pv 0) po_none (po_some (pe_op op_add (pv 2) pe_int)))))) pa_nil)))))) (pss_one (ps_aug (i := 2) sc_common_with.nd rfl (Or.inr rfl) pe_int ip_add)))
      (pss_one (ps_ret (pv 2)))))), ?_⟩
    have hle := cw_le l hs
    refine whileZ (fun m σ H' => ∃ e, Ext H H' ∧ σ = [some (.str (S l)), some (.ref b), some (.int (e : Nat)), none] ∧ m = l.length - e ∧ e ≤ cw l hs) l.length ⟨0, Ext.refl H, rfl, rfl, Nat.zero_le _⟩
      (fun σ H' => Ext H H' ∧ σ = [some (.str (S l)), some (.ref b), some (.int (cw l hs : Nat)), none]) ?_ ?_
    · rintro σ H' ⟨x, rfl⟩
      exact ⟨_, rfl, k H' x⟩
    · rintro ex m σ H' ⟨e, x, rfl, rfl, he⟩
      refine ⟨_, rfl, _, rfl, S l, rfl, lim_line hl, _, _, rfl, rfl, _, rfl, ?_⟩
      by_cases h1 : e < l.length
      rotate_left
      · exact iteDF (by rw [S_len]; omega) (iteF (ex _ _ ⟨x, by rw [show cw l hs = e by omega]⟩))
      refine iteD (by rw [S_len]; omega) ?_
      have ht : (l.take (e + 1)).length = e + 1 := by rw [List.length_take]; omega
      have hne : tl (S (l.take (e + 1))) ≠ [] := fun z => by
        rw [tl_S] at z
        rw [z] at ht
        simp at ht
      refine ⟨_, rfl, b, rfl, ⟨_, sqT_ext x hb⟩, fun D hD => lc_tup (xs := hs.map fun h => V.str (S h)) (fun i H1 => Ext H' H1 ∧ H1 D = some (.lst ((hs.take i).map fun h => V.bl (decide (e + 1 ≤ cp l h))))) ⟨Ext.new hD, upd_same⟩ (fun i H1 _ p => sqT_ext (x.trans p.1) hb) (fun i y H1 hy p => ?_) (fun H1 p => ?_)⟩
      · rw [List.getElem?_map] at hy
        obtain ⟨h, hh, rfl⟩ := Option.map_eq_some_iff.mp hy
        refine ⟨rfl, ?_⟩
        unfold tYes
        refine iteT ?_
        refine ⟨_, rfl, ⟨_, rfl⟩, _, rfl, _, rfl, _, _, rfl, rfl, _, rfl, S l, rfl, lim_line hl, S h, _, rfl, rfl, ?_⟩
        rw [cut0N l (e + 1) (by push_cast; rfl), starts hne, tl_S, pre_cp _ _ _ (by omega)]
        have hi := (List.getElem?_eq_some_iff.mp hh).1
        refine ⟨_, p.2, ?_, p.1.upd hD, ?_⟩
        · rw [List.length_map, List.length_take, sizeLine_eq]
          omega
        · rw [upd_same, List.take_succ, hh]
          simp
      · have hl2 := p.2
        rw [List.length_map, List.take_length] at hl2
        refine ⟨D, hs.map fun h => decide (e + 1 ≤ cp l h), rfl, SqL.of ?_, _, rfl, ?_⟩
        · rw [hl2, List.map_map]
          rfl
        · have hany : ((hs.map fun h => decide (e + 1 ≤ cp l h)).any id) = decide (e + 1 ≤ cw l hs) := by
            rw [List.any_map]
            have := le_cw (l := l) (k := e + 1) (by omega) hs
            cases hq : hs.any (id ∘ fun h => decide (e + 1 ≤ cp l h)) with
            | true =>
              simp only [List.any_eq_true, Function.comp, id, decide_eq_true_eq] at hq
              exact (decide_eq_true (this.mpr hq)).symm
            | false =>
              refine (decide_eq_false fun z => ?_).symm
              obtain ⟨h, h1, h2⟩ := this.mp z
              have : (hs.any (id ∘ fun h => decide (e + 1 ≤ cp l h))) = true := by
                simp only [List.any_eq_true, Function.comp, id, decide_eq_true_eq]
                exact ⟨h, h1, h2⟩
              rw [hq] at this
              cases this
          rw [hany]
          by_cases h2 : e + 1 ≤ cw l hs
          · exact iteD h2 ⟨_, fun _ _ z => z, _, rfl, _, _, rfl, rfl, l.length - (e + 1), by omega, e + 1, x.trans p.1, by push_cast; rfl, rfl, h2⟩
          · exact iteDF h2 (ex _ _ ⟨x.trans p.1, by rw [show cw l hs = e by omega]⟩)
/-! ### entry_in, kind_in -/
def spEntryIn (A : Str → Addr) : Sp := fun vs H Q E => ∃ (l : List Nat) (i c : Nat), vs = [.str (S l), .int i, .int c] ∧ l.length ≤ LIM ∧
  (OkE l → ∀ p H', Ext H H' → H' p = some (.tup [.str (S (nameL l)), .str (S (kindL l))]) → Q (.ref p) H') ∧ (¬ OkE l → XT A H (.int i) (.int ((c + (eP l).1 : Nat) : Int)) E)
abbrev N_entry_in : List Str := ["text", "line", "column", "error"]
abbrev P_entry_in : List Str := ["text", "line", "column"]
theorem sc_entry_in : FnScope N_entry_in P_entry_in (defScope s_entry_in) := ⟨rfl, rfl, rfl, by decide +kernel, rfl, by decide +kernel, by decide +kernel⟩
theorem ok_entry_in (T : Facts P K mg A B) : FnOk P w K mg base (L2.CX P w) 6 (A "entry_in") (B "entry_in") ["text", "line", "column"] (spEntryIn A) := by
  obtain ⟨dv, bv, bd⟩ := T.entry_read.bd
  refine okC T.entry_in.fn sc_entry_in (fun vs H Q E h => ?_) (fun cdv Ar outer s H vs Q E hr h => ?_)
  · obtain ⟨l, i, c, rfl, _⟩ := h
    rfl
  · obtain ⟨l, i, c, rfl, hl, k1, k2⟩ := h
    refine ⟨_, pss_one (ps_try_asX (i := 3) rfl rfl sc_entry_in.nd rfl rfl ⟨rfl, by decide, .inl T.gIT⟩ (fun _ => PassesOwnAt.leaving) (takes_of rfl rfl rfl rfl)
      (fun W pn xe tk _ => pss_one (ps_ret (pe_callSD (ok_entry_read T) (hr.mono (by decide)) rfl T.entry_read.mg T.entry_read.kp bd bv (fun σ => L2N.passAt tk σ) (pa_cons (pv 0) pa_nil))))
      (fun a oe cls d pn xe hz hf tk hot => pss_one (L2H.ps_raiseHN hot tk (pmk5_InvalidText T (by have z := dep hr; exact z) (pa_cons (pv 1) (pa_cons (pe_op op_add (pv 2) (pe_xfY T.xf T.n2 hz.zc hf (pv 3))) pa_nil)))))), ?_⟩
    refine ⟨_, rfl, l, 0, rfl, hl, k1, fun hq d H' x hd => ⟨T.teIT, fun a na => ?_⟩⟩
    exact ⟨_, rfl, _, rfl, _, rfl, rfl, rfl, d, _, _, rfl, hd, rfl, _, _, rfl, rfl, _, _, rfl, fun d2 hd2 => k2 hq d2 _ (x.trans (Ext.new hd2)) upd_same⟩
def OkK (l : List Nat) : Prop := (kS l [false] 0).2 = true ∧ (kS l [false] 0).1 = l.length
instance (l : List Nat) : Decidable (OkK l) := inferInstanceAs (Decidable (_ ∧ _))
def spKindIn (A : Str → Addr) : Sp := fun vs H Q E => ∃ (l : List Nat) (i c : Nat), vs = [.str (S l), .int i, .int c] ∧ l.length ≤ LIM ∧
  (OkK l → ∀ H', Ext H H' → Q (.str (S l)) H') ∧ (¬ OkK l → XT A H (.int i) (.int ((c + (kS l [false] 0).1 : Nat) : Int)) E)
abbrev N_kind_in : List Str := ["text", "line", "column", "error"]
abbrev P_kind_in : List Str := ["text", "line", "column"]
theorem sc_kind_in : FnScope N_kind_in P_kind_in (defScope s_kind_in) := ⟨rfl, rfl, rfl, by decide +kernel, rfl, by decide +kernel, by decide +kernel⟩
theorem ok_kind_in (T : Facts P K mg A B) : FnOk P w K mg base (L2.CX P w) 5 (A "kind_in") (B "kind_in") ["text", "line", "column"] (spKindIn A) := by
  obtain ⟨dv, bv, bd⟩ := T.kind_read.bd
  refine okC T.kind_in.fn sc_kind_in (fun vs H Q E h => ?_) (fun cdv Ar outer s H vs Q E hr h => ?_)
  · obtain ⟨l, i, c, rfl, _⟩ := h
    rfl
  · obtain ⟨l, i, c, rfl, hl, k1, k2⟩ := h
    refine ⟨_, pss_one (ps_try_asX (i := 3) rfl rfl sc_kind_in.nd rfl rfl ⟨rfl, by decide, .inl T.gIT⟩ (fun _ => PassesOwnAt.leaving) (takes_of rfl rfl rfl rfl)
      (fun W pn xe tk _ => pss_one (ps_ret (pe_callSD (ok_kind_read T) (hr.mono (by decide)) rfl T.kind_read.mg T.kind_read.kp bd bv (fun σ => L2N.passAt tk σ) (pa_cons (pv 0) pa_nil))))
      (fun a oe cls d pn xe hz hf tk hot => pss_one (L2H.ps_raiseHN hot tk (pmk5_InvalidText T (by have z := dep hr; exact z) (pa_cons (pv 1) (pa_cons (pe_op op_add (pv 2) (pe_xfY T.xf T.n2 hz.zc hf (pv 3))) pa_nil)))))), ?_⟩
    refine ⟨_, rfl, l, 0, rfl, hl, k1, fun hq d H' x hd => ⟨T.teIT, fun a na => ?_⟩⟩
    exact ⟨_, rfl, _, rfl, _, rfl, rfl, rfl, d, _, _, rfl, hd, rfl, _, _, rfl, rfl, _, _, rfl, fun d2 hd2 => k2 hq d2 _ (x.trans (Ext.new hd2)) upd_same⟩
end Og
set_option Elab.async false
set_option linter.all false
set_option maxRecDepth 100000
set_option maxHeartbeats 4000000
namespace Og
open PySem PySem.Spec PyProof.Rows L2 TL
variable {P : Program} {w : World} {K : PySem.W.Frag} {mg : Str → Option Value} {base : Heap} {A : Str → Addr} {B : Str → FuncData}
/-! ### a text up to a sign -/
def wd (c : Nat) (l : List Nat) : List Nat := l.takeWhile (· != c)
def rs (c : Nat) (l : List Nat) : List Nat := l.drop ((wd c l).length + 1)
def sg (c : Nat) (l : List Nat) : List Nat := if c ∈ l then [c] else []
theorem wd_free (c : Nat) : ∀ l : List Nat, c ∉ wd c l
  | [] => by simp [wd]
  | a :: l => by
    unfold wd
    rw [List.takeWhile_cons]
    split
    · rename_i h
      have : a ≠ c := by simpa using h
      simp
      exact ⟨fun z => this z.symm, wd_free c l⟩
    · simp
theorem wd_cut (c : Nat) : ∀ l : List Nat, c ∈ l → l = wd c l ++ c :: rs c l
  | [], h => by simp at h
  | a :: l, h => by
    unfold wd rs wd
    rw [List.takeWhile_cons]
    by_cases e : a = c
    · subst e
      simp
    · have hl : c ∈ l := by
        rcases List.mem_cons.mp h with z | z
        · exact absurd z.symm e
        · exact z
      have ih := wd_cut c l hl
      unfold wd rs wd at ih
      have q : (a != c) = true := by simpa using e
      rw [q]
      simp only [if_true]
      simp
      exact ih
theorem wd_all (c : Nat) (l : List Nat) (h : c ∉ l) : wd c l = l := by
  unfold wd
  induction l with
  | nil => rfl
  | cons a l ih =>
    rw [List.takeWhile_cons]
    have : a ≠ c := fun z => h (by rw [z]; exact List.mem_cons_self)
    have q : (a != c) = true := by simpa using this
    rw [q]
    simp only [if_true]
    rw [ih fun z => h (List.mem_cons_of_mem _ z)]
theorem partS (c : Nat) (l : List Nat) {y : Str} (hy : tl y = [c]) : Txt.partition (S l) y = (S (wd c l), S (sg c l), S (rs c l)) := by
  have ey : y = S [c] := ext_tl hy
  by_cases h : c ∈ l
  · have e := wd_cut c l h
    have : S l = S (wd c l) ++ y ++ S (rs c l) := by
      rw [ey, S_app, S_app]
      rw [List.append_assoc]
      exact congrArg S e
    rw [this, partition_app (s := c) (S := []) hy (by rw [tl_S]; exact wd_free c l)]
    unfold sg
    rw [if_pos h, ey]
  · rw [partition_none (s := c) (S := []) hy (by rw [tl_S]; exact h)]
    unfold sg rs
    rw [if_neg h, wd_all c l h, List.drop_eq_nil_of_le (by omega)]
    rfl
/-! ### event_in -/
def wName : List Nat := [110, 97, 109, 101]
def wDrop : List Nat := [100, 114, 111, 112]
def wKind : List Nat := [107, 105, 110, 100]
def EVB : List (List Nat) := [wName ++ [32], wDrop ++ [32], wKind ++ [32], [108, 101, 116, 32], [98, 97, 114, 32], [102, 114, 101, 101, 32]]
theorem evb_tl : ([.str "name ", .str "drop ", .str "kind ", .str "let ", .str "bar ", .str "free "] : List V) = EVB.map fun h => V.str (S h) := by decide +kernel
theorem name_tl : ("name" : Str) = S wName := by decide +kernel
theorem drop_tl : ("drop" : Str) = S wDrop := by decide +kernel
theorem kind_tl : ("kind" : Str) = S wKind := by decide +kernel
def six (l : List Nat) : Bool := EVB.contains (wd 32 l ++ sg 32 l)
/-- the event that a line writes, or how many signs of it can stand -/
def evR (l : List Nat) : Nat ⊕ List (List Nat) :=
  if six l then
    if wd 32 l = wName ∨ wd 32 l = wKind then (if OkE (rs 32 l) then .inr [wd 32 l, nameL (rs 32 l), kindL (rs 32 l)] else .inl ((wd 32 l).length + 1 + (eP (rs 32 l)).1))
    else if wd 32 l = wDrop then (if OkN (rs 32 l) then .inr [wd 32 l, rs 32 l] else .inl ((wd 32 l).length + 1 + lets 8 (rs 32 l)))
    else (if OkK (rs 32 l) then .inr [wd 32 l, rs 32 l] else .inl ((wd 32 l).length + 1 + (kS (rs 32 l) [false] 0).1))
  else .inl (cw l EVB)
theorem inV_S (l : List Nat) (hs : List (List Nat)) : inV (.str (S l)) (hs.map fun h => V.str (S h)) = hs.contains l := by
  unfold inV
  rw [List.any_map]
  induction hs with
  | nil => rfl
  | cons h hs ih =>
    rw [List.any_cons, ih, List.contains_cons]
    congr 1
    show (S h == S l) = (l == h)
    by_cases e : l = h
    · subst e
      simp
    · have : (l == h) = false := by simpa using e
      rw [this]
      exact beq_false_of_ne fun z => e (S_inj z).symm
theorem len_wd (c : Nat) (l : List Nat) : (wd c l).length ≤ l.length := by
  unfold wd
  exact (List.takeWhile_prefix _).length_le
theorem len_rs (c : Nat) (l : List Nat) : (rs c l).length ≤ l.length := by
  unfold rs
  rw [List.length_drop]
  omega
theorem len_sg (c : Nat) (l : List Nat) : (sg c l).length ≤ 1 := by
  unfold sg
  split <;> simp
def spEventIn (A : Str → Addr) : Sp := fun vs H Q E => ∃ (l : List Nat) (i : Nat), vs = [.str (S l), .int i] ∧ l.length ≤ LIM ∧
  (∀ ws, evR l = .inr ws → ∀ p H', Ext H H' → H' p = some (.tup (ws.map fun h => V.str (S h))) → Q (.ref p) H') ∧ (∀ c, evR l = .inl c → XT A H (.int i) (.int (c : Nat)) E)
abbrev N_event_in : List Str := ["text", "line", "head", "sign", "rest", "column"]
abbrev P_event_in : List Str := ["text", "line"]
theorem sc_event_in : FnScope N_event_in P_event_in (defScope s_event_in) := ⟨rfl, rfl, rfl, by decide +kernel, rfl, by decide +kernel, by decide +kernel⟩
theorem ok_event_in (T : Facts P K mg A B) : FnOk P w K mg base (L2.CX P w) 7 (A "event_in") (B "event_in") ["text", "line"] (spEventIn A) := by
  have kb_entry_in := T.entry_in.kb
  have kb_kind_in := T.kind_in.kb
  have kb_name_in := T.name_in.kb
  refine okC T.event_in.fn sc_event_in (fun vs H Q E h => ?_) (fun cdv Ar outer s H vs Q E hr h => ?_)
  · obtain ⟨l, i, rfl, _⟩ := h
    rfl
  · obtain ⟨l, i, rfl, hl, k1, k2⟩ := h
    refine ⟨_, ((pss_cons (ps_asg (pe_partition (pv 0) pe_str) (pg_tup rfl (pgs_cons (pg_name (i := 2) sc_event_in.nd rfl (Or.inl rfl)) (pgs_cons (pg_name (i := 3) sc_event_in.nd rfl (Or.inl rfl)) (pgs_cons (pg_name (i := 4) sc_event_in.nd rfl (Or.inl rfl)) pgs_nil)))))
      (pss_cons (ps_if (pt_cmpR op_notIn_seq (pe_op op_add_str (pv 2) (pv 3)) (pe_glob (v := .ref (A "EVENT_BEGINNINGS")) rfl T.EVENT_BEGINNINGS rfl) (by rfl)) (pss_one (ps_raise rfl (takes_of rfl rfl rfl rfl) (pmk_of_N (L2H.PMk5.pmk (pmk5_InvalidText T (by have z := dep hr; exact z) (pa_cons (pv 1) (pa_cons (pe_call (ok_common_with T) (hr.mono (by decide)) rfl T.common_with.mg T.common_with.kp T.common_with.bi .nil pass0 (pa_cons (pv 0) (pa_cons (pe_glob (v := .ref (A "EVENT_BEGINNINGS")) rfl T.EVENT_BEGINNINGS rfl) pa_nil))) pa_nil))))))) pss_nil)
      (pss_cons (ps_set (i := 5) sc_event_in.nd rfl (Or.inl rfl) (pe_op op_add (pe_callB call_len_str (by rfl) T.b_len PySem.boot_len (pa_cons (pv 2) pa_nil)) pe_int))
      (pss_cons (ps_if (pt_cmpR op_in_seq (pv 2) (pe_tup (pa_cons pe_str (pa_cons pe_str pa_nil))) (by rfl)) (pss_one (ps_ret (pe_tup (pa_cons (pv 2) (StX.pa_star (pe_callTy call_list_of (by rfl) T.b_list (by decide +kernel) (pa_cons (pe_callK (ok_entry_in T) (hr.mono (by decide)) rfl T.entry_in.mg T.entry_in.kp kb_entry_in (passes_call (takes_of rfl rfl rfl rfl) fun _ _ _ _ h => h) (pa_cons (pv 4) pa_nil) (pk_cons (pv 1) (pk_cons (pv 5) pk_nil))) pa_nil)) pa_nil))))) pss_nil)
      (pss_cons (ps_if (pt_cmpR op_eq (pv 2) pe_str (nomark _)) (pss_one (ps_ret (pe_tup (pa_cons (pv 2) (pa_cons (pe_callK (ok_name_in T) (hr.mono (by decide)) rfl T.name_in.mg T.name_in.kp kb_name_in (passes_call (takes_of rfl rfl rfl rfl) fun _ _ _ _ h => h) (pa_cons (pv 4) pa_nil) (pk_cons (pv 1) (pk_cons (pv 5) pk_nil))) pa_nil))))) pss_nil)
      (pss_one (ps_ret (pe_tup (pa_cons (pv 2) (pa_cons (pe_callK (ok_kind_in T) (hr.mono (by decide)) rfl T.kind_in.mg T.kind_in.kp kb_kind_in (passes_call (takes_of rfl rfl rfl rfl) fun _ _ _ _ h => h) (pa_cons (pv 4) pa_nil) (pk_cons (pv 1) (pk_cons (pv 5) pk_nil))) pa_nil))))))))))), ?_⟩
    refine ⟨_, rfl, ⟨_, rfl⟩, S l, _, rfl, rfl, rfl, lim_line hl, fun p hp => ?_⟩
    rw [partS 32 l (by rw [spc_tl]; rfl)]
    refine ⟨p, _, rfl, SqT.of upd_same, rfl, _, _, rfl, _, _, rfl, _, _, rfl, rfl, ?_⟩
    have l1 := len_wd 32 l
    have l2 := len_sg 32 l
    have l3 := len_rs 32 l
    generalize hH1 : upd H p (.tup [.str (S (wd 32 l)), .str (S (sg 32 l)), .str (S (rs 32 l))]) = H1
    have x1 : Ext H H1 := by rw [← hH1]; exact Ext.new hp
    refine ⟨_, rfl, _, rfl, _, _, rfl, rfl, by rw [S_len, S_len, sizeLine_eq]; unfold LIM at hl; omega, ?_⟩
    rw [S_app]
    refine ⟨_, _, rfl, .inr (T.tEB H1), rfl, by decide, _, rfl, ?_⟩
    rw [evb_tl, inV_S]
    cases h6 : six l with
    | false =>
      refine iteB (by show (!(EVB.contains (wd 32 l ++ sg 32 l))) = true; rw [show EVB.contains (wd 32 l ++ sg 32 l) = false from h6]; rfl) ?_
      refine ⟨_, rfl, _, rfl, l, A "EVENT_BEGINNINGS", EVB, rfl, hl, by decide, by rw [← evb_tl]; exact T.tEB H1, fun H2 x2 => ?_⟩
      exact ((k2 (cw l EVB) (by unfold evR; rw [h6]; rfl)).ext (x1.trans x2)).mk
    | true =>
      refine iteBF (by show (!(EVB.contains (wd 32 l ++ sg 32 l))) = false; rw [show EVB.contains (wd 32 l ++ sg 32 l) = true from h6]; rfl) ?_
      have cl : l.length ≤ LIM := hl
      refine ⟨_, rfl, S (wd 32 l), rfl, lim_line (by omega), _, _, rfl, rfl, ?_⟩
      have hcol : ((S (wd 32 l)).length : Int) + 1 = (((wd 32 l).length + 1 : Nat) : Int) := by rw [S_len]; push_cast; rfl
      refine ⟨_, rfl, two_line, fun t ht => ?_⟩
      have x2 : Ext H (upd H1 t (.tup [V.str "name", V.str "kind"])) := x1.trans (Ext.new ht)
      refine ⟨t, _, rfl, .inr (SqT.of upd_same), rfl, rfl, _, rfl, ?_⟩
      have e2 : ([V.str "name", V.str "kind"] : List V) = [wName, wKind].map fun h => V.str (S h) := by decide +kernel
      rw [e2] at x2 ⊢
      have e2' : inV (V.str (S (wd 32 l))) ([wName, wKind].map fun h => V.str (S h)) = decide (wd 32 l = wName ∨ wd 32 l = wKind) := by
        rw [inV_S]
        simp [List.contains_cons]
      by_cases hnk : wd 32 l = wName ∨ wd 32 l = wKind
      · refine iteB (by show inV (V.str (S (wd 32 l))) ([wName, wKind].map fun h => V.str (S h)) = true; rw [e2']; exact decide_eq_true hnk) ?_
        have ev : evR l = if OkE (rs 32 l) then .inr [wd 32 l, nameL (rs 32 l), kindL (rs 32 l)] else .inl ((wd 32 l).length + 1 + (eP (rs 32 l)).1) := by
          unfold evR
          rw [h6, if_pos rfl, if_pos hnk]
        refine ⟨_, rfl, _, rfl, _, rfl, _, rfl, rs 32 l, i, (wd 32 l).length + 1, by show [V.str (S (rs 32 l)), V.int i, V.int (((S (wd 32 l)).length : Int) + 1)] = _; rw [hcol], by omega, fun hq q H3 x3 h3 => ?_, fun hq => ?_⟩
        · rw [if_pos hq] at ev
          refine ⟨q, _, rfl, .inr (SqT.of h3), fun u hu => ⟨u, _, rfl, .inr (SqL.of upd_same), ?_⟩⟩
          refine ⟨by show 3 ≤ sizeLine; rw [sizeLine_eq]; decide, fun v hv => ?_⟩
          exact k1 _ ev v _ (((x2.trans x3).trans (Ext.new hu)).trans (Ext.new hv)) upd_same
        · rw [if_neg hq] at ev
          exact (k2 _ ev).ext x2
      · refine iteBF (by show inV (V.str (S (wd 32 l))) ([wName, wKind].map fun h => V.str (S h)) = false; rw [e2']; exact decide_eq_false hnk) ?_
        refine ⟨_, rfl, rfl, _, rfl, ?_⟩
        by_cases hd : wd 32 l = wDrop
        · refine iteD (by rw [hd, drop_tl]) ?_
          have ev : evR l = if OkN (rs 32 l) then .inr [wd 32 l, rs 32 l] else .inl ((wd 32 l).length + 1 + lets 8 (rs 32 l)) := by
            unfold evR
            rw [h6, if_pos rfl, if_neg hnk, if_pos hd]
          refine ⟨_, rfl, _, rfl, _, rfl, _, rfl, rs 32 l, i, (wd 32 l).length + 1, by show [V.str (S (rs 32 l)), V.int i, V.int (((S (wd 32 l)).length : Int) + 1)] = _; rw [hcol], by omega, fun hq H3 x3 => ?_, fun hq => ?_⟩
          · rw [if_pos hq] at ev
            exact ⟨two_line, fun v hv => k1 _ ev v _ ((x2.trans x3).trans (Ext.new hv)) upd_same⟩
          · rw [if_neg hq] at ev
            exact (k2 _ ev).ext x2
        · refine iteDF (fun z => hd (S_inj (V.str.inj (by rw [drop_tl] at z; exact z)))) ?_
          have ev : evR l = if OkK (rs 32 l) then .inr [wd 32 l, rs 32 l] else .inl ((wd 32 l).length + 1 + (kS (rs 32 l) [false] 0).1) := by
            unfold evR
            rw [h6, if_pos rfl, if_neg hnk, if_neg hd]
          refine ⟨_, rfl, _, rfl, _, rfl, _, rfl, rs 32 l, i, (wd 32 l).length + 1, by show [V.str (S (rs 32 l)), V.int i, V.int (((S (wd 32 l)).length : Int) + 1)] = _; rw [hcol], by omega, fun hq H3 x3 => ?_, fun hq => ?_⟩
          · rw [if_pos hq] at ev
            exact ⟨two_line, fun v hv => k1 _ ev v _ ((x2.trans x3).trans (Ext.new hv)) upd_same⟩
          · rw [if_neg hq] at ev
            exact (k2 _ ev).ext x2
/-! ### later_reach, later_entry -/
/-- how many letters can begin a name that is greater than b -/
def rgo (l b : List Nat) : Nat → Nat → Nat
  | 0, k => k
  | f + 1, k => if k < lets 8 l ∧ b < l.take (k + 1) ++ ZZ.drop (k + 1) then rgo l b f (k + 1) else k
def rc (l b : List Nat) : Nat := rgo l b (lets 8 l) 0
theorem rgo_le (l b : List Nat) : ∀ f k, k ≤ lets 8 l → rgo l b f k ≤ lets 8 l ∧ k ≤ rgo l b f k
  | 0, k, h => by unfold rgo; omega
  | f + 1, k, h => by
    unfold rgo
    split
    · rename_i q
      have := rgo_le l b f (k + 1) (by omega)
      omega
    · omega
def spReach : Sp := fun vs H Q _ => ∃ l b : List Nat, vs = [.str (S l), .str (S b)] ∧ l.length ≤ LIM ∧ Q (.int (rc l b : Nat)) H
abbrev N_later_reach : List Str := ["text", "before", "many", "most"]
abbrev P_later_reach : List Str := ["text", "before"]
theorem sc_later_reach : FnScope N_later_reach P_later_reach (defScope s_later_reach) := ⟨rfl, rfl, rfl, by decide +kernel, rfl, by decide +kernel, by decide +kernel⟩
theorem ok_later_reach (T : Facts P K mg A B) : FnOk P w K mg base CX0 2 (A "later_reach") (B "later_reach") ["text", "before"] spReach := by
  refine T.later_reach.fn.ok sc_later_reach (fun vs H Q E h => ?_) (fun cdv Ar outer s H vs Q E hr h => ?_)
  · obtain ⟨l, b, rfl, _⟩ := h
    rfl
  · obtain ⟨l, b, rfl, hl, k⟩ := h
    refine ⟨_, ((pss_cons (ps_set (i := 2) sc_later_reach.nd rfl (Or.inl rfl) pe_int)
      (pss_cons (ps_set (i := 3) sc_later_reach.nd rfl (Or.inl rfl) (pe_call (ok_letters_ahead T) (hr.mono (by decide)) rfl T.letters_ahead.mg T.letters_ahead.kp T.letters_ahead.bi .nil pass0 (pa_cons (pv 0) pa_nil)))
      (pss_cons (ps_while PassesOwn.never (PW.pt (pw_and (pt_cmpR op_lt (pv 2) (pv 3) (nomark _)) (pw_and1 (pt_cmpR op_gt_str (pe_op op_add_str (pe_slice sl_str (pv 0) po_none (po_some (pe_op op_add (pv 2) pe_int))) (pe_slice sl_str (pe_glob (v := T_LAST_NAME_benchreadings) rfl T.LAST_NAME_benchreadings.choose_spec ⟨_, rfl⟩) (po_some (pe_op op_add (pv 2) pe_int)) po_none)) (pv 1) (nomark _))))) (pss_one (ps_aug (i := 2) sc_later_reach.nd rfl (Or.inl rfl) pe_int ip_add)))
      (pss_one (ps_ret (pv 2))))))), ?_⟩
    have hle := lets_le 8 l
    refine ⟨_, rfl, l, rfl, hl, ?_⟩
    refine whileZ (fun f σ H' => ∃ e, H' = H ∧ σ = [some (.str (S l)), some (.str (S b)), some (.int (e : Nat)), some (.int (lets 8 l : Nat))] ∧ e ≤ lets 8 l ∧ lets 8 l ≤ e + f ∧ rgo l b f e = rc l b) (lets 8 l) ⟨0, rfl, rfl, Nat.zero_le _, by omega, rfl⟩
      (fun σ H' => H' = H ∧ σ = [some (.str (S l)), some (.str (S b)), some (.int (rc l b : Nat)), some (.int (lets 8 l : Nat))]) ?_ ?_
    · rintro σ H' ⟨rfl, rfl⟩
      exact ⟨_, rfl, k⟩
    · rintro ex f σ H' ⟨e, rfl, rfl, he, hf, hrc⟩
      refine ⟨_, rfl, _, rfl, _, _, rfl, rfl, _, rfl, ?_⟩
      by_cases h1 : e < lets 8 l
      rotate_left
      · refine iteDF (by omega) (iteF (ex _ _ ⟨rfl, ?_⟩))
        have : rgo l b f e = e := by
          cases f with
          | zero => rfl
          | succ f => unfold rgo; rw [if_neg (fun z => h1 z.1)]
        rw [← hrc, this]
      refine iteD (by omega) ?_
      obtain ⟨f', rfl⟩ : ∃ f', f = f' + 1 := ⟨f - 1, by omega⟩
      refine ⟨_, rfl, _, rfl, _, _, rfl, rfl, _, rfl, S l, rfl, lim_line hl, _, rfl, _, _, rfl, rfl, _, rfl, _, rfl, by rw [sizeLine_eq]; decide, ?_⟩
      rw [cut0N l (e + 1) (by push_cast; rfl), zz_tl, cutN ZZ (e + 1) (by push_cast; rfl)]
      refine ⟨_, _, rfl, rfl, ?_, ?_⟩
      · rw [S_len, S_len, List.length_take, List.length_drop, sizeLine_eq]
        have : ZZ.length = 8 := rfl
        unfold LIM at hl
        omega
      rw [S_app]
      refine ⟨_, rfl, _, _, rfl, rfl, _, rfl, ?_⟩
      have e1 : (S (l.take (e + 1) ++ ZZ.drop (e + 1))).cps.toList = l.take (e + 1) ++ ZZ.drop (e + 1) := rfl
      have e2 : (S b).cps.toList = b := rfl
      rw [e1, e2]
      unfold rgo at hrc
      by_cases h2 : b < l.take (e + 1) ++ ZZ.drop (e + 1)
      · rw [if_pos ⟨h1, h2⟩] at hrc
        exact iteD h2 ⟨_, fun _ _ z => z, _, rfl, _, _, rfl, rfl, f', by omega, e + 1, rfl, by push_cast; rfl, h1, by omega, hrc⟩
      · rw [if_neg (fun z => h2 z.2)] at hrc
        exact iteDF h2 (ex _ _ ⟨rfl, by rw [← hrc]⟩)
def Bad (l b : List Nat) : Prop := rc l b < lets 8 l ∨ ¬ b < l.take (lets 8 l)
instance (l b : List Nat) : Decidable (Bad l b) := inferInstanceAs (Decidable (_ ∨ _))
/-- an entry behind the name b: how many signs of it can stand, if it is none -/
def leR (l b : List Nat) : Option Nat := if Bad l b then some (rc l b) else if OkE l then none else some (eP l).1
def spLaterEntry (A : Str → Addr) : Sp := fun vs H Q E => ∃ (l b : List Nat) (c : Nat), vs = [.str (S l), .str (S b), .int c] ∧ l.length ≤ LIM ∧
  (leR l b = none → ∀ p H', Ext H H' → H' p = some (.tup [.str (S (nameL l)), .str (S (kindL l))]) → Q (.ref p) H') ∧ (∀ k, leR l b = some k → XT A H (.int 0) (.int ((c + k : Nat) : Int)) E)
abbrev N_later_entry : List Str := ["text", "before", "column", "many", "reach"]
abbrev P_later_entry : List Str := ["text", "before", "column"]
theorem sc_later_entry : FnScope N_later_entry P_later_entry (defScope s_later_entry) := ⟨rfl, rfl, rfl, by decide +kernel, rfl, by decide +kernel, by decide +kernel⟩
theorem ok_later_entry (T : Facts P K mg A B) : FnOk P w K mg base (L2.CX P w) 7 (A "later_entry") (B "later_entry") ["text", "before", "column"] (spLaterEntry A) := by
  have kb_entry_in := T.entry_in.kb
  refine okC T.later_entry.fn sc_later_entry (fun vs H Q E h => ?_) (fun cdv Ar outer s H vs Q E hr h => ?_)
  · obtain ⟨l, b, c, rfl, _⟩ := h
    rfl
  · obtain ⟨l, b, c, rfl, hl, k1, k2⟩ := h
    refine ⟨_, ((pss_cons (ps_set (i := 3) sc_later_entry.nd rfl (Or.inl rfl) (pe_call (ok_letters_ahead T) (hr.mono (by decide)) rfl T.letters_ahead.mg T.letters_ahead.kp T.letters_ahead.bi .nil pass0 (pa_cons (pv 0) pa_nil)))
      (pss_cons (ps_set (i := 4) sc_later_entry.nd rfl (Or.inl rfl) (pe_call (ok_later_reach T) (hr.mono (by decide)) rfl T.later_reach.mg T.later_reach.kp T.later_reach.bi .nil pass0 (pa_cons (pv 0) (pa_cons (pv 1) pa_nil))))
      (pss_cons (ps_if (PW.pt (pw_or (pt_cmpR op_lt (pv 4) (pv 3) (nomark _)) (pw_or1 (pt_cmpR op_le_str (pe_slice sl_str (pv 0) po_none (po_some (pv 3))) (pv 1) (nomark _))))) (pss_one (ps_raise rfl (takes_of rfl rfl rfl rfl) (pmk_of_N (L2H.PMk5.pmk (pmk5_InvalidText T (by have z := dep hr; exact z) (pa_cons pe_int (pa_cons (pe_op op_add (pv 2) (pv 4)) pa_nil))))))) pss_nil)
      (pss_one (ps_ret (pe_callK (ok_entry_in T) (hr.mono (by decide)) rfl T.entry_in.mg T.entry_in.kp kb_entry_in (passes_call (takes_of rfl rfl rfl rfl) fun _ _ _ _ h => h) (pa_cons (pv 0) pa_nil) (pk_cons pe_int (pk_cons (pv 2) pk_nil))))))))), ?_⟩
    refine ⟨_, rfl, l, rfl, hl, _, rfl, _, rfl, l, b, rfl, hl, ?_⟩
    refine ⟨_, rfl, _, rfl, _, _, rfl, rfl, _, rfl, ?_⟩
    have bad : Bad l b → tMk2 (A "InvalidText") "line" "column" (tCons (tC (.int 0)) (tCons (tOp (rI0 fun i j => V.int (i + j)) (tVar 2) (tVar 4)) tNil)) [some (.str (S l)), some (.str (S b)), some (.int c), some (.int (lets 8 l : Nat)), some (.int (rc l b : Nat))] H E := fun hq =>
      ⟨_, rfl, _, rfl, _, _, rfl, rfl, (k2 _ (by unfold leR; rw [if_pos hq])).mk⟩
    by_cases h1 : rc l b < lets 8 l
    · exact iteD (by omega) (iteT (bad (.inl h1)))
    · refine iteDF (by omega) ?_
      refine ⟨_, rfl, _, rfl, _, rfl, S l, rfl, lim_line hl, ?_⟩
      rw [cut0N l (lets 8 l) rfl]
      refine ⟨_, rfl, _, _, rfl, rfl, _, rfl, ?_⟩
      have e1 : (S (l.take (lets 8 l))).cps.toList = l.take (lets 8 l) := rfl
      have e2 : (S b).cps.toList = b := rfl
      rw [e1, e2]
      by_cases h2 : b < l.take (lets 8 l)
      · refine iteBF (by simp [h2]) ?_
        have nb : ¬ Bad l b := fun z => z.elim h1 fun q => q h2
        refine ⟨_, rfl, _, rfl, l, 0, c, rfl, hl, fun hq p H' x hp => k1 (by unfold leR; rw [if_neg nb, if_pos hq]) p H' x hp, fun hq => k2 _ (by unfold leR; rw [if_neg nb, if_neg hq])⟩
      · exact iteB (by simp [h2]) (bad (.inr h2))
end Og
set_option Elab.async false
set_option linter.all false
set_option maxRecDepth 100000
set_option maxHeartbeats 4000000
namespace Og
open PySem PySem.Spec PyProof.Rows L2 TL
variable {P : Program} {w : World} {K : PySem.W.Frag} {mg : Str → Option Value} {base : Heap} {A : Str → Addr} {B : Str → FuncData}
/-! ### data stay -/
mutual
theorem dp_ext {H H' : Hp} (e : Ext H H') : ∀ (d : PyData) (v : V), Dp K H v d → Dp K H' v d
  | .none, _, h => by cases h; exact .non
  | .bool b, _, h => by cases h; exact .bl b
  | .int i, _, h => by cases h; exact .int i
  | .str x, _, h => by cases h; exact .str x
  | .list ds, _, h => by
    cases h with
    | lst h1 h2 => exact .lst (sqL_ext e h1) (dpAll_ext e ds _ h2)
  | .tuple ds, _, h => by
    cases h with
    | tup h1 h2 => exact .tup (sqT_ext e h1) (dpAll_ext e ds _ h2)
  | .dict _, _, h => by cases h
theorem dpAll_ext {H H' : Hp} (e : Ext H H') : ∀ (ds : List PyData) (vs : List V), DpAll K H vs ds → DpAll K H' vs ds
  | [], _, h => by cases h; exact .nil
  | d :: ds, _, h => by
    cases h with
    | cons h1 h2 => exact .cons (dp_ext e d _ h1) (dpAll_ext e ds _ h2)
end
theorem dpAll_strs {H : Hp} : ∀ ls : List (List Nat), DpAll K H (ls.map fun h => V.str (S h)) (ls.map fun h => PyData.str (S h))
  | [] => .nil
  | l :: ls => .cons (.str _) (dpAll_strs ls)
theorem XT.mk' {H : Hp} {ln cl cl' : V} {E : XK} (h : XT A H ln cl E) (e : cl' = cl) : ∃ v1 v2, [ln, cl'] = [v1, v2] ∧ ∀ d, H d = none → E (.ref (A "InvalidText")) (some d) (upd H d (.xd [("column", v2), ("line", v1)])) := by
  subst e
  exact h.mk
/-! ### entries_in -/
def entD (e : List Nat × List Nat) : PyData := .tuple [.str (S e.1), .str (S e.2)]
def Refs (H : Hp) : List Addr → List (List Nat × List Nat) → Prop
  | [], [] => True
  | r :: rs, e :: es => H r = some (.tup [.str (S e.1), .str (S e.2)]) ∧ Refs H rs es
  | _, _ => False
theorem Refs.len {H : Hp} : ∀ {rs : List Addr} {es : List (List Nat × List Nat)}, Refs H rs es → rs.length = es.length
  | [], [], _ => rfl
  | r :: rs, e :: es, h => by simp [h.2.len]
  | [], e :: es, h => h.elim
  | r :: rs, [], h => h.elim
theorem Refs.mono {H H' : Hp} (k : ∀ b xs, H b = some (.tup xs) → H' b = some (.tup xs)) : ∀ {rs : List Addr} {es : List (List Nat × List Nat)}, Refs H rs es → Refs H' rs es
  | [], [], _ => trivial
  | r :: rs, e :: es, h => ⟨k _ _ h.1, h.2.mono k⟩
  | [], e :: es, h => h.elim
  | r :: rs, [], h => h.elim
theorem Refs.snoc {H : Hp} {r : Addr} {e : List Nat × List Nat} (h1 : H r = some (.tup [.str (S e.1), .str (S e.2)])) : ∀ {rs : List Addr} {es : List (List Nat × List Nat)}, Refs H rs es → Refs H (rs ++ [r]) (es ++ [e])
  | [], [], _ => ⟨h1, trivial⟩
  | _ :: rs, _ :: es, h => ⟨h.1, h.2.snoc h1⟩
  | [], e :: es, h => h.elim
  | r :: rs, [], h => h.elim
theorem Refs.dp {H : Hp} : ∀ {rs : List Addr} {es : List (List Nat × List Nat)}, Refs H rs es → DpAll K H (rs.map V.ref) (es.map entD)
  | [], [], _ => .nil
  | r :: rs, e :: es, h => .cons (.tup (SqT.of h.1) (.cons (.str _) (.cons (.str _) .nil))) h.2.dp
  | [], e :: es, h => h.elim
  | r :: rs, [], h => h.elim
abbrev EsR := Nat ⊕ List (List Nat × List Nat)
/-- the entries of a text from column c on, behind the name b -/
def esR : Nat → List Nat → List Nat → Nat → EsR
  | 0, _, _, c => .inl c
  | n + 1, l, b, c =>
    match leR (wd 44 l) b with
    | some k => .inl (c + k)
    | none =>
      if 44 ∉ l then .inr [(nameL (wd 44 l), kindL (wd 44 l))]
      else if nameL (wd 44 l) = ZZ then .inl (c + (wd 44 l).length)
      else if (rs 44 l)[0]? ≠ some 32 then .inl (c + (wd 44 l).length + 1)
      else match esR n ((rs 44 l).drop 1) (nameL (wd 44 l)) (c + (wd 44 l).length + 2) with
        | .inl k => .inl k
        | .inr es => .inr ((nameL (wd 44 l), kindL (wd 44 l)) :: es)
def comb (acc : List (List Nat × List Nat)) : EsR → EsR
  | .inl k => .inl k
  | .inr es => .inr (acc ++ es)
theorem comma_tl : ("," : Str) = S [44] := by decide +kernel
theorem pre32 (l : List Nat) : pre [32] l = decide (l[0]? = some 32) := by
  have := pre1 32 l 0
  rwa [List.drop_zero] at this
def spEntriesIn (K : PySem.W.Frag) (A : Str → Addr) : Sp := fun vs H Q E => ∃ (l : List Nat) (c : Nat), vs = [.str (S l), .int c] ∧ l.length ≤ LIM ∧
  (∀ es, esR (l.length + 1) l [] c = .inr es → ∀ p H', Ext H H' → Dp K H' (.ref p) (.tuple (es.map entD)) → Q (.ref p) H') ∧ (∀ k, esR (l.length + 1) l [] c = .inl k → XT A H (.int 0) (.int (k : Nat)) E)
abbrev N_entries_in : List Str := ["text", "column", "found", "before", "piece", "comma", "rest", "entry"]
abbrev P_entries_in : List Str := ["text", "column"]
theorem sc_entries_in : FnScope N_entries_in P_entries_in (defScope s_entries_in) := ⟨rfl, rfl, rfl, by decide +kernel, rfl, by decide +kernel, by decide +kernel⟩
theorem ok_entries_in (T : Facts P K mg A B) : FnOk P w K mg base (L2.CX P w) 8 (A "entries_in") (B "entries_in") ["text", "column"] (spEntriesIn K A) := by
  have kb_later_entry := T.later_entry.kb
  refine okC T.entries_in.fn sc_entries_in (fun vs H Q E h => ?_) (fun cdv Ar outer s H vs Q E hr h => ?_)
  · obtain ⟨l, c, rfl, _⟩ := h
    rfl
  · obtain ⟨l, c, rfl, hl, k1, k2⟩ := h
    refine ⟨_, ((pss_cons (ps_set (i := 2) sc_entries_in.nd rfl (Or.inl rfl) (pe_lst pa_nil))
      (pss_cons (ps_set (i := 3) sc_entries_in.nd rfl (Or.inl rfl) pe_str)
      (pss_cons (ps_asg (pe_partition (pv 0) pe_str) (pg_tup rfl (pgs_cons (pg_name (i := 4) sc_entries_in.nd rfl (Or.inl rfl)) (pgs_cons (pg_name (i := 5) sc_entries_in.nd rfl (Or.inl rfl)) (pgs_cons (pg_name (i := 6) sc_entries_in.nd rfl (Or.inl rfl)) pgs_nil)))))
      (pss_one (ps_while PassesOwn.leaving (pt_val pe_bl) (pss_cons (ps_set (i := 7) sc_entries_in.nd rfl (Or.inl rfl) (pe_callK (ok_later_entry T) (hr.mono (by decide)) rfl T.later_entry.mg T.later_entry.kp kb_later_entry (passes_call (takes_of rfl rfl rfl rfl) fun _ _ _ _ h => h) (pa_cons (pv 4) (pa_cons (pv 3) pa_nil)) (pk_cons (pv 1) pk_nil)))
      (pss_cons (ps_expr (pe_bm PySem.F.plainAttrs_list PySem.F.slot_list_append PySem.F.type_list_append mt_append (pv 2) (pa_cons (pv 7) pa_nil)))
      (pss_cons (ps_set (i := 3) sc_entries_in.nd rfl (Or.inl rfl) (pe_ix (r := rIxT K) ix_tup (pv 7) pe_int (fun _ _ => rfl)))
      (pss_cons (ps_if (pt_cmpR op_eq (pv 5) pe_str (nomark _)) (pss_one (ps_ret (pe_callTy call_tuple_of (by rfl) T.b_tuple (by decide +kernel) (pa_cons (pv 2) pa_nil)))) pss_nil)
      (pss_cons (ps_aug (i := 1) sc_entries_in.nd rfl (Or.inl rfl) (pe_callB call_len_str (by rfl) T.b_len PySem.boot_len (pa_cons (pv 4) pa_nil)) ip_add)
      (pss_cons (ps_if (pt_cmpR op_eq (pv 3) (pe_glob (v := T_LAST_NAME_benchreadings) rfl T.LAST_NAME_benchreadings.choose_spec ⟨_, rfl⟩) (nomark _)) (pss_one (ps_raise rfl (takes_of rfl rfl rfl rfl) (pmk_of_N (L2H.PMk5.pmk (pmk5_InvalidText T (by have z := dep hr; exact z) (pa_cons pe_int (pa_cons (pv 1) pa_nil))))))) pss_nil)
      (pss_cons (ps_if (pt_not (pt_val (pe_m1 PySem.F.slot_str_startswith PySem.F.type_str_startswith mt_startswith (pv 6) pe_str))) (pss_one (ps_raise rfl (takes_of rfl rfl rfl rfl) (pmk_of_N (L2H.PMk5.pmk (pmk5_InvalidText T (by have z := dep hr; exact z) (pa_cons pe_int (pa_cons (pe_op op_add (pv 1) pe_int) pa_nil))))))) pss_nil)
      (pss_cons (ps_aug (i := 1) sc_entries_in.nd rfl (Or.inl rfl) pe_int ip_add)
      (pss_one (ps_asg (pe_partition (pe_slice sl_str (pv 6) (po_some pe_int) po_none) pe_str) (pg_tup rfl (pgs_cons (pg_name (i := 4) sc_entries_in.nd rfl (Or.inl rfl)) (pgs_cons (pg_name (i := 5) sc_entries_in.nd rfl (Or.inl rfl)) (pgs_cons (pg_name (i := 6) sc_entries_in.nd rfl (Or.inl rfl)) pgs_nil)))))))))))))))))))), ?_⟩
    refine ⟨Nat.zero_le _, fun D hD => ?_⟩
    refine ⟨_, rfl, ⟨_, rfl⟩, S l, _, rfl, rfl, rfl, lim_line hl, fun p hp => ?_⟩
    rw [partS 44 l (by rw [comma_tl]; rfl), emp_tl]
    refine ⟨p, _, rfl, SqT.of upd_same, rfl, _, _, rfl, _, _, rfl, _, _, rfl, rfl, ?_⟩
    have hpD : p ≠ D := fun z => by rw [z, upd_same] at hp; cases hp
    refine whileN (fun m σ H1 => ∃ l1 b c1 acc refs ev, Ext H H1 ∧ H1 D = some (.lst (refs.map V.ref)) ∧ Refs H1 refs acc ∧ σ = [some (.str (S l)), some (.int (c1 : Nat)), some (.ref D), some (.str (S b)), some (.str (S (wd 44 l1))), some (.str (S (sg 44 l1))), some (.str (S (rs 44 l1))), ev] ∧
      l1.length < m ∧ l1.length ≤ l.length ∧ acc.length + l1.length ≤ l.length ∧ comb acc (esR m l1 b c1) = esR (l.length + 1) l [] c) (l.length + 1) ⟨l, [], c, [], [], none, (Ext.new hD).trans (Ext.new hp), by rw [upd_ne (Ne.symm hpD), upd_same]; rfl, trivial, rfl, by omega, by omega, by simp, by unfold comb; cases esR (l.length + 1) l [] c <;> rfl⟩ ?_
    rintro m σ H1 ⟨l1, b, c1, acc, refs, ev, x1, hD1, hR, rfl, hm, hl1, hacc, hrel⟩
    refine ⟨true, rfl, iteT ⟨_, fun _ _ z => z, ?_⟩⟩
    obtain ⟨m', rfl⟩ : ∃ m', m = m' + 1 := ⟨m - 1, by omega⟩
    have lw := len_wd 44 l1
    have lr := len_rs 44 l1
    refine ⟨_, rfl, _, rfl, _, rfl, wd 44 l1, b, c1, rfl, by omega, fun hle q H2 x2 hq => ?_, fun k hk => ?_⟩
    rotate_left
    · have : esR (l.length + 1) l [] c = .inl (c1 + k) := by
        rw [← hrel]
        unfold esR
        rw [hk]
        rfl
      exact (k2 _ this).ext x1
    have hD2 := x2 _ _ hD1
    have hqD : q ≠ D := fun z => by rw [z, hD2] at hq; cases hq
    have hlen := hR.len
    refine ⟨_, rfl, .inl ⟨rfl, _, SqL.of hD2⟩, _, rfl, D, _, _, rfl, rfl, hD2, ?_, ?_⟩
    · rw [List.length_map, sizeLine_eq]
      unfold LIM at hl
      omega
    generalize hH3 : upd H2 D (.lst (refs.map V.ref ++ [V.ref q])) = H3
    have x3 : Ext H H3 := by
      rw [← hH3]
      exact (x1.trans x2).upd hD
    have hq3 : H3 q = some (.tup [.str (S (nameL (wd 44 l1))), .str (S (kindL (wd 44 l1)))]) := by rw [← hH3, upd_ne hqD]; exact hq
    have hD3 : H3 D = some (.lst ((refs ++ [q]).map V.ref)) := by rw [← hH3, upd_same]; simp
    have hR3 : Refs H3 (refs ++ [q]) (acc ++ [(nameL (wd 44 l1), kindL (wd 44 l1))]) := by
      refine Refs.snoc hq3 (hR.mono fun b xs hb => ?_)
      have : b ≠ D := fun z => by rw [z, hD1] at hb; cases hb
      rw [← hH3, upd_ne this]
      exact x2 _ _ hb
    refine ⟨_, rfl, q, _, _, _, rfl, rfl, SqT.of hq3, rfl, ?_⟩
    refine ⟨_, rfl, rfl, _, rfl, ?_⟩
    have hunf : comb acc (esR (m' + 1) l1 b c1) = comb acc (if 44 ∉ l1 then .inr [(nameL (wd 44 l1), kindL (wd 44 l1))]
      else if nameL (wd 44 l1) = ZZ then .inl (c1 + (wd 44 l1).length)
      else if (rs 44 l1)[0]? ≠ some 32 then .inl (c1 + (wd 44 l1).length + 1)
      else match esR m' ((rs 44 l1).drop 1) (nameL (wd 44 l1)) (c1 + (wd 44 l1).length + 2) with
        | .inl k => .inl k
        | .inr es => .inr ((nameL (wd 44 l1), kindL (wd 44 l1)) :: es)) := by
      conv => lhs; unfold esR
      rw [hle]
    rw [hunf] at hrel
    by_cases hc : 44 ∈ l1
    rotate_left
    · rw [if_pos hc] at hrel
      refine iteD (by unfold sg; rw [if_neg hc]) ⟨_, rfl, D, _, rfl, .inl ⟨SqL.of hD3, fun t ht => ?_⟩⟩
      refine k1 _ hrel.symm t _ (x3.trans (Ext.new ht)) ?_
      exact .tup (SqT.of upd_same) (dpAll_ext (Ext.new ht) _ _ hR3.dp)
    rw [if_neg (fun z => z hc)] at hrel
    refine iteDF (fun z => by have := S_inj (V.str.inj z); unfold sg at this; rw [if_pos hc] at this; cases this) ?_
    have lrl : (rs 44 l1).length + (wd 44 l1).length + 1 = l1.length := by
      have := congrArg List.length (wd_cut 44 l1 hc)
      rw [List.length_append, List.length_cons] at this
      omega
    refine ⟨_, rfl, _, rfl, S (wd 44 l1), rfl, lim_line (by omega), _, _, rfl, rfl, ?_⟩
    have hcol : ((c1 : Int) + ((S (wd 44 l1)).length : Int)) = ((c1 + (wd 44 l1).length : Nat) : Int) := by rw [S_len]; push_cast; rfl
    refine ⟨_, rfl, rfl, _, rfl, ?_⟩
    by_cases hz : nameL (wd 44 l1) = ZZ
    · rw [if_pos hz] at hrel
      refine iteD (by show V.str (S (nameL (wd 44 l1))) = V.str "zzzzzzzz"; rw [hz, zz_tl]) ⟨_, rfl, ?_⟩
      exact ((k2 _ hrel.symm).ext x3).mk' (congrArg V.int hcol)
    rw [if_neg hz] at hrel
    refine iteDF (fun z => hz (S_inj (V.str.inj (by rw [← zz_tl]; exact z)))) ?_
    refine ⟨_, rfl, ⟨_, rfl⟩, S (rs 44 l1), _, rfl, rfl, _, rfl, ?_⟩
    have hst : Txt.startswith (S (rs 44 l1)) (" " : Str) = decide ((rs 44 l1)[0]? = some 32) := by
      rw [starts (by rw [spc_tl, tl_S]; simp), spc_tl, tl_S, pre32]
    rw [hst]
    by_cases h32 : (rs 44 l1)[0]? = some 32
    rotate_left
    · rw [if_pos h32] at hrel
      refine iteB (by rw [decide_eq_false h32]; rfl) ⟨_, rfl, _, _, rfl, rfl, ?_⟩
      have hcol2 : ((c1 : Int) + ((S (wd 44 l1)).length : Int)) + 1 = ((c1 + (wd 44 l1).length + 1 : Nat) : Int) := by rw [S_len]; push_cast; rfl
      exact ((k2 _ hrel.symm).ext x3).mk' (congrArg V.int hcol2)
    rw [if_neg (fun z => z h32)] at hrel
    refine iteBF (by rw [decide_eq_true h32]; rfl) ?_
    have hcol3 : ((c1 : Int) + ((S (wd 44 l1)).length : Int)) + 2 = ((c1 + (wd 44 l1).length + 2 : Nat) : Int) := by rw [S_len]; push_cast; rfl
    refine ⟨_, rfl, _, _, rfl, rfl, ?_⟩
    have ldr : ((rs 44 l1).drop 1).length = (rs 44 l1).length - 1 := List.length_drop
    refine ⟨_, rfl, _, rfl, S (rs 44 l1), rfl, lim_line (by omega), ⟨_, rfl⟩, _, _, rfl, rfl, rfl, ?_, fun u hu => ?_⟩
    · rw [cutN (i := 1) (rs 44 l1) 1 rfl]
      exact lim_line (by omega)
    rw [cutN (i := 1) (rs 44 l1) 1 rfl, partS 44 ((rs 44 l1).drop 1) (by rw [comma_tl]; rfl)]
    refine ⟨u, _, rfl, SqT.of upd_same, rfl, _, _, rfl, _, _, rfl, _, _, rfl, rfl, ?_⟩
    have huD : D ≠ u := fun z => by rw [← z, hD3] at hu; cases hu
    refine ⟨m', by omega, (rs 44 l1).drop 1, nameL (wd 44 l1), c1 + (wd 44 l1).length + 2, acc ++ [(nameL (wd 44 l1), kindL (wd 44 l1))], refs ++ [q], some (.ref q), x3.trans (Ext.new hu), by rw [upd_ne huD]; exact hD3, hR3.mono fun b xs hb => Ext.new hu _ _ hb, ?_, ?_, ?_, ?_, ?_⟩
    · rw [← hcol3]; rfl
    · omega
    · omega
    · rw [List.length_append, List.length_singleton]; omega
    · rw [← hrel]
      cases esR m' ((rs 44 l1).drop 1) (nameL (wd 44 l1)) (c1 + (wd 44 l1).length + 2) with
      | inl k => rfl
      | inr es => unfold comb; simp
end Og
set_option Elab.async false
set_option linter.all false
set_option maxRecDepth 100000
set_option maxHeartbeats 4000000
namespace Og
open PySem PySem.Spec PyProof.Rows L2 TL
variable {P : Program} {w : World} {K : PySem.W.Frag} {mg : Str → Option Value} {base : Heap} {A : Str → Addr} {B : Str → FuncData}
/-! ### first_in -/
def BEN : List Nat := [98, 101, 110, 99, 104, 32]
def wBench : List Nat := [98, 101, 110, 99, 104]
theorem ben_tl : ("bench " : Str) = S BEN := by decide +kernel
theorem bench_tl : ("bench" : Str) = S wBench := by decide +kernel
theorem dash_tl : ("-" : Str) = S [45] := by decide +kernel
/-- the first element of a log that a line writes -/
def fiR (l : List Nat) : EsR :=
  if pre BEN l = false then .inl (cw l [BEN])
  else if l.drop 6 = [45] then .inr []
  else if (l.drop 6)[0]? = some 45 then .inl 7
  else esR ((l.drop 6).length + 1) (l.drop 6) [] 6
def firstD (es : List (List Nat × List Nat)) : PyData := .tuple [.str (S wBench), .tuple (es.map entD)]
def spFirstIn (K : PySem.W.Frag) (A : Str → Addr) : Sp := fun vs H Q E => ∃ l : List Nat, vs = [.str (S l)] ∧ l.length ≤ LIM ∧
  (∀ es, fiR l = .inr es → ∀ p H', Ext H H' → Dp K H' (.ref p) (firstD es) → Q (.ref p) H') ∧ (∀ k, fiR l = .inl k → XT A H (.int 0) (.int (k : Nat)) E)
abbrev N_first_in : List Str := ["text", "column", "rest"]
abbrev P_first_in : List Str := ["text"]
theorem sc_first_in : FnScope N_first_in P_first_in (defScope s_first_in) := ⟨rfl, rfl, rfl, by decide +kernel, rfl, by decide +kernel, by decide +kernel⟩
theorem ok_first_in (T : Facts P K mg A B) : FnOk P w K mg base (L2.CX P w) 9 (A "first_in") (B "first_in") ["text"] (spFirstIn K A) := by
  have kb_entries_in := T.entries_in.kb
  refine okC T.first_in.fn sc_first_in (fun vs H Q E h => ?_) (fun cdv Ar outer s H vs Q E hr h => ?_)
  · obtain ⟨l, rfl, _⟩ := h
    rfl
  · obtain ⟨l, rfl, hl, k1, k2⟩ := h
    refine ⟨_, ((pss_cons (ps_if (pt_not (pt_val (pe_m1 PySem.F.slot_str_startswith PySem.F.type_str_startswith mt_startswith (pv 0) pe_str))) (pss_one (ps_raise rfl (takes_of rfl rfl rfl rfl) (pmk_of_N (L2H.PMk5.pmk (pmk5_InvalidText T (by have z := dep hr; exact z) (pa_cons pe_int (pa_cons (pe_call (ok_common_with T) (hr.mono (by decide)) rfl T.common_with.mg T.common_with.kp T.common_with.bi .nil pass0 (pa_cons (pv 0) (pa_cons (pe_glob (v := .ref (A "FIRST_BEGINNINGS")) rfl T.FIRST_BEGINNINGS rfl) pa_nil))) pa_nil))))))) pss_nil)
      (pss_cons (ps_set (i := 1) sc_first_in.nd rfl (Or.inl rfl) (pe_callB call_len_str (by rfl) T.b_len PySem.boot_len (pa_cons pe_str pa_nil)))
      (pss_cons (ps_set (i := 2) sc_first_in.nd rfl (Or.inl rfl) (pe_slice sl_str (pv 0) (po_some (pv 1)) po_none))
      (pss_cons (ps_if (pt_cmpR op_eq (pv 2) pe_str (nomark _)) (pss_one (ps_ret (pe_tup (pa_cons pe_str (pa_cons (pe_tup pa_nil) pa_nil))))) pss_nil)
      (pss_cons (ps_if (pt_val (pe_m1 PySem.F.slot_str_startswith PySem.F.type_str_startswith mt_startswith (pv 2) pe_str)) (pss_one (ps_raise rfl (takes_of rfl rfl rfl rfl) (pmk_of_N (L2H.PMk5.pmk (pmk5_InvalidText T (by have z := dep hr; exact z) (pa_cons pe_int (pa_cons (pe_op op_add (pv 1) pe_int) pa_nil))))))) pss_nil)
      (pss_one (ps_ret (pe_tup (pa_cons pe_str (pa_cons (pe_callK (ok_entries_in T) (hr.mono (by decide)) rfl T.entries_in.mg T.entries_in.kp kb_entries_in (passes_call (takes_of rfl rfl rfl rfl) fun _ _ _ _ h => h) (pa_cons (pv 2) pa_nil) (pk_cons (pv 1) pk_nil)) pa_nil))))))))))), ?_⟩
    have hb : Txt.startswith (S l) ("bench " : Str) = pre BEN l := by
      rw [ben_tl]
      exact starts (by rw [tl_S]; decide)
    refine ⟨_, rfl, ⟨_, rfl⟩, S l, _, rfl, rfl, _, rfl, ?_⟩
    rw [hb]
    cases hp : pre BEN l with
    | false =>
      refine iteT ⟨_, rfl, l, A "FIRST_BEGINNINGS", [BEN], rfl, hl, by decide, ?_, fun H2 x2 => ?_⟩
      · have := T.tFB H
        rw [ben_tl] at this
        exact this
      · exact ((k2 (cw l [BEN]) (by unfold fiR; rw [if_pos hp])).ext x2).mk
    | true =>
      refine iteF ?_
      have nb : ¬ (pre BEN l = false) := by rw [hp]; simp
      have l6 : (("bench " : Str).length : Int) = 6 := by decide
      refine ⟨("bench " : Str), rfl, by rw [sizeLine_eq]; decide, _, rfl, _, rfl, _, rfl, S l, rfl, lim_line hl, ?_⟩
      rw [cutN l 6 l6]
      have ld : (l.drop 6).length ≤ LIM := by rw [List.length_drop]; omega
      refine ⟨_, rfl, rfl, _, rfl, ?_⟩
      by_cases h1 : l.drop 6 = [45]
      · refine iteD (by rw [h1, dash_tl]) ⟨Nat.zero_le _, fun t ht => ⟨two_line, fun u hu => ?_⟩⟩
        refine k1 [] (by unfold fiR; rw [if_neg nb, if_pos h1]) u _ ((Ext.new ht).trans (Ext.new hu)) ?_
        have : u ≠ t := fun z => by rw [z, upd_same] at hu; cases hu
        exact .tup (SqT.of upd_same) (.cons (by rw [bench_tl]; exact .str _) (.cons (.tup (SqT.of (by rw [upd_ne (Ne.symm this), upd_same])) .nil) .nil))
      refine iteDF (fun z => h1 (S_inj (V.str.inj (by rw [dash_tl] at z; exact z)))) ?_
      refine ⟨_, rfl, ⟨_, rfl⟩, S (l.drop 6), _, rfl, rfl, _, rfl, ?_⟩
      have hst : Txt.startswith (S (l.drop 6)) ("-" : Str) = decide ((l.drop 6)[0]? = some 45) := by
        have := pre1 45 (l.drop 6) 0
        rw [List.drop_zero] at this
        rw [starts (by rw [dash_tl, tl_S]; simp), dash_tl, tl_S, this]
      rw [hst]
      by_cases h2 : (l.drop 6)[0]? = some 45
      · refine iteD h2 ⟨_, rfl, _, _, rfl, rfl, ?_⟩
        exact (k2 7 (by unfold fiR; rw [if_neg nb, if_neg h1, if_pos h2])).mk' (by show V.int ((("bench " : Str).length : Int) + 1) = _; rw [l6]; rfl)
      refine iteDF h2 ⟨_, rfl, _, rfl, l.drop 6, 6, by show [V.str (S (l.drop 6)), V.int (("bench " : Str).length : Int)] = _; rw [l6]; rfl, ld, fun es he q H2 x2 hq => ?_, fun k hk => ?_⟩
      · refine ⟨two_line, fun u hu => ?_⟩
        refine k1 es (by unfold fiR; rw [if_neg nb, if_neg h1, if_neg h2]; exact he) u _ (x2.trans (Ext.new hu)) ?_
        exact .tup (SqT.of upd_same) (.cons (by rw [bench_tl]; exact .str _) (.cons (dp_ext (Ext.new hu) _ _ hq) .nil))
      · exact k2 k (by unfold fiR; rw [if_neg nb, if_neg h1, if_neg h2]; exact hk)
/-! ### read_event -/
def evD (ws : List (List Nat)) : PyData := .tuple (ws.map fun h => PyData.str (S h))
def spReadEvent (K : PySem.W.Frag) (A : Str → Addr) : Sp := fun vs H Q E => ∃ l : List Nat, vs = [.str (S l)] ∧ l.length ≤ LIM ∧
  (∀ ws, evR l = .inr ws → ∀ p H', Ext H H' → Dp K H' (.ref p) (evD ws) → Q (.ref p) H') ∧ (∀ c, evR l = .inl c → XT A H (.int 0) (.int (c : Nat)) E)
abbrev N_read_event : List Str := ["text"]
abbrev P_read_event : List Str := ["text"]
theorem sc_read_event : FnScope N_read_event P_read_event (defScope s_read_event) := ⟨rfl, rfl, rfl, by decide +kernel, rfl, by decide +kernel, by decide +kernel⟩
theorem ok_read_event (T : Facts P K mg A B) : FnOk P w K mg base (L2.CX P w) 8 (A "read_event") (B "read_event") ["text"] (spReadEvent K A) := by
  refine okC T.read_event.fn sc_read_event (fun vs H Q E h => ?_) (fun cdv Ar outer s H vs Q E hr h => ?_)
  · obtain ⟨l, rfl, _⟩ := h
    rfl
  · obtain ⟨l, rfl, hl, k1, k2⟩ := h
    refine ⟨_, ((pss_cons (ps_if (pt_not (pt_val (pe_callB (id := "isinstance") (r := rIsi K) call_isi (by rfl) T.b_isinstance (by decide +kernel) (pa_cons (pv 0) (pa_cons (pe_bltn (v := .ty "str") (by rfl) T.b_str (by decide +kernel) rfl) pa_nil))))) (pss_one ps_never) pss_nil)
      (pss_one (ps_ret (pe_call (ok_event_in T) (hr.mono (by decide)) rfl T.event_in.mg T.event_in.kp T.event_in.bi .nil (passes_call (takes_of rfl rfl rfl rfl) fun _ _ _ _ h => h) (pa_cons (pv 0) (pa_cons pe_int pa_nil))))))), ?_⟩
    refine ⟨_, rfl, .str (S l), .ty "str", .type "str", .type "str", true, rfl, .ty _, .base (.str _), kit_ty (by decide +kernel), true, rfl, iteF ?_⟩
    exact ⟨_, rfl, l, 0, rfl, hl, fun ws h p H' x hp => k1 ws h p H' x (.tup (SqT.of hp) (dpAll_strs ws)), k2⟩
/-! ### read_log -/
abbrev EvsR := (Nat × Nat) ⊕ List (List (List Nat))
def evsR : Nat → List (List Nat) → EvsR
  | _, [] => .inr []
  | i, l :: ls => match evR l with
    | .inl k => .inl (i, k)
    | .inr ws => match evsR (i + 1) ls with
      | .inl q => .inl q
      | .inr r => .inr (ws :: r)
def loR : List (List Nat) → (Nat × Nat) ⊕ (List (List Nat × List Nat) × List (List (List Nat)))
  | [] => .inl (0, 0)
  | l :: ls => match fiR l with
    | .inl k => .inl (0, k)
    | .inr es => match evsR 1 ls with
      | .inl q => .inl q
      | .inr r => .inr (es, r)
def loD (r : List (List Nat × List Nat) × List (List (List Nat))) : PyData := .tuple (firstD r.1 :: r.2.map evD)
def combE (acc : List (List (List Nat))) : EvsR → EvsR
  | .inl k => .inl k
  | .inr es => .inr (acc ++ es)
def RefsE (H : Hp) : List Addr → List (List (List Nat)) → Prop
  | [], [] => True
  | r :: rs, e :: es => H r = some (.tup (e.map fun h => V.str (S h))) ∧ RefsE H rs es
  | _, _ => False
theorem RefsE.len {H : Hp} : ∀ {rs : List Addr} {es : List (List (List Nat))}, RefsE H rs es → rs.length = es.length
  | [], [], _ => rfl
  | r :: rs, e :: es, h => by simp [h.2.len]
  | [], e :: es, h => h.elim
  | r :: rs, [], h => h.elim
theorem RefsE.mono {H H' : Hp} (k : ∀ b xs, H b = some (.tup xs) → H' b = some (.tup xs)) : ∀ {rs : List Addr} {es : List (List (List Nat))}, RefsE H rs es → RefsE H' rs es
  | [], [], _ => trivial
  | r :: rs, e :: es, h => ⟨k _ _ h.1, h.2.mono k⟩
  | [], e :: es, h => h.elim
  | r :: rs, [], h => h.elim
theorem RefsE.snoc {H : Hp} {r : Addr} {e : List (List Nat)} (h1 : H r = some (.tup (e.map fun h => V.str (S h)))) : ∀ {rs : List Addr} {es : List (List (List Nat))}, RefsE H rs es → RefsE H (rs ++ [r]) (es ++ [e])
  | [], [], _ => ⟨h1, trivial⟩
  | _ :: rs, _ :: es, h => ⟨h.1, h.2.snoc h1⟩
  | [], e :: es, h => h.elim
  | r :: rs, [], h => h.elim
theorem RefsE.dp {H : Hp} : ∀ {rs : List Addr} {es : List (List (List Nat))}, RefsE H rs es → DpAll K H (rs.map V.ref) (es.map evD)
  | [], [], _ => .nil
  | r :: rs, e :: es, h => .cons (.tup (SqT.of h.1) (dpAll_strs e)) h.2.dp
  | [], e :: es, h => h.elim
  | r :: rs, [], h => h.elim
def spReadLog (K : PySem.W.Frag) (A : Str → Addr) : Sp := fun vs H Q E => ∃ (a : Addr) (ls : List (List Nat)), vs = [.ref a] ∧ H a = some (.lst (ls.map fun h => V.str (S h))) ∧ ls.length ≤ 1000 ∧ (∀ l ∈ ls, l.length ≤ LIM) ∧
  (∀ r, loR ls = .inr r → ∀ p H', Ext H H' → Dp K H' (.ref p) (loD r) → Q (.ref p) H') ∧ (∀ i k, loR ls = .inl (i, k) → XT A H (.int (i : Nat)) (.int (k : Nat)) E)
abbrev N_read_log : List Str := ["lines", "first", "line", "text"]
abbrev P_read_log : List Str := ["lines"]
theorem sc_read_log : FnScope N_read_log P_read_log (defScope s_read_log) := ⟨rfl, rfl, rfl, by decide +kernel, rfl, by decide +kernel, by decide +kernel⟩
theorem ok_read_log (T : Facts P K mg A B) : FnOk P w K mg base (L2.CX P w) 10 (A "read_log") (B "read_log") ["lines"] (spReadLog K A) := by
  refine okC T.read_log.fn sc_read_log (fun vs H Q E h => ?_) (fun cdv Ar outer s H vs Q E hr h => ?_)
  · obtain ⟨a, ls, rfl, _⟩ := h
    rfl
  · obtain ⟨a, ls, rfl, ha, hz, hl, k1, k2⟩ := h
    refine ⟨_, ((pss_cons (ps_if (PW.pt (pw_or (pt_not (pt_val (pe_callB (id := "isinstance") (r := rIsi K) call_isi (by rfl) T.b_isinstance (by decide +kernel) (pa_cons (pv 0) (pa_cons (pe_bltn (v := .ty "list") (by rfl) T.b_list (by decide +kernel) rfl) pa_nil))))) (pw_or1 (pt_not (pt_val (pe_callB (cr_all rfl) (by rfl) T.b_all (by decide +kernel) (pa_cons (pe_lc (own := [("text", 3)]) (g := gName 3) (tt := tYes) rfl sc_read_log.nd (pi_list (pv 0)) (blkOk_by (own := [("text", 3)]) (N := N_read_log) (sc := defScope s_read_log) (by decide +kernel)) (fun _ _ _ _ _ => (pg_name (i := 3) sc_read_log.nd rfl (Or.inl rfl))) (fun _ _ _ _ _ => pts_nil) (fun _ _ _ _ _ => (pe_callB (id := "isinstance") (r := rIsi K) call_isi (by rfl) T.b_isinstance (by decide +kernel) (pa_cons (pv 3) (pa_cons (pe_bltn (v := .ty "str") (by rfl) T.b_str (by decide +kernel) rfl) pa_nil))))) pa_nil))))))) (pss_one ps_never) pss_nil)
      (pss_cons (ps_if (pt_cmpR op_eq (pe_callB call_len_seq (by rfl) T.b_len PySem.boot_len (pa_cons (pv 0) pa_nil)) pe_int (nomark _)) (pss_one (ps_raise rfl (takes_of rfl rfl rfl rfl) (pmk_of_N (L2H.PMk5.pmk (pmk5_InvalidText T (by have z := dep hr; exact z) (pa_cons pe_int (pa_cons pe_int pa_nil))))))) pss_nil)
      (pss_cons (ps_set (i := 1) sc_read_log.nd rfl (Or.inl rfl) (pe_call (ok_first_in T) (hr.mono (by decide)) rfl T.first_in.mg T.first_in.kp T.first_in.bi .nil (passes_call (takes_of rfl rfl rfl rfl) fun _ _ _ _ h => h) (pa_cons (pe_ix (r := rIxL K) ix_list (pv 0) pe_int (fun _ _ => rfl)) pa_nil)))
      (pss_one (ps_ret (pe_tup (pa_cons (pv 1) (StX.pa_star (pe_lcX (own := [("line", 2), ("text", 3)]) (g := gTup K 2 (gCons (gName 2) (gCons (gName 3) gNil))) rfl rfl (takes_of rfl rfl rfl rfl) rfl sc_read_log.nd (pi_enum rfl T.b_enumerate (pa_cons (pv 0) pa_nil)) (blkOk_by (own := [("line", 2), ("text", 3)]) (N := N_read_log) (sc := defScope s_read_log) (by decide +kernel)) (fun _ _ _ _ _ => (pg_tup rfl (pgs_cons (pg_name (i := 2) sc_read_log.nd rfl (Or.inl rfl)) (pgs_cons (pg_name (i := 3) sc_read_log.nd rfl (Or.inl rfl)) pgs_nil)))) (fun _ _ _ _ _ => (pts_one (pt_cmpR op_gt (pv 2) pe_int (nomark _)))) (fun _ _ _ _ _ E hE => (pe_call (ok_event_in T) (hr.mono (by decide)) rfl T.event_in.mg T.event_in.kp T.event_in.bi .nil hE (pa_cons (pv 3) (pa_cons (pv 2) pa_nil))))) pa_nil))))))))), ?_⟩
    have line : ∀ n, n ≤ 1001 → n ≤ sizeLine := fun n h => by rw [sizeLine_eq]; omega
    refine ⟨_, rfl, .ref a, .ty "list", .type "list", .type "list", true, rfl, .ty _, .base (.lst ha), kit_ty (by decide +kernel), true, rfl, iteF ?_⟩
    refine ⟨_, rfl, a, rfl, ⟨_, SqL.of ha⟩, fun D hD => lc_list (xs := ls.map fun h => V.str (S h)) (fun i H1 => Ext H H1 ∧ H1 D = some (.lst ((ls.take i).map fun _ => V.bl true))) ⟨Ext.new hD, upd_same⟩ (fun i H1 _ p => SqL.of (p.1 _ _ ha)) (fun i y H1 hy p => ?_) (fun H1 p => ?_)⟩
    · rw [List.getElem?_map] at hy
      obtain ⟨h, hh, rfl⟩ := Option.map_eq_some_iff.mp hy
      refine ⟨rfl, ?_⟩
      unfold tYes
      refine iteT ?_
      refine ⟨_, rfl, .str (S h), .ty "str", .type "str", .type "str", true, rfl, .ty _, .base (.str _), kit_ty (by decide +kernel), _, p.2, ?_, p.1.upd hD, ?_⟩
      · rw [List.length_map, List.length_take, sizeLine_eq]
        omega
      · rw [upd_same, List.take_succ, hh]
        simp
    have hl1 := p.2
    rw [List.length_map, List.take_length] at hl1
    refine ⟨D, ls.map fun _ => true, rfl, SqL.of ?_, ?_⟩
    · rw [hl1, List.map_map]
      rfl
    have hall : ((ls.map fun _ => true).all id) = true := by simp
    rw [hall]
    refine ⟨true, rfl, iteF ?_⟩
    have x1 := p.1
    have ha1 := x1 _ _ ha
    refine ⟨_, rfl, a, _, rfl, .inl (SqL.of ha1), rfl, _, rfl, ?_⟩
    rw [List.length_map]
    cases ls with
    | nil => exact iteD rfl ((k2 0 0 rfl).ext x1).mk
    | cons l0 rest =>
      refine iteDF (fun z => by have := V.int.inj z; simp at this; omega) ?_
      refine ⟨_, rfl, a, _, _, V.str (S l0), rfl, rfl, SqL.of ha1, atI_nat (j := 0) rfl, l0, rfl, hl l0 List.mem_cons_self, fun es he q H2 x2 hq => ?_, fun k hk => ?_⟩
      rotate_left
      · exact (k2 0 k (by simp only [loR, hk])).ext x1
      have ha2 := x2 _ _ ha1
      refine ⟨_, rfl, _, rfl, a, _, rfl, SqL.of ha2, fun D2 hD2 => lc_it (walk_enum (xs := (l0 :: rest).map fun h => V.str (S h)))
        (fun i H3 => Ext H2 H3 ∧ ∃ refs wss, H3 D2 = some (.lst (refs.map V.ref)) ∧ RefsE H3 refs wss ∧ refs.length ≤ i ∧ combE wss (evsR (max i 1) (rest.drop (i - 1))) = evsR 1 rest)
        ⟨Ext.new hD2, [], [], by rw [upd_same]; rfl, trivial, Nat.le_refl _, by unfold combE; show _ = _; cases h : evsR 1 rest <;> (rw [show (max 0 1) = 1 from rfl, show (0 - 1) = 0 from rfl, List.drop_zero, h] <;> rfl)⟩
        (fun i H3 _ p3 => SqL.of (p3.1 _ _ ha2)) (fun i y H3 H4 hi p3 hy => ?_) (fun H3 p3 => ?_)⟩
      · obtain ⟨x3, refs, wss, hD3, hR3, hlen, hrel⟩ := p3
        obtain ⟨t, x, z, rfl, ht, rfl, hx, hy2⟩ := hy
        have hx : some (V.int (i : Nat)) = some x := hx
        cases hx
        have hy2 : ((l0 :: rest).map fun h => V.str (S h))[i]? = some z := hy2
        rw [List.getElem?_map] at hy2
        obtain ⟨h, hh, rfl⟩ := Option.map_eq_some_iff.mp hy2
        have htD : D2 ≠ t := fun q => by rw [← q, hD3] at ht; cases ht
        have hD4 : (upd H3 t (.tup [V.int (i : Nat), V.str (S h)])) D2 = some (.lst (refs.map V.ref)) := by rw [upd_ne htD]; exact hD3
        have x4 : Ext H3 (upd H3 t (.tup [V.int (i : Nat), V.str (S h)])) := Ext.new ht
        have hR4 := hR3.mono fun b xs hb => x4 _ _ hb
        refine ⟨t, _, rfl, SqT.of upd_same, rfl, _, _, rfl, _, _, rfl, rfl, rfl, _, rfl, _, _, rfl, rfl, _, rfl, ?_⟩
        cases i with
        | zero => exact iteDF (by decide) ⟨x3.trans x4, refs, wss, hD4, hR4, by omega, hrel⟩
        | succ i =>
          refine iteD (by show (0 : Int) < ((i + 1 : Nat) : Int); omega) ?_
          have hh' : rest[i]? = some h := hh
          have hdrop : rest.drop (i + 1 - 1) = h :: rest.drop (i + 1) := by
            obtain ⟨h1, h2⟩ := List.getElem?_eq_some_iff.mp hh'
            rw [Nat.add_sub_cancel, List.drop_eq_getElem_cons h1, h2]
          have hmax : max (i + 1) 1 = i + 1 := by omega
          rw [hdrop, hmax] at hrel
          refine ⟨_, rfl, _, rfl, h, i + 1, rfl, hl h (List.mem_cons_of_mem _ (List.mem_of_getElem? hh')), fun ws hws q5 H5 x5 hq5 => ?_, fun k hk => ?_⟩
          · have hD5 := x5 _ _ hD4
            have hqD : q5 ≠ D2 := fun z => by rw [z, hD5] at hq5; cases hq5
            have hd2 : H2 D2 = none := hD2
            have hi' : i + 1 < rest.length + 1 := by simpa using hi
            have hz' : rest.length + 1 ≤ 1000 := by simpa using hz
            refine ⟨_, hD5, by rw [List.length_map, sizeLine_eq]; omega, ((x3.trans x4).trans x5).upd hd2, refs ++ [q5], wss ++ [ws], by rw [upd_same]; simp, ?_, by rw [List.length_append, List.length_singleton]; omega, ?_⟩
            · refine RefsE.snoc (by rw [upd_ne hqD]; exact hq5) (hR4.mono fun b xs hb => ?_)
              have : b ≠ D2 := fun z => by rw [z, hD4] at hb; cases hb
              rw [upd_ne this]
              exact x5 _ _ hb
            · rw [← hrel]
              conv => rhs; unfold evsR
              rw [hws, show max (i + 1 + 1) 1 = i + 1 + 1 by omega, Nat.add_sub_cancel]
              cases evsR (i + 1 + 1) (rest.drop (i + 1)) with
              | inl q => rfl
              | inr r => unfold combE; simp
          · have : loR (l0 :: rest) = .inl (i + 1, k) := by
              have e1 : evsR 1 rest = .inl (i + 1, k) := by
                rw [← hrel]
                conv => lhs; unfold evsR
                rw [hk]
                rfl
              simp only [loR, he, e1]
            exact (k2 (i + 1) k this).ext (((x1.trans x2).trans x3).trans x4)
      · obtain ⟨x3, refs, wss, hD3, hR3, hlen, hrel⟩ := p3
        rw [List.length_map, List.length_cons, Nat.add_sub_cancel, List.drop_length] at hrel
        have hlo : loR (l0 :: rest) = .inr (es, wss) := by
          have e1 : evsR 1 rest = .inr wss := by
            rw [← hrel]
            simp [combE, evsR]
          simp only [loR, he, e1]
        have hlen2 : refs.length ≤ 1000 := by
          rw [List.length_map] at hlen
          omega
        refine ⟨D2, _, rfl, .inr (SqL.of hD3), ?_, fun u hu => ?_⟩
        · rw [List.append_nil, List.length_cons, List.length_map, sizeLine_eq]
          omega
        · refine k1 _ hlo u _ (((x1.trans x2).trans x3).trans (Ext.new hu)) ?_
          rw [List.append_nil]
          exact .tup (SqT.of upd_same) (.cons (dp_ext (x3.trans (Ext.new hu)) _ _ hq) (dpAll_ext (Ext.new hu) _ _ hR3.dp))
end Og
set_option Elab.async false
set_option linter.all false
set_option maxRecDepth 100000
set_option maxHeartbeats 4000000
namespace Og
open PySem PySem.Spec PyProof.Rows L2 TL
variable {P : Program} {w : World} {K : PySem.W.Frag} {mg : Str → Option Value} {base : Heap} {A : Str → Addr} {B : Str → FuncData}
/-! ### the law's own reading -/
def spAlike : Sp := fun vs H Q _ => ∃ l m : List Nat, vs = [.str (S l), .str (S m)] ∧ l.length ≤ LIM ∧ m.length ≤ LIM ∧ Q (.int (cp l m : Nat)) H
abbrev N__law_alike : List Str := ["text", "due", "many"]
abbrev P__law_alike : List Str := ["text", "due"]
theorem sc__law_alike : FnScope N__law_alike P__law_alike (defScope s__law_alike) := ⟨rfl, rfl, rfl, by decide +kernel, rfl, by decide +kernel, by decide +kernel⟩
theorem ok__law_alike (T : Facts P K mg A B) : FnOk P w K mg base CX0 1 (A "_law_alike") (B "_law_alike") ["text", "due"] spAlike := by
  refine T._law_alike.fn.ok sc__law_alike (fun vs H Q E h => ?_) (fun cdv Ar outer s H vs Q E hr h => ?_)
  · obtain ⟨l, m, rfl, _⟩ := h
    rfl
  · obtain ⟨l, m, rfl, hl, hm, k⟩ := h
    refine ⟨_, ((pss_cons (ps_set (i := 2) sc__law_alike.nd rfl (Or.inl rfl) pe_int)
      (pss_cons (ps_while PassesOwn.never (PW.pt (pw_and (pt_cmpR op_lt (pv 2) (pe_callB (call_min2 rfl) (by rfl) T.b_min (by decide +kernel) (pa_cons (pe_callB call_len_str (by rfl) T.b_len PySem.boot_len (pa_cons (pv 0) pa_nil)) (pa_cons (pe_callB call_len_str (by rfl) T.b_len PySem.boot_len (pa_cons (pv 1) pa_nil)) pa_nil))) (nomark _)) (pw_and1 (pt_cmpR op_eq (pe_ix ix_str (pv 0) (pv 2) (fun _ _ => rfl)) (pe_ix ix_str (pv 1) (pv 2) (fun _ _ => rfl)) (nomark _))))) (pss_one (ps_set (i := 2) sc__law_alike.nd rfl (Or.inl rfl) (pe_op op_add (pv 2) pe_int))))
      (pss_one (ps_ret (pv 2)))))), ?_⟩
    have hle := cp_le l m
    refine whileZ (fun n σ H' => ∃ e, H' = H ∧ σ = [some (.str (S l)), some (.str (S m)), some (.int (e : Nat))] ∧ n = l.length - e ∧ e ≤ cp l m) l.length ⟨0, rfl, rfl, rfl, Nat.zero_le _⟩
      (fun σ H' => H' = H ∧ σ = [some (.str (S l)), some (.str (S m)), some (.int (cp l m : Nat))]) ?_ ?_
    · rintro σ H' ⟨rfl, rfl⟩
      exact ⟨_, rfl, k⟩
    · rintro ex n σ H' ⟨e, rfl, rfl, rfl, he⟩
      refine ⟨_, rfl, _, rfl, S l, rfl, lim_line hl, _, rfl, S m, rfl, lim_line hm, _, _, rfl, _, _, rfl, rfl, _, rfl, ?_⟩
      rw [S_len, S_len]
      by_cases h1 : e < l.length ∧ e < m.length
      rotate_left
      · exact iteDF (by split <;> omega) (iteF (ex _ _ ⟨rfl, by rw [cp_end (e := e) (by omega) he]⟩))
      refine iteD (by split <;> omega) ?_
      have hc : l[e]? = some l[e] := List.getElem?_eq_getElem h1.1
      have hd : m[e]? = some m[e] := List.getElem?_eq_getElem h1.2
      refine ⟨_, rfl, _, rfl, S l, _, l[e], rfl, rfl, lim_line hl, atI_nat hc, _, rfl, _, rfl, S m, _, m[e], rfl, rfl, lim_line hm, atI_nat hd, rfl, _, rfl, ?_⟩
      have st := cp_step hc hd he
      by_cases h2 : l[e] = m[e]
      · exact iteD (by rw [h2]) ⟨_, fun _ _ z => z, _, rfl, _, _, rfl, rfl, l.length - (e + 1), by omega, e + 1, rfl, by push_cast; rfl, rfl, st.1 h2⟩
      · exact iteDF (fun z => h2 (by have := S_inj (V.str.inj z); simpa using this)) (ex _ _ ⟨rfl, by rw [st.2 h2]⟩)
def spIsSign : Sp := fun vs H Q _ => ∃ c : Nat, vs = [.str (S [c])] ∧ Q (.bl (isL c)) H
abbrev N__law_is_sign : List Str := ["sign"]
abbrev P__law_is_sign : List Str := ["sign"]
theorem sc__law_is_sign : FnScope N__law_is_sign P__law_is_sign (defScope s__law_is_sign) := ⟨rfl, rfl, rfl, by decide +kernel, rfl, by decide +kernel, by decide +kernel⟩
theorem ok__law_is_sign (T : Facts P K mg A B) : FnOk P w K mg base CX0 1 (A "_law_is_sign") (B "_law_is_sign") ["sign"] spIsSign := by
  refine T._law_is_sign.fn.ok sc__law_is_sign (fun vs H Q E h => ?_) (fun cdv Ar outer s H vs Q E hr h => ?_)
  · obtain ⟨c, rfl, _⟩ := h
    rfl
  · obtain ⟨c, rfl, k⟩ := h
    refine ⟨_, ((pss_one (ps_ret (pe_and (pe_cmpR op_eq (pe_callB call_len_str (by rfl) T.b_len PySem.boot_len (pa_cons (pv 0) pa_nil)) pe_int (nomark _)) (pe_one (pe_cmpR op_in_sign (pv 0) pe_str (by rfl))))))), ?_⟩
    refine ⟨_, rfl, S [c], rfl, by rw [sizeLine_eq, S_len]; simp, rfl, _, rfl, iteD (by rw [S_len]; rfl) ⟨_, rfl, c, _, rfl, rfl, ?_⟩⟩
    have : decide (c ∈ (("abcdefghijklmnopqrstuvwxyz" : Str)).cps.toList) = isL c := by
      cases h : isL c with
      | true => exact decide_eq_true ((in_letters c).mpr h)
      | false => exact decide_eq_false fun z => by rw [(in_letters c).mp z] at h; cases h
    rw [this]
    exact k
/-! ### kinds -/
def wOpen : List Nat := [111, 112, 101, 110]
def wAtom : List Nat := [97, 116, 111, 109]
def wClosed : List Nat := [99, 108, 111, 115, 101, 100]
theorem wopen_tl : ("open" : Str) = S wOpen := by decide +kernel
theorem watom_tl : ("atom" : Str) = S wAtom := by decide +kernel
theorem wclosed_tl : ("closed" : Str) = S wClosed := by decide +kernel
theorem arr_tl : (" -> " : Str) = S ARR := by decide +kernel
def stS (st : Nat) : List Nat := if st = 0 then wOpen else if st ≤ 8 then wAtom else wClosed
theorem stS_open (st : Nat) : S (stS st) = S wOpen ↔ st = 0 := by
  unfold stS
  constructor
  · intro z
    have := S_inj z
    split at this
    · assumption
    · split at this <;> exact absurd this (by decide)
  · intro z
    rw [if_pos z]
theorem stS_atom (st : Nat) : S (stS st) = S wAtom ↔ atom st = true := by
  unfold stS atom
  rw [decide_eq_true_iff]
  constructor
  · intro z
    have := S_inj z
    split at this
    · exact absurd this (by decide)
    · split at this
      · omega
      · exact absurd this (by decide)
  · intro z
    rw [if_neg (by omega), if_pos z.2]
def fr (f : List Bool) : List V := f.reverse.map V.bl
theorem fr_cons (b : Bool) (f : List Bool) : fr (b :: f) = fr f ++ [V.bl b] := by unfold fr; simp
theorem fr_len (f : List Bool) : (fr f).length = f.length := by unfold fr; simp
theorem cp_take : ∀ (n : Nat) (l m : List Nat), m.length ≤ n → cp (l.take n) m = cp l m
  | n, l, [], _ => by cases l.take n <;> cases l <;> rfl
  | 0, l, b :: m, h => by simp at h
  | n + 1, [], b :: m, h => rfl
  | n + 1, a :: l, b :: m, h => by
    have := cp_take n l m (by simpa using h)
    show (if a = b then cp (l.take n) m + 1 else 0) = if a = b then cp l m + 1 else 0
    rw [this]
/-- what comes behind a statement said once -/
theorem seqZ {t u : TS} {D : Ends} {σ : L2.St} {H : Hp} (Z : L2.St → Hp → Prop) (hz : ∀ σ H, Z σ H → u D σ H) (h : (∀ σ H, Z σ H → u D σ H) → t { D with nx := u D } σ H) : tSeq t u D σ H := h hz
/-- tests in a row, by their answers -/
theorem and_b {tA tB : TT} {σ : L2.St} {H : Hp} {Q : Bool → Hp → Prop} (b1 b2 : Bool) (hA : ∀ R : Bool → Hp → Prop, R b1 H → tA σ H R) (hB : b1 = true → ∀ R : Bool → Hp → Prop, R b2 H → tB σ H R) (h : Q (b1 && b2) H) : tAnd tA tB σ H Q := by
  refine hA _ ?_
  cases b1 with
  | true => exact iteT (hB rfl _ h)
  | false => exact iteF h
theorem or_b {tA tB : TT} {σ : L2.St} {H : Hp} {Q : Bool → Hp → Prop} (b1 b2 : Bool) (hA : ∀ R : Bool → Hp → Prop, R b1 H → tA σ H R) (hB : b1 = false → ∀ R : Bool → Hp → Prop, R b2 H → tB σ H R) (h : Q (b1 || b2) H) : tOr tA tB σ H Q := by
  refine hA _ ?_
  cases b1 with
  | true => exact iteT h
  | false => exact iteF (hB rfl _ h)
theorem dec_open (st : Nat) : decide (V.str (S (stS st)) = V.str "open") = decide (st = 0) := by
  rw [wopen_tl]
  by_cases h : st = 0
  · rw [decide_eq_true h, decide_eq_true (by rw [(stS_open st).mpr h])]
  · rw [decide_eq_false h, decide_eq_false fun z => h ((stS_open st).mp (V.str.inj z))]
theorem dec_atom (st : Nat) : decide (V.str (S (stS st)) = V.str "atom") = atom st := by
  rw [watom_tl]
  cases h : atom st with
  | true => exact decide_eq_true (by rw [(stS_atom st).mpr h])
  | false => exact decide_eq_false fun z => by rw [(stS_atom st).mp (V.str.inj z)] at h; cases h
theorem dec_sign (c d : Nat) {y : Str} (hy : y = S [d]) : decide (V.str ⟨#[c]⟩ = V.str y) = decide (c = d) := by
  subst hy
  by_cases h : c = d
  · subst h
    rw [decide_eq_true rfl]
    exact decide_eq_true rfl
  · rw [decide_eq_false h]
    exact decide_eq_false fun z => h (by have : [c] = [d] := S_inj (V.str.inj z); simpa using this)
def spScan : Sp := fun vs H Q _ => ∃ (l : List Nat) (a : Nat), vs = [.str (S l), .int a] ∧ l.length ≤ LIM ∧ a ≤ l.length ∧
  ∀ p H', Ext H H' → H' p = some (.tup [.int ((up a (kS (l.drop a) [false] 0)).1 : Nat), .bl (kS (l.drop a) [false] 0).2]) → Q (.ref p) H'
abbrev N__law_kind_scan : List Str := ["text", "at", "frames", "k", "state", "letters", "sign", "many"]
abbrev P__law_kind_scan : List Str := ["text", "at"]
theorem sc__law_kind_scan : FnScope N__law_kind_scan P__law_kind_scan (defScope s__law_kind_scan) := ⟨rfl, rfl, rfl, by decide +kernel, rfl, by decide +kernel, by decide +kernel⟩
theorem ok__law_kind_scan (T : Facts P K mg A B) : FnOk P w K mg base CX0 2 (A "_law_kind_scan") (B "_law_kind_scan") ["text", "at"] spScan := by
  refine T._law_kind_scan.fn.ok sc__law_kind_scan (fun vs H Q E h => ?_) (fun cdv Ar outer s H vs Q E hr h => ?_)
  · obtain ⟨l, a, rfl, _⟩ := h
    rfl
  · obtain ⟨l, a0, rfl, hl, ha0, k⟩ := h
    refine ⟨_, ((pss_cons (ps_asg (pe_tup (pa_cons (pe_lst (pa_cons pe_bl pa_nil)) (pa_cons (pv 1) (pa_cons pe_str (pa_cons pe_int pa_nil))))) (pg_tup rfl (pgs_cons (pg_name (i := 2) sc__law_kind_scan.nd rfl (Or.inl rfl)) (pgs_cons (pg_name (i := 3) sc__law_kind_scan.nd rfl (Or.inl rfl)) (pgs_cons (pg_name (i := 4) sc__law_kind_scan.nd rfl (Or.inl rfl)) (pgs_cons (pg_name (i := 5) sc__law_kind_scan.nd rfl (Or.inl rfl)) pgs_nil))))))
      (pss_cons (ps_while PassesOwn.never (pt_cmpR op_lt (pv 3) (pe_callB call_len_str (by rfl) T.b_len PySem.boot_len (pa_cons (pv 0) pa_nil)) (nomark _)) (pss_cons (ps_set (i := 6) sc__law_kind_scan.nd rfl (Or.inl rfl) (pe_ix ix_str (pv 0) (pv 3) (fun _ _ => rfl)))
      (pss_cons (ps_if (PW.pt (pw_and (pt_cmpR op_eq (pv 4) pe_str (nomark _)) (pw_and1 (pt_cmpR op_eq (pv 6) pe_str (nomark _))))) (pss_one (ps_expr (pe_bm PySem.F.plainAttrs_list PySem.F.slot_list_append PySem.F.type_list_append mt_append (pv 2) (pa_cons pe_bl pa_nil)))) (pss_one (ps_if (PW.pt (pw_and (pt_val (pe_call (ok__law_is_sign T) (hr.mono (by decide)) rfl T._law_is_sign.mg T._law_is_sign.kp T._law_is_sign.bi .nil pass0 (pa_cons (pv 6) pa_nil))) (pw_and1 (PW.pt (pw_or (pt_cmpR op_eq (pv 4) pe_str (nomark _)) (pw_or1 (PW.pt (pw_and (pt_cmpR op_eq (pv 4) pe_str (nomark _)) (pw_and1 (pt_cmpR op_lt (pv 5) pe_int (nomark _))))))))))) (pss_cons (ps_set (i := 5) sc__law_kind_scan.nd rfl (Or.inl rfl) (pe_ifExp (pt_cmpR op_eq (pv 4) pe_str (nomark _)) pe_int (pe_op op_add (pv 5) pe_int)))
      (pss_one (ps_set (i := 4) sc__law_kind_scan.nd rfl (Or.inl rfl) pe_str))) (pss_one (ps_if (PW.pt (pw_and (pt_cmpR op_eq (pv 6) pe_str (nomark _)) (pw_and (pt_cmpR op_eq (pv 4) pe_str (nomark _)) (pw_and (pt_cmpR op_gt (pe_callB call_len_seq (by rfl) T.b_len PySem.boot_len (pa_cons (pv 2) pa_nil)) pe_int (nomark _)) (pw_and1 (pt_val (pe_ix (r := rIxL K) ix_list (pv 2) (pe_un un_neg pe_int) (fun _ _ => rfl)))))))) (pss_cons (ps_expr (pe_bm0 PySem.F.plainAttrs_list PySem.F.slot_list_pop PySem.F.type_list_pop mt_pop (pv 2)))
      (pss_one (ps_set (i := 4) sc__law_kind_scan.nd rfl (Or.inl rfl) pe_str))) (pss_one (ps_if (PW.pt (pw_and (pt_cmpR op_eq (pv 6) pe_str (nomark _)) (pw_and1 (pt_cmpR op_ne (pv 4) pe_str (nomark _))))) (pss_cons (ps_set (i := 7) sc__law_kind_scan.nd rfl (Or.inl rfl) (pe_call (ok__law_alike T) (hr.mono (by decide)) rfl T._law_alike.mg T._law_alike.kp T._law_alike.bi .nil pass0 (pa_cons (pe_slice sl_str (pv 0) (po_some (pv 3)) (po_some (pe_op op_add (pv 3) pe_int))) (pa_cons pe_str pa_nil))))
      (pss_cons (ps_if (pt_cmpR op_lt (pv 7) pe_int (nomark _)) (pss_one (ps_ret (pe_tup (pa_cons (pe_op op_add (pv 3) (pv 7)) (pa_cons pe_bl pa_nil))))) pss_nil)
      (pss_cons (ps_par (by rfl) sc__law_kind_scan.nd (i := 3) (j := 4) rfl rfl (by decide) rfl rfl (pa_cons (pe_op op_add (pv 3) pe_int) (pa_cons pe_str pa_nil)) (by rfl))
      (pss_one (ps_asg pe_bl (pg_sub (pv 2) (pe_un un_neg pe_int) set_list)))))) (pss_one (ps_ret (pe_tup (pa_cons (pv 3) (pa_cons (pe_and (pe_cmpR op_eq (pv 4) pe_str (nomark _)) (pe_one (pe_cmpR op_eq (pe_callB call_len_seq (by rfl) T.b_len PySem.boot_len (pa_cons (pv 2) pa_nil)) pe_int (nomark _)))) pa_nil))))))))))))
      (pss_one (ps_set (i := 3) sc__law_kind_scan.nd rfl (Or.inl rfl) (pe_op op_add (pv 3) pe_int))))))
      (pss_one (ps_ret (pe_tup (pa_cons (pv 3) (pa_cons (pe_and (pe_cmpR op_eq (pv 4) pe_str (nomark _)) (pe_one (pe_cmpR op_eq (pe_callB call_len_seq (by rfl) T.b_len PySem.boot_len (pa_cons (pv 2) pa_nil)) pe_int (nomark _)))) pa_nil)))))))), ?_⟩
    have kk : ∀ (R : Nat × Bool) (e : Nat) (b : Bool), up a0 (kS (l.drop a0) [false] 0) = R → R.1 = e → R.2 = b → ∀ p H', Ext H H' → H' p = some (.tup [.int (e : Nat), .bl b]) → Q (.ref p) H' := fun R e b q1 q2 q3 p H' x hp => by
      have e2 : (kS (l.drop a0) [false] 0).2 = R.2 := by rw [← q1]; rfl
      refine k p H' x ?_
      rw [q1, e2, q2, q3]
      exact hp
    generalize hK : up a0 (kS (l.drop a0) [false] 0) = KK at kk
    refine ⟨by rw [sizeLine_eq]; simp, fun D hD => ⟨_, rfl, by rw [sizeLine_eq]; simp, fun t ht => ?_⟩⟩
    have htD : D ≠ t := fun z => by rw [← z, upd_same] at ht; cases ht
    refine ⟨t, _, rfl, SqT.of upd_same, rfl, _, _, rfl, _, _, rfl, _, _, rfl, _, _, rfl, rfl, ?_⟩
    have line : ∀ n, n ≤ l.length + 1 → n < sizeLine := fun n h => by rw [sizeLine_eq]; unfold LIM at hl; omega
    refine whileZ (fun m σ H' => ∃ a f st lt sv mv, Ext H H' ∧ H' D = some (.lst (fr f)) ∧ f ≠ [] ∧ f.length ≤ a + 1 ∧ (atom st = true → lt = st) ∧ st ≤ 9 ∧ σ = [some (.str (S l)), some (.int a0), some (.ref D), some (.int (a : Nat)), some (.str (S (stS st))), some (.int (lt : Nat)), sv, mv] ∧ m = l.length - a ∧ a ≤ l.length ∧ up a (kS (l.drop a) f st) = KK) (l.length - a0)
      ⟨a0, [false], 0, 0, none, none, (Ext.new hD).trans (Ext.new ht), by rw [upd_ne htD, upd_same]; rfl, by simp, by simp, by decide, by decide, by rw [wopen_tl]; rfl, rfl, ha0, hK⟩
      (fun σ H' => ∃ f st lt sv mv, Ext H H' ∧ H' D = some (.lst (fr f)) ∧ f.length ≤ l.length + 1 ∧ σ = [some (.str (S l)), some (.int a0), some (.ref D), some (.int (l.length : Nat)), some (.str (S (stS st))), some (.int (lt : Nat)), sv, mv] ∧ KK = (l.length, atom st && f.length == 1)) ?_ ?_
    · rintro σ H' ⟨f, st, lt, sv, mv, x, hD', hfl, rfl, hKK⟩
      refine ⟨_, rfl, _, rfl, rfl, _, rfl, ?_⟩
      rw [dec_atom]
      cases h1 : atom st with
      | true =>
        refine iteT ⟨_, rfl, D, _, rfl, .inl (SqL.of hD'), rfl, two_line, fun p hp => kk KK l.length _ rfl (by rw [hKK]) ?_ p _ (x.trans (Ext.new hp)) upd_same⟩
        rw [hKK, h1, fr_len]
        show (true && f.length == 1) = decide (V.int (f.length : Nat) = V.int 1)
        by_cases h2 : f.length = 1
        · rw [h2]; rfl
        · have : (f.length == 1) = false := by simpa using h2
          rw [this]
          exact (decide_eq_false fun z => h2 (by have := V.int.inj z; omega)).symm
      | false => exact iteF ⟨two_line, fun p hp => kk KK l.length false rfl (by rw [hKK]) (by rw [hKK, h1]; rfl) p _ (x.trans (Ext.new hp)) upd_same⟩
    · rintro ex m σ H' ⟨a, f, st, lt, sv, mv, x, hD', hf, hfl, hlt, hst, rfl, rfl, ha, hR⟩
      refine ⟨_, rfl, _, rfl, S l, rfl, lim_line hl, _, _, rfl, rfl, _, rfl, ?_⟩
      rw [S_len]
      by_cases h1 : a < l.length
      rotate_left
      · have : a = l.length := by omega
        subst this
        rw [List.drop_length, kS_nil] at hR
        exact iteDF (by omega) (ex _ _ ⟨f, st, lt, sv, mv, x, hD', hfl, rfl, hR.symm⟩)
      refine iteD (by omega) ⟨_, fun _ _ z => z, ?_⟩
      obtain ⟨c, hc⟩ : ∃ c, l[a]? = some c := ⟨l[a], List.getElem?_eq_getElem h1⟩
      have hdr : l.drop a = c :: l.drop (a + 1) := by
        obtain ⟨h1, h2⟩ := List.getElem?_eq_some_iff.mp hc
        rw [List.drop_eq_getElem_cons h1, h2]
      refine ⟨_, rfl, _, rfl, S l, _, c, rfl, rfl, lim_line hl, atI_nat hc, ?_⟩
      have hlist : (fr f).length ≤ l.length + 1 := by rw [fr_len]; omega
      rw [hdr] at hR
      obtain ⟨b0, g, rfl⟩ : ∃ b g, f = b :: g := by
        cases f with
        | nil => exact absurd rfl hf
        | cons b g => exact ⟨b, g, rfl⟩
      dsimp only [gName]
      refine seqZ (fun σ6 H6 => ∃ a' f' st' lt' sv mv, Ext H H6 ∧ H6 D = some (.lst (fr f')) ∧ f' ≠ [] ∧ f'.length ≤ a' + 2 ∧ (atom st' = true → lt' = st') ∧ st' ≤ 9 ∧ σ6 = [some (.str (S l)), some (.int a0), some (.ref D), some (.int (a' : Nat)), some (.str (S (stS st'))), some (.int (lt' : Nat)), sv, mv] ∧ a ≤ a' ∧ a' < l.length ∧ up (a' + 1) (kS (l.drop (a' + 1)) f' st') = KK) ?_ ?_
      · rintro σ6 H6 ⟨a', f', st', lt', sv', mv', x6, hD6, hf6, hfl6, hlt6, hst6, rfl, hle6, hlt6', hR6⟩
        exact ⟨_, rfl, _, _, rfl, rfl, l.length - (a' + 1), by omega, a' + 1, f', st', lt', sv', mv', x6, hD6, hf6, by omega, hlt6, hst6, by push_cast; rfl, rfl, by omega, hR6⟩
      intro ez
      refine and_b (decide (st = 0)) (decide (c = 40)) (fun R r => ⟨_, rfl, rfl, _, rfl, by rw [dec_open]; exact r⟩) (fun _ R r => ⟨_, rfl, rfl, _, rfl, by rw [dec_sign c 40 open_tl]; exact r⟩) ?_
      by_cases t1 : st = 0 ∧ c = 40
      · obtain ⟨rfl, rfl⟩ := t1
        rw [kS_open, up_up] at hR
        refine iteT ⟨_, rfl, .inl ⟨rfl, _, SqL.of hD'⟩, D, _, _, rfl, rfl, hD', line _ hlist, ez _ _ ⟨a, false :: b0 :: g, 0, lt, _, _, x.upd hD, by rw [upd_same, fr_cons false], by simp, by simp at hfl ⊢; omega, hlt, by decide, rfl, Nat.le_refl _, h1, hR⟩⟩
      refine iteBF (by rw [Bool.and_eq_false_iff, decide_eq_false_iff_not, decide_eq_false_iff_not]; exact Decidable.not_and_iff_or_not.mp t1) ?_
      refine and_b (isL c) (decide (st < 8)) (fun R r => ⟨_, rfl, c, rfl, _, rfl, r⟩) (fun _ R r => ?_) ?_
      · refine or_b (decide (st = 0)) (atom st && decide (st < 8)) (fun R r => ⟨_, rfl, rfl, _, rfl, by rw [dec_open]; exact r⟩) (fun _ R r => ?_) ?_
        · refine and_b (atom st) (decide (st < 8)) (fun R r => ⟨_, rfl, rfl, _, rfl, by rw [dec_atom]; exact r⟩) (fun hat R r => ⟨_, rfl, _, _, rfl, rfl, _, rfl, ?_⟩) r
          rw [hlt hat, show decide (((st : Nat) : Int) < 8) = decide (st < 8) from by rw [decide_eq_decide]; omega]
          exact r
        · have : (decide (st = 0) || (atom st && decide (st < 8))) = decide (st < 8) := by
            unfold atom
            rw [← Bool.decide_and, ← Bool.decide_or, decide_eq_decide]
            omega
          rw [this]
          exact r
      by_cases t2 : isL c = true ∧ st < 8
      · rw [kS_letter _ _ t2.1 t2.2, up_up] at hR
        have hstA : ∀ n : Nat, n ≤ 8 → n ≠ 0 → S (stS n) = S wAtom := fun n h1 h2 => (stS_atom n).mpr (by unfold atom; exact decide_eq_true (by omega))
        have fin : ∀ (lv : Nat), lv = st + 1 → _ := fun lv e => ez [some (.str (S l)), some (.int a0), some (.ref D), some (.int (a : Nat)), some (.str "atom"), some (.int (lv : Nat)), some (.str ⟨#[c]⟩), mv] H' ⟨a, b0 :: g, st + 1, lv, _, _, x, hD', by simp, by simp at hfl ⊢; omega, fun _ => e, by omega, by rw [hstA (st + 1) (by omega) (by omega), watom_tl], Nat.le_refl _, h1, hR⟩
        refine iteB (by rw [t2.1, decide_eq_true t2.2]; rfl) ?_
        refine ⟨_, rfl, rfl, _, rfl, ?_⟩
        rw [dec_open]
        by_cases h0 : st = 0
        · exact iteD h0 (fin 1 (by omega))
        · refine iteDF h0 ⟨_, rfl, _, _, rfl, rfl, ?_⟩
          have hlt' := hlt (by unfold atom; exact decide_eq_true (by omega))
          subst hlt'
          exact fin (lt + 1) rfl
      refine iteBF (by cases hq : isL c with | false => rfl | true => rw [decide_eq_false (fun z => t2 ⟨hq, z⟩)]; rfl) ?_
      refine and_b (decide (c = 41)) (atom st && (decide (1 < (b0 :: g).length) && b0)) (fun R r => ⟨_, rfl, rfl, _, rfl, by rw [dec_sign c 41 shut_tl]; exact r⟩) (fun _ R r => ?_) ?_
      · refine and_b (atom st) (decide (1 < (b0 :: g).length) && b0) (fun R r => ⟨_, rfl, rfl, _, rfl, by rw [dec_atom]; exact r⟩) (fun _ R r => ?_) r
        refine and_b (decide (1 < (b0 :: g).length)) b0 (fun R r => ⟨_, rfl, D, _, rfl, .inl (SqL.of hD'), _, _, rfl, rfl, _, rfl, ?_⟩) (fun _ R r => ⟨_, rfl, _, rfl, D, _, _, V.bl b0, rfl, rfl, SqL.of hD', ?_, _, rfl, r⟩) r
        · rw [fr_len, show decide (((b0 :: g).length : Int) > 1) = decide (1 < (b0 :: g).length) from by rw [decide_eq_decide]; omega]
          exact r
        · rw [fr_cons]
          exact atI_last _ _
      by_cases t3 : c = 41 ∧ atom st = true ∧ 1 < (b0 :: g).length ∧ (b0 :: g).head? = some true
      · obtain ⟨rfl, h31, h32, h33⟩ := t3
        rw [kS_pop h31 h32 h33, up_up] at hR
        have hb : b0 = true := by simpa using h33
        refine iteB (by rw [h31, decide_eq_true h32, hb]; rfl) ?_
        refine ⟨_, rfl, .inl ⟨rfl, _, SqL.of hD'⟩, D, _, V.bl b0, rfl, rfl, hD', ?_, ez [some (.str (S l)), some (.int a0), some (.ref D), some (.int (a : Nat)), some (.str "closed"), some (.int (lt : Nat)), some (.str ⟨#[41]⟩), mv] (upd H' D (.lst (fr (b0 :: g)).dropLast)) ⟨a, g, 9, lt, some (.str ⟨#[41]⟩), mv, x.upd hD, ?_, fun z => by rw [z] at h32; simp at h32, by simp at hfl ⊢; omega, fun z => by exact absurd z (by decide), by decide, ?_, Nat.le_refl _, h1, hR⟩⟩
        · rw [fr_cons]
          simp
        · rw [upd_same, fr_cons, List.dropLast_concat]
        · rw [wclosed_tl]
          rfl
      refine iteBF ?_ ?_
      · cases hq : (decide (c = 41) && (atom st && (decide (1 < (b0 :: g).length) && b0))) with
        | false => rfl
        | true =>
          simp only [Bool.and_eq_true, decide_eq_true_eq] at hq
          exact absurd ⟨hq.1, hq.2.1, hq.2.2.1, by rw [hq.2.2.2]; rfl⟩ t3
      refine and_b (decide (c = 32)) (!decide (st = 0)) (fun R r => ⟨_, rfl, rfl, _, rfl, by rw [dec_sign c 32 spc_tl]; exact r⟩) (fun _ R r => ⟨_, rfl, rfl, _, rfl, by rw [dec_open]; exact r⟩) ?_
      by_cases t4 : c = 32 ∧ st ≠ 0
      · obtain ⟨rfl, h41⟩ := t4
        rw [kS_rest h41 t2 t3] at hR
        refine iteB (by rw [decide_eq_false h41]; rfl) ?_
        refine ⟨_, rfl, _, rfl, _, rfl, _, rfl, _, _, rfl, rfl, _, rfl, S l, rfl, lim_line hl, ?_⟩
        rw [cutNN l a (a + 4) rfl (by push_cast; rfl), show a + 4 - a = 4 by omega, arr_tl]
        refine ⟨_, ARR, rfl, Nat.le_trans (List.length_take_le _ _) (by decide), by decide, ?_⟩
        rw [cp_take 4 _ _ (by decide), hdr]
        refine ⟨_, rfl, _, _, rfl, rfl, _, rfl, ?_⟩
        by_cases h4 : cp (32 :: l.drop (a + 1)) ARR < 4
        · rw [if_pos h4] at hR
          exact iteD (by omega) ⟨_, rfl, _, rfl, _, _, rfl, rfl, two_line, fun p hp => kk KK (a + cp (32 :: l.drop (a + 1)) ARR) false rfl (by rw [← hR]; rfl) (by rw [← hR]; rfl) p _ (x.trans (Ext.new hp)) (by rw [upd_same]; push_cast; rfl)⟩
        · rw [if_neg h4, up_up] at hR
          have l4 := (cp_le (32 :: l.drop (a + 1)) ARR).1
          have l5 := congrArg List.length hdr
          rw [List.length_drop] at l5
          refine iteDF (by omega) ⟨_, rfl, _, _, rfl, rfl, _, _, rfl, ?_⟩
          have hix : ixN (fr (b0 :: g)).length (-1) = some (fr g).length := by
            rw [fr_len, fr_len]
            unfold ixN
            rw [if_neg (by decide), List.length_cons]
            rw [if_pos (by omega)]
            congr 1
            omega
          refine ⟨_, rfl, _, rfl, D, fr (b0 :: g), _, _, rfl, rfl, hD', hix, ez _ _ ⟨a + 3, true :: g, 0, lt, some (.str ⟨#[32]⟩), some (.int (cp (32 :: l.drop (a + 1)) ARR : Nat)), x.upd hD, ?_, by simp, by simp at hfl ⊢; omega, fun z => by exact absurd z (by decide), by decide, ?_, by omega, by omega, ?_⟩⟩
          · rw [upd_same, fr_cons, fr_cons, List.set_append_right _ _ (Nat.le_refl _), Nat.sub_self]
            rfl
          · rw [wopen_tl]
            push_cast
            rfl
          · rw [show a + 3 + 1 = a + 4 by omega]
            rw [← hdr, List.drop_drop] at hR
            exact hR
      · refine iteBF ?_ ?_
        · cases hq : (decide (c = 32) && !decide (st = 0)) with
          | false => rfl
          | true =>
            simp only [Bool.and_eq_true, decide_eq_true_eq, Bool.not_eq_true', decide_eq_false_iff_not] at hq
            exact absurd hq t4
        have hK2 : KK = (a, atom st && (b0 :: g).length == 1) := by
          rw [← hR, kS, if_neg t1, if_neg t2, if_neg t3, if_neg t4]
          rfl
        refine ⟨_, rfl, _, rfl, rfl, _, rfl, ?_⟩
        rw [dec_atom]
        cases h1 : atom st with
        | true =>
          refine iteT ⟨_, rfl, D, _, rfl, .inl (SqL.of hD'), rfl, two_line, fun p hp => kk KK a _ rfl (by rw [hK2]) ?_ p _ (x.trans (Ext.new hp)) upd_same⟩
          rw [hK2, h1, fr_len]
          show (true && (b0 :: g).length == 1) = decide (V.int ((b0 :: g).length : Nat) = V.int 1)
          by_cases h2 : (b0 :: g).length = 1
          · rw [h2]; rfl
          · have : ((b0 :: g).length == 1) = false := by simpa using h2
            rw [this]
            exact (decide_eq_false fun z => h2 (by have := V.int.inj z; omega)).symm
        | false => exact iteF ⟨two_line, fun p hp => kk KK a false rfl (by rw [hK2]) (by rw [hK2, h1]; rfl) p _ (x.trans (Ext.new hp)) upd_same⟩
end Og
set_option Elab.async false
set_option linter.all false
set_option maxRecDepth 100000
set_option maxHeartbeats 4000000
namespace Og
open PySem PySem.Spec PyProof.Rows L2 TL
variable {P : Program} {w : World} {K : PySem.W.Frag} {mg : Str → Option Value} {base : Heap} {A : Str → Addr} {B : Str → FuncData}
/-- a while, with what comes behind -/
theorem whileSZ {c : TT} {tb u : TS} {D : Ends} {σ : L2.St} {H : Hp} (W : Nat → L2.St → Hp → Prop) (m0 : Nat) (h0 : W m0 σ H) (Z : L2.St → Hp → Prop) (hz : ∀ σ H, Z σ H → u D σ H)
    (hs : (∀ σ H, Z σ H → u D σ H) → ∀ m σ H, W m σ H → c σ H fun b H1 => if b = true then ∃ N : L2.St → Hp → Prop, (∀ σ' H', N σ' H' → ∃ m', m' < m ∧ W m' σ' H') ∧ tb { D with nx := N, ct := N, bk := u D } σ H1 else u D σ H1) : tSeq (tWhile c tb) u D σ H := ⟨W, ⟨m0, h0⟩, hs hz⟩
/-! ### entries by the law's reading -/
def CS : List Nat := [58, 32]
theorem cs_tl : (": " : Str) = S CS := by decide +kernel
def eS (r b : List Nat) : Nat × Bool :=
  if rc r b = 0 ∨ ¬ b < r.take (rc r b) then (rc r b, false)
  else if cp (r.drop (rc r b)) CS = 2 then up (rc r b + 2) (kS (r.drop (rc r b + 2)) [false] 0) else (rc r b + cp (r.drop (rc r b)) CS, false)
theorem z7_tl : ("zzzzzzz" : Str) = S [122, 122, 122, 122, 122, 122, 122] := by decide +kernel
theorem pad7 (x : List Nat) (h1 : 1 ≤ x.length) (h8 : x.length ≤ 8) : (x ++ [122, 122, 122, 122, 122, 122, 122]).take 8 = x ++ ZZ.drop x.length := by
  rw [List.take_append, List.take_of_length_le h8]
  congr 1
  have h : x.length = 1 ∨ x.length = 2 ∨ x.length = 3 ∨ x.length = 4 ∨ x.length = 5 ∨ x.length = 6 ∨ x.length = 7 ∨ x.length = 8 := by omega
  rcases h with h | h | h | h | h | h | h | h <;> rw [h] <;> rfl
theorem dec_sl (l : List Nat) (k c : Nat) : decide (V.str (S ((l.drop k).take 1)) = V.str (S [c])) = decide (l[k]? = some c) := by
  by_cases h : l[k]? = some c
  · rw [decide_eq_true h, decide_eq_true (by rw [S1_is.mpr h])]
  · rw [decide_eq_false h, decide_eq_false fun z => h (S1_is.mp (V.str.inj z))]
def spEScan : Sp := fun vs H Q _ => ∃ (l : List Nat) (a : Nat) (b : List Nat), vs = [.str (S l), .int a, .str (S b)] ∧ l.length ≤ LIM ∧ a ≤ l.length ∧
  ∀ p H', Ext H H' → H' p = some (.tup [.int ((up a (eS (l.drop a) b)).1 : Nat), .bl (eS (l.drop a) b).2]) → Q (.ref p) H'
abbrev N__law_entry_scan : List Str := ["text", "at", "before", "k", "many"]
abbrev P__law_entry_scan : List Str := ["text", "at", "before"]
theorem sc__law_entry_scan : FnScope N__law_entry_scan P__law_entry_scan (defScope s__law_entry_scan) := ⟨rfl, rfl, rfl, by decide +kernel, rfl, by decide +kernel, by decide +kernel⟩
theorem ok__law_entry_scan (T : Facts P K mg A B) : FnOk P w K mg base CX0 3 (A "_law_entry_scan") (B "_law_entry_scan") ["text", "at", "before"] spEScan := by
  refine T._law_entry_scan.fn.ok sc__law_entry_scan (fun vs H Q E h => ?_) (fun cdv Ar outer s H vs Q E hr h => ?_)
  · obtain ⟨l, a, b, rfl, _⟩ := h
    rfl
  · obtain ⟨l, a, b, rfl, hl, ha, k⟩ := h
    refine ⟨_, ((pss_cons (ps_set (i := 3) sc__law_entry_scan.nd rfl (Or.inl rfl) (pv 1))
      (pss_cons (ps_while PassesOwn.never (PW.pt (pw_and (pt_cmpR op_lt (pv 3) (pe_callB call_len_str (by rfl) T.b_len PySem.boot_len (pa_cons (pv 0) pa_nil)) (nomark _)) (pw_and (pt_cmpR op_lt (pe_op op_sub (pv 3) (pv 1)) pe_int (nomark _)) (pw_and (pt_val (pe_call (ok__law_is_sign T) (hr.mono (by decide)) rfl T._law_is_sign.mg T._law_is_sign.kp T._law_is_sign.bi .nil pass0 (pa_cons (pe_ix ix_str (pv 0) (pv 3) (fun _ _ => rfl)) pa_nil))) (pw_and1 (pt_cmpR op_gt_str (pe_slice sl_str (pe_op op_add_str (pe_slice sl_str (pv 0) (po_some (pv 1)) (po_some (pe_op op_add (pv 3) pe_int))) pe_str) po_none (po_some pe_int)) (pv 2) (nomark _))))))) (pss_one (ps_set (i := 3) sc__law_entry_scan.nd rfl (Or.inl rfl) (pe_op op_add (pv 3) pe_int))))
      (pss_cons (ps_if (PW.pt (pw_or (pt_cmpR op_eq (pv 3) (pv 1) (nomark _)) (pw_or1 (pt_cmpR op_le_str (pe_slice sl_str (pv 0) (po_some (pv 1)) (po_some (pv 3))) (pv 2) (nomark _))))) (pss_one (ps_ret (pe_tup (pa_cons (pv 3) (pa_cons pe_bl pa_nil))))) pss_nil)
      (pss_cons (ps_set (i := 4) sc__law_entry_scan.nd rfl (Or.inl rfl) (pe_call (ok__law_alike T) (hr.mono (by decide)) rfl T._law_alike.mg T._law_alike.kp T._law_alike.bi .nil pass0 (pa_cons (pe_slice sl_str (pv 0) (po_some (pv 3)) (po_some (pe_op op_add (pv 3) pe_int))) (pa_cons pe_str pa_nil))))
      (pss_one (ps_ret (pe_ifExp (pt_cmpR op_eq (pv 4) pe_int (nomark _)) (pe_call (ok__law_kind_scan T) (hr.mono (by decide)) rfl T._law_kind_scan.mg T._law_kind_scan.kp T._law_kind_scan.bi .nil pass0 (pa_cons (pv 0) (pa_cons (pe_op op_add (pv 3) pe_int) pa_nil))) (pe_tup (pa_cons (pe_op op_add (pv 3) (pv 4)) (pa_cons pe_bl pa_nil))))))))))), ?_⟩
    generalize hr0 : l.drop a = r at k
    have hrl : r.length = l.length - a := by rw [← hr0, List.length_drop]
    have hle := lets_le 8 r
    have rle := rgo_le r b (lets 8 r) 0 (Nat.zero_le _)
    have drop2 : ∀ j, l.drop (a + j) = r.drop j := fun j => by rw [← hr0, List.drop_drop]
    refine ⟨_, rfl, ?_⟩
    dsimp only [gName]
    refine whileSZ (fun f σ H' => ∃ e, H' = H ∧ σ = [some (.str (S l)), some (.int a), some (.str (S b)), some (.int ((a + e : Nat) : Int)), none] ∧ e ≤ lets 8 r ∧ lets 8 r ≤ e + f ∧ rgo r b f e = rc r b) (lets 8 r) ⟨0, rfl, rfl, Nat.zero_le _, by omega, rfl⟩
      (fun σ H' => H' = H ∧ σ = [some (.str (S l)), some (.int a), some (.str (S b)), some (.int ((a + rc r b : Nat) : Int)), none]) ?_ ?_
    · rintro σ H' ⟨rfl, rfl⟩
      have hn : rc r b ≤ lets 8 r := rle.1
      have kk : ∀ (R : Nat × Bool) (e : Nat) (c : Bool), eS r b = R → a + R.1 = e → R.2 = c → ∀ p H2, Ext H' H2 → H2 p = some (.tup [.int (e : Nat), .bl c]) → Q (.ref p) H2 := fun R e c q1 q2 q3 p H2 x hp => by
        refine k p H2 x ?_
        rw [q1]
        show H2 p = some (.tup [.int ((a + R.1 : Nat) : Int), .bl R.2])
        rw [q2, q3]
        exact hp
      have eSd : eS r b = (if rc r b = 0 ∨ ¬ b < r.take (rc r b) then (rc r b, false) else if cp (r.drop (rc r b)) CS = 2 then up (rc r b + 2) (kS (r.drop (rc r b + 2)) [false] 0) else (rc r b + cp (r.drop (rc r b)) CS, false)) := rfl
      generalize heS : eS r b = ES at eSd kk
      generalize rc r b = n at *
      refine or_b (decide (n = 0)) (!decide (b < r.take n)) (fun R z => ⟨_, rfl, _, rfl, rfl, _, rfl, ?_⟩) (fun _ R z => ⟨_, rfl, _, rfl, _, rfl, _, rfl, _, rfl, S l, rfl, lim_line hl, ?_⟩) ?_
      · rw [show decide (V.int ((a + n : Nat) : Int) = V.int a) = decide (n = 0) from by
          rw [decide_eq_decide]
          exact ⟨fun q => by have := V.int.inj q; omega, fun q => by rw [q]; rfl⟩]
        exact z
      · rw [cutNN l a (a + n) rfl rfl, hr0, show a + n - a = n by omega]
        refine ⟨_, rfl, _, _, rfl, rfl, _, rfl, ?_⟩
        exact z
      by_cases hbad : n = 0 ∨ ¬ b < r.take n
      · rw [if_pos hbad] at eSd
        refine iteB ?_ ⟨_, rfl, two_line, fun p hp => kk _ _ _ eSd rfl rfl p _ (Ext.new hp) upd_same⟩
        rcases hbad with q | q
        · rw [decide_eq_true q]; rfl
        · rw [decide_eq_false q]; simp
      rw [if_neg hbad] at eSd
      refine iteBF ?_ ?_
      · have h1 : ¬ n = 0 := fun q => hbad (.inl q)
        have h2 : b < r.take n := Decidable.not_not.mp fun q => hbad (.inr q)
        rw [decide_eq_false h1, decide_eq_true h2]
        rfl
      refine ⟨_, rfl, _, rfl, _, rfl, _, rfl, _, _, rfl, rfl, _, rfl, S l, rfl, lim_line hl, ?_⟩
      rw [cutNN l (a + n) (a + n + 2) rfl (by push_cast; rfl), show a + n + 2 - (a + n) = 2 by omega, cs_tl, drop2]
      refine ⟨_, CS, rfl, Nat.le_trans (List.length_take_le _ _) (by decide), by decide, ?_⟩
      rw [cp_take 2 _ _ (by decide)]
      refine ⟨_, rfl, rfl, _, rfl, ?_⟩
      by_cases h2 : cp (r.drop n) CS = 2
      · rw [if_pos h2] at eSd
        have l2 := (cp_le (r.drop n) CS).1
        rw [h2, List.length_drop] at l2
        have d2 : l.drop (a + n + 2) = r.drop (n + 2) := by rw [← drop2 (n + 2), show a + (n + 2) = a + n + 2 by omega]
        refine iteD (by rw [h2]; rfl) ⟨_, rfl, _, rfl, _, _, rfl, rfl, l, a + n + 2, by push_cast; rfl, hl, by omega, fun p H2 x hp => kk _ (up (a + n + 2) (kS (r.drop (n + 2)) [false] 0)).1 _ eSd ?_ rfl p H2 x (by rw [d2] at hp; exact hp)⟩
        show a + (n + 2 + (kS (r.drop (n + 2)) [false] 0).1) = a + n + 2 + (kS (r.drop (n + 2)) [false] 0).1
        omega
      · rw [if_neg h2] at eSd
        exact iteDF (fun z => h2 (by have := V.int.inj z; omega)) ⟨_, rfl, _, rfl, _, _, rfl, rfl, two_line, fun p hp => kk _ (a + n + cp (r.drop n) CS) _ eSd (by omega) rfl p _ (Ext.new hp) (by rw [upd_same]; push_cast; rfl)⟩
    · rintro ex f σ H' ⟨e, rfl, rfl, he, hf, hrc⟩
      refine ⟨_, rfl, _, rfl, S l, rfl, lim_line hl, _, _, rfl, rfl, _, rfl, ?_⟩
      have out : ¬ e < lets 8 r → rgo r b f e = e := fun h => by
        cases f with
        | zero => rfl
        | succ f => unfold rgo; rw [if_neg (fun z => h z.1)]
      have stop : ¬ e < lets 8 r → H' = H' ∧ [some (V.str (S l)), some (.int a), some (.str (S b)), some (.int ((a + e : Nat) : Int)), none] = [some (V.str (S l)), some (.int a), some (.str (S b)), some (.int ((a + rc r b : Nat) : Int)), none] := fun h => ⟨rfl, by rw [← hrc, out h]⟩
      by_cases h1 : e < r.length
      rotate_left
      · exact iteDF (by rw [S_len]; omega) (iteF (ex _ _ (stop (by omega))))
      refine iteD (by rw [S_len]; omega) ?_
      refine ⟨_, rfl, _, rfl, _, _, rfl, rfl, _, _, rfl, rfl, _, rfl, ?_⟩
      by_cases h2 : e < 8
      rotate_left
      · exact iteDF (by push_cast; omega) (iteF (ex _ _ (stop (by omega))))
      refine iteD (by push_cast; omega) ?_
      obtain ⟨c, hc⟩ : ∃ c, r[e]? = some c := ⟨r[e], List.getElem?_eq_getElem h1⟩
      have hcl : l[a + e]? = some c := by rw [← hr0, List.getElem?_drop] at hc; exact hc
      have st := lets_step (n := 8) h2 hc he
      refine ⟨_, rfl, _, rfl, S l, _, c, rfl, rfl, lim_line hl, atI_nat hcl, c, rfl, _, rfl, ?_⟩
      cases hi : isL c with
      | false => exact iteF (ex _ _ (stop (by rw [st.2 hi]; omega)))
      | true =>
        refine iteT ?_
        have h3 := st.1 hi
        obtain ⟨f', rfl⟩ : ∃ f', f = f' + 1 := ⟨f - 1, by omega⟩
        refine ⟨_, rfl, _, rfl, _, rfl, _, rfl, _, _, rfl, rfl, _, rfl, S l, rfl, lim_line hl, ?_⟩
        rw [cutNN l a (a + e + 1) rfl (by push_cast; rfl), hr0, show a + e + 1 - a = e + 1 by omega, z7_tl]
        have ht : (r.take (e + 1)).length = e + 1 := by rw [List.length_take]; omega
        refine ⟨_, _, rfl, rfl, by rw [S_len, S_len, ht, sizeLine_eq]; simp; omega, ?_⟩
        rw [S_app]
        refine ⟨_, rfl, S (r.take (e + 1) ++ [122, 122, 122, 122, 122, 122, 122]), rfl, by rw [S_len, List.length_append, ht, sizeLine_eq]; simp; omega, ?_⟩
        rw [cut0N (j := 8) _ 8 rfl, pad7 _ (by omega) (by omega), ht]
        refine ⟨_, rfl, _, _, rfl, rfl, _, rfl, ?_⟩
        have e1 : (S (r.take (e + 1) ++ ZZ.drop (e + 1))).cps.toList = r.take (e + 1) ++ ZZ.drop (e + 1) := rfl
        have e2 : (S b).cps.toList = b := rfl
        rw [e1, e2]
        unfold rgo at hrc
        by_cases h4 : b < r.take (e + 1) ++ ZZ.drop (e + 1)
        · rw [if_pos ⟨by omega, h4⟩] at hrc
          exact iteD h4 ⟨_, fun _ _ z => z, _, rfl, _, _, rfl, rfl, f', by omega, e + 1, rfl, by push_cast; rfl, h3, by omega, hrc⟩
        · rw [if_neg (fun z => h4 z.2)] at hrc
          exact iteDF h4 (ex _ _ ⟨rfl, by rw [← hrc]⟩)
end Og
set_option Elab.async false
set_option linter.all false
set_option maxRecDepth 100000
set_option maxHeartbeats 4000000
namespace Og
open PySem PySem.Spec PyProof.Rows L2 TL
variable {P : Program} {w : World} {K : PySem.W.Frag} {mg : Str → Option Value} {base : Heap} {A : Str → Addr} {B : Str → FuncData}
/-! ### plain laws of entries -/
theorem lets_comma (q : List Nat) : ∀ (n : Nat) (p : List Nat), lets n (p ++ 44 :: q) = lets n p
  | 0, p => by unfold lets; rfl
  | n + 1, [] => by
    show (if isL 44 = true then lets n q + 1 else 0) = 0
    rw [if_neg (by decide)]
  | n + 1, c :: p => by
    show (if isL c = true then lets n (p ++ 44 :: q) + 1 else 0) = if isL c = true then lets n p + 1 else 0
    rw [lets_comma q n p]
theorem rgo_comma (q p b : List Nat) : ∀ (f k : Nat), rgo (p ++ 44 :: q) b f k = rgo p b f k
  | 0, k => by unfold rgo; rfl
  | f + 1, k => by
    unfold rgo
    rw [lets_comma q 8 p, rgo_comma q p b f (k + 1)]
    by_cases h : k < lets 8 p
    · have := (lets_le 8 p).2
      rw [List.take_append_of_le_length (by omega)]
    · rw [if_neg fun z => h z.1, if_neg fun z => h z.1]
theorem rc_comma (q p b : List Nat) : rc (p ++ 44 :: q) b = rc p b := by
  unfold rc
  rw [lets_comma, rgo_comma]
theorem rc_le (p b : List Nat) : rc p b ≤ lets 8 p := (rgo_le p b _ 0 (Nat.zero_le _)).1
theorem cp_comma (q : List Nat) : ∀ (p m : List Nat), 44 ∉ m → cp (p ++ 44 :: q) m = cp p m
  | [], [], _ => rfl
  | [], b :: m, h => by
    show (if 44 = b then _ else 0) = 0
    rw [if_neg fun z => h (by rw [z]; exact List.mem_cons_self)]
  | a :: p, [], _ => rfl
  | a :: p, b :: m, h => by
    show (if a = b then cp (p ++ 44 :: q) m + 1 else 0) = if a = b then cp p m + 1 else 0
    rw [cp_comma q p m fun z => h (List.mem_cons_of_mem _ z)]
theorem eS_comma (q p b : List Nat) : eS (p ++ 44 :: q) b = eS p b := by
  unfold eS
  rw [rc_comma]
  have h1 := rc_le p b
  have h2 := (lets_le 8 p).2
  rw [List.take_append_of_le_length (by omega), List.drop_append_of_le_length (by omega), cp_comma q _ CS (by decide)]
  by_cases h : cp (p.drop (rc p b)) CS = 2
  · have h3 := (cp_le (p.drop (rc p b)) CS).1
    rw [h, List.length_drop] at h3
    rw [List.drop_append_of_le_length (by omega), kS_comma q _ _ _ _ (Nat.le_refl _)]
  · rw [if_neg h, if_neg h]
theorem cp_CS (l : List Nat) : cp l CS = if l[0]? = some 58 then (if l[1]? = some 32 then 2 else 1) else 0 := by
  cases l with
  | nil => rfl
  | cons a l =>
    show (if a = 58 then cp l [32] + 1 else 0) = _
    by_cases h : a = 58
    · subst h
      cases l with
      | nil => rfl
      | cons c l =>
        show (if c = 32 then cp l [] + 1 else 0) + 1 = if some c = some 32 then 2 else 1
        by_cases h : c = 32
        · subst h
          cases l <;> rfl
        · rw [if_neg h, if_neg (by simpa using h)]
    · rw [if_neg h, if_neg (by simpa using h)]
theorem not_lt_nil (l : List Nat) : ¬ l < [] := by
  intro h
  cases h
theorem letter_at {l : List Nat} {k n : Nat} (h : k < lets n l) : ∃ c, l[k]? = some c ∧ isL c = true := by
  induction n generalizing l k with
  | zero => unfold lets at h; omega
  | succ n ih =>
    cases l with
    | nil => unfold lets at h; omega
    | cons d l =>
      unfold lets at h
      cases hd : isL d with
      | false => rw [hd] at h; simp at h
      | true =>
        rw [hd] at h
        simp at h
        cases k with
        | zero => exact ⟨d, rfl, hd⟩
        | succ k => exact ih (l := l) (k := k) (by omega)
/-- the law's reading of a piece is the program's -/
theorem leR_eS (p b : List Nat) : match leR p b with
    | none => OkE p ∧ eS p b = eP p
    | some k => (eS p b).1 = k ∧ ¬ ((eS p b).2 = true ∧ (eS p b).1 = p.length) := by
  have hle := rc_le p b
  have hll := (lets_le 8 p).2
  unfold leR
  by_cases hb : Bad p b
  · rw [if_pos hb]
    show (eS p b).1 = rc p b ∧ _
    have e : eS p b = (rc p b, false) := by
      unfold eS
      by_cases h0 : rc p b = 0 ∨ ¬ b < p.take (rc p b)
      · rw [if_pos h0]
      · rw [if_neg h0]
        have hlt : rc p b < lets 8 p := by
          rcases hb with z | z
          · exact z
          · by_cases q : rc p b < lets 8 p
            · exact q
            · have : rc p b = lets 8 p := by omega
              rw [this] at h0
              exact absurd (.inr z) h0
        obtain ⟨c, hc, hcl⟩ := letter_at hlt
        have : cp (p.drop (rc p b)) CS = 0 := by
          rw [cp_CS, List.getElem?_drop]
          rw [Nat.add_zero, hc, if_neg]
          intro z
          cases z
          exact absurd hcl (by decide)
        rw [this]
        rfl
    rw [e]
    exact ⟨rfl, fun z => absurd z.1 (by simp)⟩
  · rw [if_neg hb]
    have h1 : rc p b = lets 8 p := by
      have : ¬ rc p b < lets 8 p := fun z => hb (.inl z)
      omega
    have h2 : b < p.take (lets 8 p) := Decidable.not_not.mp fun z => hb (.inr z)
    have h0 : lets 8 p ≠ 0 := fun z => by
      rw [z] at h2
      exact not_lt_nil _ h2
    have e : eS p b = eP p := by
      unfold eS eP
      rw [h1, if_neg (show ¬ (lets 8 p = 0 ∨ ¬ b < p.take (lets 8 p)) from fun z => z.elim h0 fun q => q h2), cp_CS, List.getElem?_drop, List.getElem?_drop, Nat.add_zero]
      by_cases h3 : p[lets 8 p]? = some 58
      · rw [if_pos h3, if_neg (show ¬ (lets 8 p = 0 ∨ p[lets 8 p]? ≠ some 58) from fun z => z.elim h0 fun q => q h3)]
        by_cases h4 : p[lets 8 p + 1]? = some 32
        · simp only [if_pos h4, if_true, if_neg (fun z : p[lets 8 p + 1]? ≠ some 32 => z h4)]
        · simp only [if_neg h4, if_pos (show p[lets 8 p + 1]? ≠ some 32 from h4)]
          rfl
      · have : lets 8 p = 0 ∨ p[lets 8 p]? ≠ some 58 := .inr h3
        simp only [if_neg h3, if_pos this]
        rfl
    by_cases h3 : OkE p
    · rw [if_pos h3]
      exact ⟨h3, e⟩
    · rw [if_neg h3, e]
      exact ⟨rfl, h3⟩
theorem wd_name {p : List Nat} (h : OkE p) : wd 58 p = nameL p := by
  obtain ⟨_, h1, _⟩ := okE_at h
  have hlt := (List.getElem?_eq_some_iff.mp h1).1
  have hno := lets_all 58 (by decide) 8 p
  have key : ∀ (n : Nat) (l : List Nat), l[n]? = some 58 → (∀ k, k < n → l[k]? ≠ some 58) → wd 58 l = l.take n := by
    intro n
    induction n with
    | zero =>
      intro l h _
      cases l with
      | nil => simp at h
      | cons a l =>
        simp at h
        subst h
        unfold wd
        simp
    | succ n ih =>
      intro l h hn
      cases l with
      | nil => simp at h
      | cons a l =>
        have ha : a ≠ 58 := fun z => hn 0 (by omega) (by rw [z]; rfl)
        have := ih l (by simpa using h) fun k hk => by
          have := hn (k + 1) (by omega)
          simpa using this
        unfold wd at this ⊢
        rw [List.takeWhile_cons]
        have q : (a != 58) = true := by simpa using ha
        rw [q]
        simp only [if_true]
        rw [this]
        rfl
  exact key _ p h1 hno
/-- the law's reading of the entries of a text -/
def fS : Nat → List Nat → List Nat → Nat × Bool
  | 0, _, _ => (0, false)
  | n + 1, r, b =>
    if (eS r b).2 = false ∨ r[(eS r b).1]? ≠ some 44 ∨ wd 58 (r.take (eS r b).1) = ZZ then eS r b
    else if cp (r.drop (eS r b).1) [44, 32] < 2 then ((eS r b).1 + cp (r.drop (eS r b).1) [44, 32], false)
    else up ((eS r b).1 + 2) (fS n (r.drop ((eS r b).1 + 2)) (wd 58 (r.take (eS r b).1)))
theorem eP_le (p : List Nat) : (eP p).1 ≤ p.length := by
  have hll := lets_le 8 p
  unfold eP
  split
  · exact hll.2
  · rename_i h
    have h1 : p[lets 8 p]? = some 58 := Decidable.not_not.mp fun z => h (.inr z)
    have hlt := (List.getElem?_eq_some_iff.mp h1).1
    split
    · show lets 8 p + 1 ≤ _
      omega
    · rename_i h2
      have h2 : p[lets 8 p + 1]? = some 32 := Decidable.not_not.mp h2
      have hlt := (List.getElem?_eq_some_iff.mp h2).1
      have := (kS_free _ (p.drop (lets 8 p + 2)) [false] 0 (Nat.le_refl _)).1
      rw [List.length_drop] at this
      show lets 8 p + 2 + _ ≤ _
      omega
theorem eS_le (p b : List Nat) : (eS p b).1 ≤ p.length := by
  have hle := rc_le p b
  have hll := (lets_le 8 p).2
  unfold eS
  split
  · show rc p b ≤ _
    omega
  · have h1 := (cp_le (p.drop (rc p b)) CS).1
    rw [List.length_drop] at h1
    split
    · rename_i h2
      have := (kS_free _ (p.drop (rc p b + 2)) [false] 0 (Nat.le_refl _)).1
      rw [List.length_drop] at this
      show rc p b + 2 + _ ≤ _
      omega
    · show rc p b + _ ≤ _
      omega
/-- both readings of the entries -/
theorem fS_esR : ∀ (m n : Nat) (r b : List Nat) (c : Nat), r.length < m → r.length < n → match esR m r b c with
    | .inl k => c + (fS n r b).1 = k ∧ ¬ ((fS n r b).2 = true ∧ (fS n r b).1 = r.length)
    | .inr _ => (fS n r b).2 = true ∧ (fS n r b).1 = r.length
  | 0, _, _, _, _, h, _ => by omega
  | _, 0, _, _, _, _, h => by omega
  | m + 1, n + 1, r, b, c, hm, hn => by
    have IH := fun (r' b' : List Nat) (c' : Nat) (h1 : r'.length < m) (h2 : r'.length < n) => fS_esR m n r' b' c' h1 h2
    have hL := leR_eS (wd 44 r) b
    have hcase : (44 ∉ r ∧ r = wd 44 r) ∨ (44 ∈ r ∧ ∃ q, rs 44 r = q ∧ r = wd 44 r ++ 44 :: q) := by
      by_cases h : 44 ∈ r
      · exact .inr ⟨h, _, rfl, wd_cut 44 r h⟩
      · exact .inl ⟨h, (wd_all 44 r h).symm⟩
    have hfree := wd_free 44 r
    unfold esR fS
    generalize hp : wd 44 r = p at hL hcase hfree
    have hrs : eS r b = eS p b := by
      rcases hcase with ⟨_, e⟩ | ⟨_, q, _, e⟩
      · rw [e]
      · rw [e]; exact eS_comma _ _ _
    have hle := eS_le p b
    have hat : r[(eS p b).1]? = some 44 ↔ 44 ∈ r ∧ (eS p b).1 = p.length := by
      rcases hcase with ⟨h, e⟩ | ⟨h, q, _, e⟩
      · exact ⟨fun z => absurd (List.mem_of_getElem? z) h, fun z => absurd z.1 h⟩
      · refine ⟨fun z => ⟨h, ?_⟩, fun z => ?_⟩
        · by_cases hlt : (eS p b).1 < p.length
          · rw [e, List.getElem?_append_left hlt] at z
            exact absurd (List.mem_of_getElem? z) hfree
          · omega
        · rw [z.2, e, List.getElem?_append_right (Nat.le_refl _), Nat.sub_self]
          rfl
    have hplen : p.length ≤ r.length := by rw [← hp]; exact len_wd 44 r
    rw [hrs]
    cases hlr : leR p b with
    | some k =>
      rw [hlr] at hL
      obtain ⟨h1, h2⟩ := hL
      have hstop : (eS p b).2 = false ∨ r[(eS p b).1]? ≠ some 44 ∨ wd 58 (r.take (eS p b).1) = ZZ := by
        cases hq : (eS p b).2 with
        | false => exact .inl rfl
        | true => exact .inr (.inl fun z => h2 ⟨hq, (hat.mp z).2⟩)
      show c + (if _ then _ else _ : Nat × Bool).1 = c + k ∧ _
      rw [if_pos hstop]
      exact ⟨by rw [h1], fun z => h2 ⟨z.1, by omega⟩⟩
    | none =>
      rw [hlr] at hL
      obtain ⟨h1, h2⟩ := hL
      rw [h2, h1.2, h1.1]
      rw [h2, h1.2] at hat
      have htake : r.take p.length = p := by
        rcases hcase with ⟨_, e⟩ | ⟨_, q, _, e⟩
        · rw [← e]; exact List.take_length
        · rw [e]; simp
      rw [htake, wd_name h1]
      rcases hcase with ⟨h, e⟩ | ⟨h, q, hq, e⟩
      · show match (if 44 ∉ r then Sum.inr [(nameL p, kindL p)] else _ : EsR) with | .inl k => _ | .inr _ => _
        rw [if_pos h, if_pos (.inr (.inl fun z => h (hat.mp z).1))]
        show (eP p).2 = true ∧ (eP p).1 = r.length
        exact ⟨h1.1, by rw [h1.2, ← e]⟩
      · have hrlen : r.length = p.length + 1 + q.length := by
          have := congrArg List.length e
          rw [List.length_append, List.length_cons] at this
          omega
        have hdrop : r.drop p.length = 44 :: q := by rw [e]; simp
        show match (if 44 ∉ r then Sum.inr [(nameL p, kindL p)] else _ : EsR) with | .inl k => _ | .inr _ => _
        rw [if_neg (fun z => z h), hq]
        by_cases hz : nameL p = ZZ
        · rw [if_pos hz, if_pos (.inr (.inr hz))]
          show c + (eP p).1 = c + p.length ∧ ¬ ((eP p).2 = true ∧ (eP p).1 = r.length)
          rw [h1.2]
          exact ⟨rfl, fun z => by have := z.2; omega⟩
        · have nstop : ¬ (true = false ∨ r[p.length]? ≠ some 44 ∨ nameL p = ZZ) := by
            rintro (z | z | z)
            · cases z
            · exact z (hat.mpr ⟨h, rfl⟩)
            · exact hz z
          rw [if_neg hz, if_neg nstop, hdrop]
          have hcp : cp (44 :: q) [44, 32] = if q[0]? = some 32 then 2 else 1 := by
            show (if (44 : Nat) = 44 then cp q [32] + 1 else 0) = _
            rw [if_pos rfl]
            cases q with
            | nil => rfl
            | cons d q =>
              show (if d = 32 then cp q [] + 1 else 0) + 1 = if some d = some 32 then 2 else 1
              by_cases hd : d = 32
              · subst hd
                cases q <;> rfl
              · rw [if_neg hd, if_neg (by simpa using hd)]
          rw [hcp]
          by_cases h32 : q[0]? = some 32
          · rw [if_neg (show ¬ (q[0]? ≠ some 32) from fun z => z h32), if_pos h32, if_neg (show ¬ (2 < 2) by decide)]
            have hd2 : r.drop (p.length + 2) = q.drop 1 := by
              rw [show p.length + 2 = p.length + (1 + 1) by omega, ← List.drop_drop, hdrop]
              rfl
            have hq1 : 1 ≤ q.length := (List.getElem?_eq_some_iff.mp h32).1
            have hql : (q.drop 1).length = q.length - 1 := List.length_drop
            rw [hd2]
            have ih := IH (q.drop 1) (nameL p) (c + p.length + 2) (by omega) (by omega)
            cases he : esR m (q.drop 1) (nameL p) (c + p.length + 2) with
            | inl k =>
              rw [he] at ih
              show c + (p.length + 2 + _) = k ∧ ¬ (_ = true ∧ p.length + 2 + _ = r.length)
              exact ⟨by have := ih.1; omega, fun z => ih.2 ⟨z.1, by have := z.2; omega⟩⟩
            | inr es =>
              rw [he] at ih
              show _ = true ∧ p.length + 2 + _ = r.length
              exact ⟨ih.1, by have := ih.2; omega⟩
          · rw [if_pos (show q[0]? ≠ some 32 from h32), if_neg h32, if_pos (show 1 < 2 by decide)]
            show c + (p.length + 1) = c + p.length + 1 ∧ ¬ (false = true ∧ _)
            exact ⟨by omega, fun z => by cases z.1⟩
end Og
set_option Elab.async false
set_option linter.all false
set_option maxRecDepth 100000
set_option maxHeartbeats 4000000
namespace Og
open PySem PySem.Spec PyProof.Rows L2 TL
variable {P : Program} {w : World} {K : PySem.W.Frag} {mg : Str → Option Value} {base : Heap} {A : Str → Addr} {B : Str → FuncData}
theorem tseqIf {c : TT} {t e u : TS} {D : Ends} {σ : L2.St} {H : Hp} (h : c σ H fun b H1 => if b = true then t { D with nx := u D } σ H1 else e { D with nx := u D } σ H1) : tSeq (tIfS c t e) u D σ H := h
/-! ### split -/
theorem split_head {s : Nat} {T p x : List Nat} {y : Str} (hy : tl y = s :: T) (h256 : y.cps.all (· < 256) = true) (hp : s ∉ p) (hx : x = p ∨ ∃ rest, x = p ++ (s :: T ++ rest)) : ∃ more, Txt.split (S x) y = S p :: more := by
  have e := split_spl (S x) y (by rw [hy]; simp) (kind_ok h256)
  rw [hy, tl_S] at e
  have : ∃ more, spl (s :: T) 0 [] x = p :: more := by
    rcases hx with rfl | ⟨rest, rfl⟩
    · exact ⟨[], by rw [spl_last1 hp]; rfl⟩
    · exact ⟨_, by rw [spl_part1 hp]; rfl⟩
  obtain ⟨more, hm⟩ := this
  rw [hm] at e
  cases hs : Txt.split (S x) y with
  | nil => rw [hs] at e; cases e
  | cons a as =>
    rw [hs] at e
    injection e with e1 e2
    exact ⟨as, by rw [show a = S p from ext_tl e1]⟩
theorem split_wd (c : Nat) (l : List Nat) {y : Str} (hy : tl y = [c]) (h256 : y.cps.all (· < 256) = true) : ∃ more, Txt.split (S l) y = S (wd c l) :: more := by
  refine split_head hy h256 (wd_free c l) ?_
  by_cases h : c ∈ l
  · exact .inr ⟨rs c l, wd_cut c l h⟩
  · exact .inl (wd_all c l h).symm
/-! ### the law's scan of a first line -/
def fR (l : List Nat) : Nat × Bool := if l[6]? = some 45 then (7, true) else up 6 (fS l.length (l.drop 6) [])
def spFScan : Sp := fun vs H Q _ => ∃ l : List Nat, vs = [.str (S l)] ∧ l.length ≤ LIM ∧ 6 ≤ l.length ∧ ∀ p H', Ext H H' → H' p = some (.tup [.int ((fR l).1 : Nat), .bl (fR l).2]) → Q (.ref p) H'
abbrev N__law_first_scan : List Str := ["text", "at", "before", "lap", "end", "ends"]
abbrev P__law_first_scan : List Str := ["text"]
theorem sc__law_first_scan : FnScope N__law_first_scan P__law_first_scan (defScope s__law_first_scan) := ⟨rfl, rfl, rfl, by decide +kernel, rfl, by decide +kernel, by decide +kernel⟩
theorem ok__law_first_scan (T : Facts P K mg A B) : FnOk P w K mg base CX0 4 (A "_law_first_scan") (B "_law_first_scan") ["text"] spFScan := by
  refine T._law_first_scan.fn.ok sc__law_first_scan (fun vs H Q E h => ?_) (fun cdv Ar outer s H vs Q E hr h => ?_)
  · obtain ⟨l, rfl, _⟩ := h
    rfl
  · obtain ⟨l, rfl, hl, h6, k⟩ := h
    refine ⟨_, ((pss_cons (ps_asg (pe_tup (pa_cons pe_int (pa_cons pe_str pa_nil))) (pg_tup rfl (pgs_cons (pg_name (i := 1) sc__law_first_scan.nd rfl (Or.inl rfl)) (pgs_cons (pg_name (i := 2) sc__law_first_scan.nd rfl (Or.inl rfl)) pgs_nil))))
      (pss_cons (ps_if (pt_cmpR op_eq (pe_slice sl_str (pv 0) (po_some pe_int) (po_some pe_int)) pe_str (nomark _)) (pss_one (ps_ret (pe_tup (pa_cons pe_int (pa_cons pe_bl pa_nil))))) pss_nil)
      (pss_cons (ps_for PassesOwn.never rfl (pi_range1 rfl T.b_range (pa_cons (pe_callB call_len_str (by rfl) T.b_len PySem.boot_len (pa_cons (pv 0) pa_nil)) pa_nil)) (pg_name (i := 3) sc__law_first_scan.nd rfl (Or.inl rfl)) (pss_cons (ps_asg (pe_call (ok__law_entry_scan T) (hr.mono (by decide)) rfl T._law_entry_scan.mg T._law_entry_scan.kp T._law_entry_scan.bi .nil pass0 (pa_cons (pv 0) (pa_cons (pv 1) (pa_cons (pv 2) pa_nil)))) (pg_tup rfl (pgs_cons (pg_name (i := 4) sc__law_first_scan.nd rfl (Or.inl rfl)) (pgs_cons (pg_name (i := 5) sc__law_first_scan.nd rfl (Or.inl rfl)) pgs_nil))))
      (pss_cons (ps_set (i := 2) sc__law_first_scan.nd rfl (Or.inl rfl) (pe_ix (r := rIxL K) ix_list (pe_split (pe_slice sl_str (pv 0) (po_some (pv 1)) (po_some (pv 4))) pe_str) pe_int (fun _ _ => rfl)))
      (pss_cons (ps_if (PW.pt (pw_or (pt_not (pt_val (pv 5))) (pw_or (pt_cmpR op_ne (pe_slice sl_str (pv 0) (po_some (pv 4)) (po_some (pe_op op_add (pv 4) pe_int))) pe_str (nomark _)) (pw_or1 (pt_cmpR op_eq (pv 2) pe_str (nomark _)))))) (pss_one (ps_ret (pe_tup (pa_cons (pv 4) (pa_cons (pv 5) pa_nil))))) pss_nil)
      (pss_cons (ps_set (i := 1) sc__law_first_scan.nd rfl (Or.inl rfl) (pe_op op_add (pv 4) (pe_call (ok__law_alike T) (hr.mono (by decide)) rfl T._law_alike.mg T._law_alike.kp T._law_alike.bi .nil pass0 (pa_cons (pe_slice sl_str (pv 0) (po_some (pv 4)) (po_some (pe_op op_add (pv 4) pe_int))) (pa_cons pe_str pa_nil)))))
      (pss_one (ps_if (pt_cmpR op_lt (pv 1) (pe_op op_add (pv 4) pe_int) (nomark _)) (pss_one (ps_ret (pe_tup (pa_cons (pv 1) (pa_cons pe_bl pa_nil))))) pss_nil)))))))
      (pss_one (ps_ret (pe_tup (pa_cons (pv 1) (pa_cons pe_bl pa_nil))))))))), ?_⟩
    refine ⟨two_line, fun t0 ht0 => ⟨t0, _, rfl, SqT.of upd_same, rfl, _, _, rfl, _, _, rfl, rfl, ?_⟩⟩
    have x0 : Ext H (upd H t0 (.tup [V.int 6, V.str ""])) := Ext.new ht0
    generalize upd H t0 (.tup [V.int 6, V.str ""]) = H0 at x0
    refine ⟨_, rfl, _, rfl, _, rfl, S l, rfl, lim_line hl, ?_⟩
    rw [cutNN (i := 6) (j := 7) l 6 7 rfl rfl, dash_tl]
    refine ⟨rfl, _, rfl, ?_⟩
    rw [dec_sl]
    have kk : ∀ (R : Nat × Bool) (e : Nat) (c : Bool), fR l = R → R.1 = e → R.2 = c → ∀ p H2, Ext H H2 → H2 p = some (.tup [.int (e : Nat), .bl c]) → Q (.ref p) H2 := fun R e c q1 q2 q3 p H2 x hp => by
      refine k p H2 x ?_
      rw [q1, q2, q3]
      exact hp
    by_cases hd : l[6]? = some 45
    · exact iteD hd ⟨two_line, fun p hp => kk _ 7 true (by unfold fR; rw [if_pos hd]) rfl rfl p _ (x0.trans (Ext.new hp)) upd_same⟩
    refine iteDF hd ?_
    have hfR : fR l = up 6 (fS l.length (l.drop 6) []) := by unfold fR; rw [if_neg hd]
    generalize hKK : up 6 (fS l.length (l.drop 6) []) = KK at hfR
    refine ⟨_, rfl, S l, rfl, lim_line hl, l.length, by rw [S_len], by omega, by unfold LIM at hl; omega, ?_⟩
    refine for_range (lo := 0) (n := l.length) (fun i σ H' => ∃ a b v1 v2 v3, Ext H H' ∧ σ = [some (.str (S l)), some (.int (a : Nat)), some (.str (S b)), v1, v2, v3] ∧ 6 + 2 * i ≤ a ∧ a ≤ l.length ∧ up a (fS (l.length - i) (l.drop a) b) = KK) ⟨6, [], none, none, none, x0, by rw [emp_tl]; rfl, by omega, by omega, by rw [Nat.sub_zero]; exact hKK⟩ (fun i σ H' hi p => ?_) (fun σ H' p => ?_)
    rotate_left
    · obtain ⟨a, b, _, _, _, _, _, h1, h2, _⟩ := p
      omega
    obtain ⟨a, b, v1, v2, v3, x, rfl, ha6, hal, hrel⟩ := p
    obtain ⟨n, hn⟩ : ∃ n, l.length - i = n + 1 := ⟨l.length - i - 1, by omega⟩
    rw [hn] at hrel
    refine ⟨_, rfl, _, rfl, _, rfl, l, a, b, rfl, hl, hal, fun p H2 x2 hp => ?_⟩
    refine ⟨p, _, rfl, SqT.of hp, rfl, _, _, rfl, _, _, rfl, rfl, ?_⟩
    have hle := eS_le (l.drop a) b
    rw [List.length_drop] at hle
    generalize heS : eS (l.drop a) b = ES at hle
    have hwd : (l.drop a).take ES.1 = ((l.drop a).take ((up a ES).1 - a)) := by show _ = (l.drop a).take (a + ES.1 - a); rw [Nat.add_sub_cancel_left]
    refine ⟨_, rfl, _, rfl, _, rfl, _, rfl, _, rfl, S l, rfl, lim_line hl, ⟨_, rfl⟩, ?_⟩
    rw [cutNN l a (up a ES).1 rfl rfl, ← hwd, col_tl]
    obtain ⟨more, hm⟩ := split_wd 58 ((l.drop a).take ES.1) (y := S [58]) rfl (by decide +kernel)
    refine ⟨_, _, rfl, rfl, rfl, ?_, fun q hq => ?_⟩
    · rw [S_len, List.length_take, List.length_drop, sizeLine_eq]
      unfold LIM at hl
      omega
    rw [hm]
    refine ⟨q, _, _, V.str (S (wd 58 ((l.drop a).take ES.1))), rfl, rfl, SqL.of upd_same, atI_nat (j := 0) rfl, ?_⟩
    have x3 : Ext H (upd H2 q (.lst ((S (wd 58 ((l.drop a).take ES.1)) :: more).map V.str))) := (x.trans x2).trans (Ext.new hq)
    generalize upd H2 q (.lst ((S (wd 58 ((l.drop a).take ES.1)) :: more).map V.str)) = H3 at x3
    dsimp only [gName]
    refine tseqIf ?_
    -- the three tests
    have hget : (l.drop a)[ES.1]? = l[a + ES.1]? := List.getElem?_drop
    have hunf : fS (n + 1) (l.drop a) b = (if ES.2 = false ∨ l[a + ES.1]? ≠ some 44 ∨ wd 58 ((l.drop a).take ES.1) = ZZ then ES
      else if cp ((l.drop a).drop ES.1) [44, 32] < 2 then (ES.1 + cp ((l.drop a).drop ES.1) [44, 32], false)
      else up (ES.1 + 2) (fS n ((l.drop a).drop (ES.1 + 2)) (wd 58 ((l.drop a).take ES.1)))) := by
      conv => lhs; unfold fS
      rw [heS, hget]
    rw [hunf] at hrel
    refine or_b (!ES.2) (!decide (l[a + ES.1]? = some 44) || decide (wd 58 ((l.drop a).take ES.1) = ZZ)) (fun R z => ⟨_, rfl, _, rfl, z⟩) (fun _ R z => ?_) ?_
    · refine or_b (!decide (l[a + ES.1]? = some 44)) (decide (wd 58 ((l.drop a).take ES.1) = ZZ)) (fun R z => ?_) (fun _ R z => ?_) z
      · refine ⟨_, rfl, _, rfl, _, rfl, _, rfl, _, _, rfl, rfl, _, rfl, S l, rfl, lim_line hl, ?_⟩
        rw [cutNN (i := ((up a ES).1 : Nat)) (j := ((up a ES).1 : Nat) + 1) l (a + ES.1) (a + ES.1 + 1) rfl (by show ((a + ES.1 : Nat) : Int) + 1 = _; push_cast; rfl), show a + ES.1 + 1 - (a + ES.1) = 1 by omega, comma_tl]
        refine ⟨rfl, _, rfl, ?_⟩
        rw [dec_sl]
        exact z
      · refine ⟨_, rfl, rfl, _, rfl, ?_⟩
        rw [zz_tl]
        have : decide (V.str (S (wd 58 ((l.drop a).take ES.1))) = V.str (S ZZ)) = decide (wd 58 ((l.drop a).take ES.1) = ZZ) := by
          rw [decide_eq_decide]
          exact ⟨fun q => S_inj (V.str.inj q), fun q => by rw [q]⟩
        rw [this]
        exact z
    by_cases hstop : ES.2 = false ∨ l[a + ES.1]? ≠ some 44 ∨ wd 58 ((l.drop a).take ES.1) = ZZ
    · rw [if_pos hstop] at hrel
      refine iteB ?_ ⟨_, rfl, _, rfl, two_line, fun u hu => kk KK (a + ES.1) ES.2 hfR (by rw [← hrel]; rfl) (by rw [← hrel]; rfl) u _ (x3.trans (Ext.new hu)) upd_same⟩
      rcases hstop with z | z | z
      · rw [z]; rfl
      · rw [decide_eq_false z]; simp
      · rw [decide_eq_true z]; simp
    rw [if_neg hstop] at hrel
    have hok : ES.2 = true := by
      cases h : ES.2 with
      | true => rfl
      | false => exact absurd (.inl h) hstop
    have h44 : l[a + ES.1]? = some 44 := Decidable.not_not.mp fun z => hstop (.inr (.inl z))
    have hnz : ¬ wd 58 ((l.drop a).take ES.1) = ZZ := fun z => hstop (.inr (.inr z))
    refine iteBF (by rw [hok, decide_eq_true h44, decide_eq_false hnz]; rfl) ?_
    have hdd : (l.drop a).drop ES.1 = l.drop (a + ES.1) := by rw [List.drop_drop]
    rw [hdd] at hrel
    refine ⟨_, rfl, _, rfl, _, rfl, _, rfl, _, rfl, _, _, rfl, rfl, _, rfl, S l, rfl, lim_line hl, ?_⟩
    rw [cutNN (i := ((up a ES).1 : Nat)) (j := ((up a ES).1 : Nat) + 2) l (a + ES.1) (a + ES.1 + 2) rfl (by show ((a + ES.1 : Nat) : Int) + 2 = _; push_cast; rfl), show a + ES.1 + 2 - (a + ES.1) = 2 by omega, show (", " : Str) = S [44, 32] by decide +kernel]
    refine ⟨_, [44, 32], rfl, Nat.le_trans (List.length_take_le _ _) (by decide), by decide, ?_⟩
    rw [cp_take 2 _ _ (by decide)]
    have hc2 := cp_le (l.drop (a + ES.1)) [44, 32]
    rw [List.length_drop] at hc2
    generalize hcc : cp (l.drop (a + ES.1)) [44, 32] = cc at hrel hc2
    refine ⟨_, _, rfl, rfl, _, rfl, _, rfl, _, _, rfl, rfl, _, _, rfl, rfl, _, rfl, ?_⟩
    by_cases h2 : cc < 2
    · rw [if_pos h2] at hrel
      refine iteD (by show ((a + ES.1 : Nat) : Int) + cc < ((a + ES.1 : Nat) : Int) + 2; omega) ⟨_, rfl, two_line, fun u hu => kk KK (a + ES.1 + cc) false hfR ?_ (by rw [← hrel]; rfl) u _ (x3.trans (Ext.new hu)) ?_⟩
      · rw [← hrel]
        show a + (ES.1 + cc) = _
        omega
      · rw [upd_same]
        push_cast
        rfl
    · rw [if_neg h2, up_up] at hrel
      have hc : cc = 2 := by
        have : ([44, 32] : List Nat).length = 2 := rfl
        omega
      refine iteDF (by show ¬ ((a + ES.1 : Nat) : Int) + cc < ((a + ES.1 : Nat) : Int) + 2; omega) ⟨a + ES.1 + 2, wd 58 ((l.drop a).take ES.1), some (.int (0 + (i : Nat))), some (.int ((up a ES).1 : Nat)), some (.bl ES.2), x3, ?_, by omega, by omega, ?_⟩
      · rw [hc]
        rfl
      · rw [show l.length - (i + 1) = n by omega, ← hrel, show a + (ES.1 + 2) = a + ES.1 + 2 by omega, List.drop_drop, show a + (ES.1 + 2) = a + ES.1 + 2 by omega]
end Og
set_option Elab.async false
set_option linter.all false
set_option maxRecDepth 100000
set_option maxHeartbeats 4000000
namespace Og
open PySem PySem.Spec PyProof.Rows L2 TL
variable {P : Program} {w : World} {K : PySem.W.Frag} {mg : Str → Option Value} {base : Heap} {A : Str → Addr} {B : Str → FuncData}
theorem rgo_nil (r : List Nat) : ∀ (f k : Nat), k ≤ lets 8 r → lets 8 r ≤ k + f → rgo r [] f k = lets 8 r
  | 0, k, h1, h2 => by unfold rgo; omega
  | f + 1, k, h1, h2 => by
    have hll := (lets_le 8 r).2
    unfold rgo
    by_cases h : k < lets 8 r
    · rw [if_pos ⟨h, nil_lt (by omega) (by omega) _⟩]
      exact rgo_nil r f (k + 1) (by omega) (by omega)
    · rw [if_neg fun z => h z.1]
      omega
theorem eS_nil (p : List Nat) : eS p [] = eP p := by
  have h1 : rc p [] = lets 8 p := rgo_nil p _ 0 (Nat.zero_le _) (by omega)
  have hll := (lets_le 8 p).2
  unfold eS eP
  rw [h1]
  by_cases h0 : lets 8 p = 0
  · rw [if_pos (.inl h0), if_pos (.inl h0)]
  · have h2 : [] < p.take (lets 8 p) := by
      have := nil_lt (l := p) (n := lets 8 p) (by omega) hll []
      rwa [List.append_nil] at this
    rw [if_neg (show ¬ (lets 8 p = 0 ∨ ¬ [] < p.take (lets 8 p)) from fun z => z.elim h0 fun q => q h2), cp_CS, List.getElem?_drop, List.getElem?_drop, Nat.add_zero]
    by_cases h3 : p[lets 8 p]? = some 58
    · rw [if_pos h3, if_neg (show ¬ (lets 8 p = 0 ∨ p[lets 8 p]? ≠ some 58) from fun z => z.elim h0 fun q => q h3)]
      by_cases h4 : p[lets 8 p + 1]? = some 32
      · simp only [if_pos h4, if_true, if_neg (fun z : p[lets 8 p + 1]? ≠ some 32 => z h4)]
      · simp only [if_neg h4, if_pos (show p[lets 8 p + 1]? ≠ some 32 from h4)]
        rfl
    · have : lets 8 p = 0 ∨ p[lets 8 p]? ≠ some 58 := .inr h3
      simp only [if_neg h3, if_pos this]
      rfl
theorem wd_app {c : Nat} (q : List Nat) : ∀ {w : List Nat}, c ∉ w → wd c (w ++ c :: q) = w
  | [], _ => by unfold wd; simp
  | a :: w, h => by
    have ha : a ≠ c := fun z => h (by rw [z]; exact List.mem_cons_self)
    have := wd_app q (w := w) fun z => h (List.mem_cons_of_mem _ z)
    unfold wd at this ⊢
    rw [List.cons_append, List.takeWhile_cons]
    have qq : (a != c) = true := by simpa using ha
    rw [qq]
    simp only [if_true]
    rw [this]
theorem pre_wd (v l : List Nat) (hv : 32 ∉ v) : pre (v ++ [32]) l = decide (32 ∈ l ∧ wd 32 l = v) := by
  unfold pre
  by_cases h : 32 ∈ l ∧ wd 32 l = v
  · rw [decide_eq_true h]
    have e := wd_cut 32 l h.1
    rw [h.2] at e
    have : l.take (v ++ [32]).length = v ++ [32] := by
      conv => lhs; rw [e]
      rw [show v ++ 32 :: rs 32 l = (v ++ [32]) ++ rs 32 l by simp]
      exact List.take_left
    rw [this]
    exact beq_self_eq_true _
  · rw [decide_eq_false h]
    refine beq_false_of_ne fun z => h ?_
    have e : l = v ++ 32 :: l.drop (v ++ [32]).length := by
      have := (List.take_append_drop (v ++ [32]).length l).symm
      rw [z] at this
      rw [List.append_assoc] at this
      exact this
    refine ⟨by rw [e]; simp, ?_⟩
    conv => lhs; rw [e]
    exact wd_app _ hv
def W6 : List (List Nat) := [wName, wKind, wDrop, [108, 101, 116], [98, 97, 114], [102, 114, 101, 101]]
def EVL : List (List Nat) := W6.map (· ++ [32])
theorem evb_mem (x : List Nat) : x ∈ EVB ↔ x ∈ W6.map (· ++ [32]) := by
  simp only [EVB, W6, List.map_cons, List.map_nil, List.mem_cons, List.not_mem_nil, or_false]
  constructor <;> rintro (h | h | h | h | h | h) <;> subst h <;> simp
theorem cw_evl (l : List Nat) : cw l EVL = cw l EVB := by
  show cw l [wName ++ [32], wKind ++ [32], wDrop ++ [32], [108, 101, 116] ++ [32], [98, 97, 114] ++ [32], [102, 114, 101, 101] ++ [32]] = cw l [wName ++ [32], wDrop ++ [32], wKind ++ [32], [108, 101, 116] ++ [32], [98, 97, 114] ++ [32], [102, 114, 101, 101] ++ [32]]
  unfold cw cw cw
  omega
theorem evl_tl : ([.str "name ", .str "kind ", .str "drop ", .str "let ", .str "bar ", .str "free "] : List V) = EVL.map fun h => V.str (S h) := by decide +kernel
theorem w6_free : ∀ v ∈ W6, 32 ∉ v := by decide
theorem six_iff (l : List Nat) : six l = decide (32 ∈ l ∧ wd 32 l ∈ W6) := by
  unfold six sg
  by_cases h : 32 ∈ l
  · rw [if_pos h]
    by_cases h2 : wd 32 l ∈ W6
    · rw [decide_eq_true ⟨h, h2⟩, List.contains_iff_mem, evb_mem]
      exact List.mem_map.mpr ⟨_, h2, rfl⟩
    · rw [decide_eq_false fun z => h2 z.2]
      rw [← Bool.not_eq_true, List.contains_iff_mem, evb_mem]
      intro z
      obtain ⟨v, hv, e⟩ := List.mem_map.mp z
      exact h2 (by have := List.append_cancel_right e; rw [← this]; exact hv)
  · rw [if_neg h, decide_eq_false fun z => h z.1, List.append_nil, ← Bool.not_eq_true, List.contains_iff_mem, evb_mem]
    intro z
    obtain ⟨v, hv, e⟩ := List.mem_map.mp z
    refine wd_free 32 l ?_
    rw [← e]
    simp
theorem filt (l : List Nat) : ∀ vs : List (List Nat), (∀ v ∈ vs, 32 ∉ v) → vs.Nodup → (vs.map (· ++ [32])).filter (fun h => pre h l) = if 32 ∈ l ∧ wd 32 l ∈ vs then [wd 32 l ++ [32]] else []
  | [], _, _ => by simp
  | v :: vs, hf, hn => by
    have ih := filt l vs (fun u hu => hf u (List.mem_cons_of_mem _ hu)) (List.nodup_cons.mp hn).2
    rw [List.map_cons, List.filter_cons, ih, pre_wd v l (hf v List.mem_cons_self)]
    by_cases h : 32 ∈ l ∧ wd 32 l = v
    · have hnot : ¬ (32 ∈ l ∧ wd 32 l ∈ vs) := fun z => (List.nodup_cons.mp hn).1 (h.2 ▸ z.2)
      have hin : 32 ∈ l ∧ wd 32 l ∈ v :: vs := ⟨h.1, by rw [h.2]; exact List.mem_cons_self⟩
      rw [if_neg hnot, decide_eq_true h, if_pos rfl, if_pos hin, h.2]
    · rw [decide_eq_false h]
      simp only [Bool.false_eq_true, if_false]
      by_cases h2 : 32 ∈ l ∧ wd 32 l ∈ vs
      · rw [if_pos h2, if_pos ⟨h2.1, List.mem_cons_of_mem _ h2.2⟩]
      · rw [if_neg h2, if_neg fun z => by
          rcases List.mem_cons.mp z.2 with q | q
          · exact h ⟨z.1, q⟩
          · exact h2 ⟨z.1, q⟩]
theorem filt_ev (l : List Nat) : EVL.filter (fun h => pre h l) = if six l = true then [wd 32 l ++ [32]] else [] := by
  unfold EVL
  rw [filt l W6 w6_free (by decide), six_iff]
  simp only [decide_eq_true_eq]
/-- the faults of lines -/
def colZ {α : Type} : Nat ⊕ α → Int
  | .inl k => k
  | .inr _ => -1
def fltE (l : List Nat) : Int := colZ (evR l)
def fltF (l : List Nat) : Int := colZ (fiR l)
def flt (o : Bool) (l : List Nat) : Int := if o = true then fltF l else fltE l
def hds (o : Bool) : List (List Nat) := if o = true then [BEN] else EVL
def spFault : Sp := fun vs H Q _ => ∃ (l : List Nat) (o : Bool), vs = [.str (S l), .bl o] ∧ l.length ≤ LIM ∧ ∀ H', Ext H H' → Q (.int (flt o l)) H'
theorem nameSp_tl : ([.str "name ", .str "kind "] : List V) = [wName ++ [32], wKind ++ [32]].map fun h => V.str (S h) := by decide +kernel
theorem dropSp_tl : ("drop " : Str) = S (wDrop ++ [32]) := by decide +kernel
theorem rs_drop (l : List Nat) (v : List Nat) (h : wd 32 l = v) : l.drop (v ++ [32]).length = rs 32 l := by
  unfold rs
  rw [h]
  simp
theorem rs_len {l : List Nat} (h : 32 ∈ l) : l.length = (wd 32 l ++ [32]).length + (rs 32 l).length := by
  have := congrArg List.length (wd_cut 32 l h)
  rw [List.length_append, List.length_cons] at this
  rw [List.length_append, List.length_singleton]
  omega
theorem ends_eq {α : Type} (e n : Nat) (b : Bool) (r : Nat ⊕ α) (h1 : b = true ∧ e = n → ∃ ws, r = .inr ws) (h2 : ¬ (b = true ∧ e = n) → r = .inl e) : (if b = true ∧ e = n then (-1 : Int) else e) = colZ r := by
  by_cases q : b = true ∧ e = n
  · rw [if_pos q]
    obtain ⟨ws, hw⟩ := h1 q
    rw [hw]
    rfl
  · rw [if_neg q, h2 q]
    rfl
theorem fR_fiR {l : List Nat} (h : pre BEN l = true) : ((fR l).2 = true ∧ (fR l).1 = l.length → ∃ es, fiR l = .inr es) ∧ (¬ ((fR l).2 = true ∧ (fR l).1 = l.length) → fiR l = .inl (fR l).1) := by
  have nb : ¬ (pre BEN l = false) := by rw [h]; simp
  have hlen : 6 ≤ l.length := by
    unfold pre at h
    have := congrArg List.length (eq_of_beq h)
    rw [List.length_take] at this
    have e : BEN.length = 6 := rfl
    omega
  unfold fR
  by_cases hd : l[6]? = some 45
  · rw [if_pos hd]
    have hd0 : (l.drop 6)[0]? = some 45 := by rw [List.getElem?_drop]; exact hd
    have h7 := (List.getElem?_eq_some_iff.mp hd).1
    have h7' : l.drop 6 = 45 :: l.drop 7 := by
      obtain ⟨a, b⟩ := List.getElem?_eq_some_iff.mp hd
      rw [List.drop_eq_getElem_cons a, b]
    refine ⟨fun z => ⟨[], ?_⟩, fun z => ?_⟩
    · have hz : 7 = l.length := z.2
      have : l.drop 6 = [45] := by rw [h7', List.drop_eq_nil_of_le (by omega)]
      unfold fiR
      rw [if_neg nb, if_pos this]
    · have : ¬ l.drop 6 = [45] := fun q => z ⟨rfl, by
        have := congrArg List.length q
        rw [List.length_drop] at this
        show 7 = l.length
        simp at this
        omega⟩
      unfold fiR
      rw [if_neg nb, if_neg this, if_pos hd0]
  · rw [if_neg hd]
    have hd0 : ¬ (l.drop 6)[0]? = some 45 := by rw [List.getElem?_drop]; exact hd
    have hd1 : ¬ l.drop 6 = [45] := fun q => hd0 (by rw [q]; rfl)
    have hfi : fiR l = esR ((l.drop 6).length + 1) (l.drop 6) [] 6 := by
      unfold fiR
      rw [if_neg nb, if_neg hd1, if_neg hd0]
    have key := fS_esR ((l.drop 6).length + 1) l.length (l.drop 6) [] 6 (by omega) (by rw [List.length_drop]; omega)
    rw [hfi]
    have hl6 : (l.drop 6).length = l.length - 6 := List.length_drop
    cases he : esR ((l.drop 6).length + 1) (l.drop 6) [] 6 with
    | inl k =>
      rw [he] at key
      obtain ⟨k1, k2⟩ := key
      have a1 : ¬ ((up 6 (fS l.length (l.drop 6) [])).2 = true ∧ (up 6 (fS l.length (l.drop 6) [])).1 = l.length) := fun z => k2 ⟨z.1, by
        have e : 6 + (fS l.length (l.drop 6) []).1 = l.length := z.2
        omega⟩
      refine ⟨fun z => absurd z a1, fun _ => ?_⟩
      show Sum.inl k = Sum.inl (6 + (fS l.length (l.drop 6) []).1)
      rw [k1]
    | inr es =>
      rw [he] at key
      obtain ⟨k1, k2⟩ := key
      exact ⟨fun _ => ⟨es, rfl⟩, fun z => absurd ⟨k1, by show 6 + _ = _; omega⟩ z⟩
def gd (o : Bool) (l : List Nat) : Bool := if o = true then pre BEN l else six l
def hd0 (o : Bool) (l : List Nat) : List Nat := if o = true then BEN else wd 32 l ++ [32]
theorem hd0_ok {o : Bool} {l : List Nat} (h : gd o l = true) : PyData.strOk (S (hd0 o l)) = true := by
  cases o with
  | true => show PyData.strOk (S BEN) = true; decide +kernel
  | false =>
    have h : six l = true := h
    rw [six_iff] at h
    have hw := (of_decide_eq_true h).2
    show PyData.strOk (S (wd 32 l ++ [32])) = true
    generalize wd 32 l = v at hw
    simp only [W6, List.mem_cons, List.not_mem_nil, or_false] at hw
    rcases hw with e | e | e | e | e | e <;> subst e <;> decide +kernel
theorem filt_gd (o : Bool) (l : List Nat) : (hds o).filter (fun h => pre h l) = if gd o l = true then [hd0 o l] else [] := by
  cases o with
  | true =>
    show [BEN].filter (fun h => pre h l) = if pre BEN l = true then [BEN] else []
    rw [List.filter_cons]
    rfl
  | false => exact filt_ev l
theorem cw_mem (l : List Nat) : ∀ hs : List (List Nat), hs ≠ [] → cw l hs ∈ hs.map (cp l) ∧ ∀ h ∈ hs, cp l h ≤ cw l hs
  | [], h => absurd rfl h
  | [h], _ => by
    unfold cw cw
    simp
  | h :: h2 :: hs, _ => by
    have ih := cw_mem l (h2 :: hs) (by simp)
    unfold cw
    refine ⟨?_, fun x hx => ?_⟩
    · rw [List.map_cons]
      rcases Nat.le_total (cp l h) (cw l (h2 :: hs)) with q | q
      · rw [Nat.max_eq_right q]
        exact List.mem_cons_of_mem _ ih.1
      · rw [Nat.max_eq_left q]
        exact List.mem_cons_self
    · rcases List.mem_cons.mp hx with q | q
      · rw [q]; exact Nat.le_max_left _ _
      · exact Nat.le_trans (ih.2 x q) (Nat.le_max_right _ _)
abbrev N__law_line_fault : List Str := ["text", "is_opening", "heads", "found", "at", "end", "ends", "head"]
abbrev P__law_line_fault : List Str := ["text", "is_opening"]
theorem sc__law_line_fault : FnScope N__law_line_fault P__law_line_fault (defScope s__law_line_fault) := ⟨rfl, rfl, rfl, by decide +kernel, rfl, by decide +kernel, by decide +kernel⟩
theorem ok__law_line_fault (T : Facts P K mg A B) : FnOk P w K mg base CX0 5 (A "_law_line_fault") (B "_law_line_fault") ["text", "is_opening"] spFault := by
  refine T._law_line_fault.fn.ok sc__law_line_fault (fun vs H Q E h => ?_) (fun cdv Ar outer s H vs Q E hr h => ?_)
  · obtain ⟨l, o, rfl, _⟩ := h
    rfl
  · obtain ⟨l, o, rfl, hl, k⟩ := h
    refine ⟨_, ((pss_cons (ps_set (i := 2) sc__law_line_fault.nd rfl (Or.inl rfl) (pe_ifExp (pt_val (pv 1)) (pe_lst (pa_cons pe_str pa_nil)) (pe_lst (pa_cons pe_str (pa_cons pe_str (pa_cons pe_str (pa_cons pe_str (pa_cons pe_str (pa_cons pe_str pa_nil)))))))))
      (pss_cons (ps_setLc (i := 3) (own := [("head", 7)]) (g := gName 7) rfl sc__law_line_fault.nd rfl rfl (sw_true rfl rfl rfl (by decide +kernel)) (pi_list (pv 2)) (blkOk_by (own := [("head", 7)]) (N := N__law_line_fault) (sc := defScope s__law_line_fault) (by decide +kernel)) (fun _ _ _ _ _ => (pg_name (i := 7) sc__law_line_fault.nd rfl (Or.inl rfl))) (fun _ _ _ _ _ => (pts_one (pt_cmpR op_eq (pe_slice sl_str (pv 0) po_none (po_some (pe_callB call_len_str (by rfl) T.b_len PySem.boot_len (pa_cons (pv 7) pa_nil)))) (pv 7) (nomark _)))) (fun _ _ _ _ _ => (pv 7)))
      (pss_cons (ps_if (pt_cmpR (op_eqD hr.units) (pv 3) (pe_lst pa_nil) (nomark _)) (pss_one (ps_ret (pe_callB (cr_max rfl) (by rfl) T.b_max (by decide +kernel) (pa_cons (pe_lc (own := [("head", 7)]) (g := gName 7) (tt := tYes) rfl sc__law_line_fault.nd (pi_list (pv 2)) (blkOk_by (own := [("head", 7)]) (N := N__law_line_fault) (sc := defScope s__law_line_fault) (by decide +kernel)) (fun _ _ _ _ _ => (pg_name (i := 7) sc__law_line_fault.nd rfl (Or.inl rfl))) (fun _ _ _ _ _ => pts_nil) (fun _ _ _ _ _ => (pe_call (ok__law_alike T) (hr.mono (by decide)) rfl T._law_alike.mg T._law_alike.kp T._law_alike.bi .nil pass0 (pa_cons (pv 0) (pa_cons (pv 7) pa_nil))))) pa_nil)))) pss_nil)
      (pss_cons (ps_set (i := 4) sc__law_line_fault.nd rfl (Or.inl rfl) (pe_callB call_len_str (by rfl) T.b_len PySem.boot_len (pa_cons (pe_ix (r := rIxL K) ix_list (pv 3) pe_int (fun _ _ => rfl)) pa_nil)))
      (pss_cons (ps_if (pt_val (pv 1)) (pss_one (ps_asg (pe_call (ok__law_first_scan T) (hr.mono (by decide)) rfl T._law_first_scan.mg T._law_first_scan.kp T._law_first_scan.bi .nil pass0 (pa_cons (pv 0) pa_nil)) (pg_tup rfl (pgs_cons (pg_name (i := 5) sc__law_line_fault.nd rfl (Or.inl rfl)) (pgs_cons (pg_name (i := 6) sc__law_line_fault.nd rfl (Or.inl rfl)) pgs_nil))))) (pss_one (ps_if (pt_cmpR op_eq (pe_ix (r := rIxL K) ix_list (pv 3) pe_int (fun _ _ => rfl)) pe_str (nomark _)) (pss_cons (ps_set (i := 5) sc__law_line_fault.nd rfl (Or.inl rfl) (pv 4))
      (pss_cons (ps_while PassesOwn.never (PW.pt (pw_and (pt_cmpR op_lt (pv 5) (pe_callB call_len_str (by rfl) T.b_len PySem.boot_len (pa_cons (pv 0) pa_nil)) (nomark _)) (pw_and (pt_cmpR op_lt (pe_op op_sub (pv 5) (pv 4)) pe_int (nomark _)) (pw_and1 (pt_val (pe_call (ok__law_is_sign T) (hr.mono (by decide)) rfl T._law_is_sign.mg T._law_is_sign.kp T._law_is_sign.bi .nil pass0 (pa_cons (pe_ix ix_str (pv 0) (pv 5) (fun _ _ => rfl)) pa_nil))))))) (pss_one (ps_set (i := 5) sc__law_line_fault.nd rfl (Or.inl rfl) (pe_op op_add (pv 5) pe_int))))
      (pss_one (ps_set (i := 6) sc__law_line_fault.nd rfl (Or.inl rfl) (pe_cmpR op_gt (pv 5) (pv 4) (nomark _)))))) (pss_one (ps_asg (pe_ifExp (pt_cmpR op_in_seq (pe_ix (r := rIxL K) ix_list (pv 3) pe_int (fun _ _ => rfl)) (pe_tup (pa_cons pe_str (pa_cons pe_str pa_nil))) (by rfl)) (pe_call (ok__law_entry_scan T) (hr.mono (by decide)) rfl T._law_entry_scan.mg T._law_entry_scan.kp T._law_entry_scan.bi .nil pass0 (pa_cons (pv 0) (pa_cons (pv 4) (pa_cons pe_str pa_nil)))) (pe_call (ok__law_kind_scan T) (hr.mono (by decide)) rfl T._law_kind_scan.mg T._law_kind_scan.kp T._law_kind_scan.bi .nil pass0 (pa_cons (pv 0) (pa_cons (pv 4) pa_nil)))) (pg_tup rfl (pgs_cons (pg_name (i := 5) sc__law_line_fault.nd rfl (Or.inl rfl)) (pgs_cons (pg_name (i := 6) sc__law_line_fault.nd rfl (Or.inl rfl)) pgs_nil))))))))
      (pss_one (ps_ret (pe_ifExp (PW.pt (pw_and (pt_val (pv 6)) (pw_and1 (pt_cmpR op_eq (pv 5) (pe_callB call_len_str (by rfl) T.b_len PySem.boot_len (pa_cons (pv 0) pa_nil)) (nomark _))))) (pe_un un_neg pe_int) (pv 5)))))))))), ?_⟩
    refine seqZ (fun σ1 H1 => ∃ D, Ext H H1 ∧ H1 D = some (.lst ((hds o).map fun h => V.str (S h))) ∧ σ1 = [some (.str (S l)), some (.bl o), some (.ref D), none, none, none, none, none]) ?_ ?_
    rotate_left
    · intro ez
      refine ⟨_, rfl, _, rfl, ?_⟩
      cases o with
      | true =>
        refine iteT ⟨by rw [sizeLine_eq]; simp, fun D hD => ez _ _ ⟨D, Ext.new hD, by rw [upd_same, ben_tl]; rfl, rfl⟩⟩
      | false =>
        refine iteF ⟨by rw [sizeLine_eq]; simp, fun D hD => ez _ _ ⟨D, Ext.new hD, ?_, rfl⟩⟩
        rw [upd_same]
        exact congrArg (fun z => some (HO.lst z)) evl_tl
    rintro σ1 H1 ⟨D, x1, hD, rfl⟩
    have h6 : ∀ h ∈ hds o, h.length ≤ 6 := by cases o <;> decide
    have hn6 : (hds o).length ≤ 6 := by cases o <;> decide
    refine ⟨_, rfl, D, rfl, ⟨_, SqL.of hD⟩, fun D2 hD2 => lc_list (xs := (hds o).map fun h => V.str (S h)) (fun i H2 => Ext H1 H2 ∧ H2 D2 = some (.lst ((((hds o).take i).filter fun h => pre h l).map fun h => V.str (S h)))) ⟨Ext.new hD2, by rw [upd_same]; rfl⟩ (fun i H2 _ p => SqL.of (p.1 _ _ hD)) (fun i y H2 hy p => ?_) (fun H2 p => ?_)⟩
    · rw [List.getElem?_map] at hy
      obtain ⟨h, hh, rfl⟩ := Option.map_eq_some_iff.mp hy
      have hlen := h6 h (List.mem_of_getElem? hh)
      refine ⟨rfl, _, rfl, _, rfl, S h, rfl, lim_line (by unfold LIM; omega), _, rfl, S l, rfl, lim_line hl, ?_⟩
      rw [cut0N l h.length (by rw [S_len])]
      refine ⟨_, rfl, rfl, _, rfl, ?_⟩
      have hd : decide (V.str (S (l.take h.length)) = V.str (S h)) = pre h l := by
        unfold pre
        by_cases q : l.take h.length = h
        · rw [q, decide_eq_true rfl]
          exact (beq_self_eq_true _).symm
        · rw [decide_eq_false fun z => q (S_inj (V.str.inj z))]
          exact (beq_false_of_ne q).symm
      rw [hd]
      have hstep : (((hds o).take (i + 1)).filter fun h => pre h l) = (((hds o).take i).filter fun h => pre h l) ++ (if pre h l = true then [h] else []) := by
        rw [List.take_succ, hh, List.filter_append]
        congr 1
        simp [List.filter_cons]
      have hb : (((hds o).take i).filter fun h => pre h l).length ≤ 6 := Nat.le_trans (List.length_filter_le _ _) (by rw [List.length_take]; omega)
      cases hp : pre h l with
      | true =>
        refine iteT ⟨_, rfl, _, p.2, by rw [List.length_map, sizeLine_eq]; omega, p.1.upd hD2, ?_⟩
        rw [upd_same, hstep, hp]
        simp
      | false =>
        refine iteF ⟨p.1, ?_⟩
        rw [hstep, hp, p.2]
        simp
    obtain ⟨x2, hD2'⟩ := p
    rw [List.length_map, List.take_length] at hD2'
    have x12 := x1.trans x2
    refine ⟨_, rfl, Nat.zero_le _, fun t ht => ?_⟩
    have x3 : Ext H2 (upd H2 t (.lst [])) := Ext.new ht
    refine ⟨.list ((((hds o).filter fun h => pre h l)).map fun h => PyData.str (S h)), .list [], .lst (SqL.of (x3 _ _ hD2')) (dpAll_strs _), .lst (SqL.of upd_same) .nil, ?_, by rfl, _, rfl, ?_⟩
    · rw [filt_gd]
      cases hgg : gd o l with
      | false => rfl
      | true =>
        have hso := hd0_ok hgg
        simp [SeqAt.shaped, PyData.canLay0, PyData.canLayAll0, PyData.depth, PyData.depthAll, hso]
    rw [filt_gd] at hD2' ⊢
    have x13 := x12.trans x3
    have hD3 := x3 _ _ (x2 _ _ hD)
    have hE3 := x3 _ _ hD2'
    generalize upd H2 t (.lst []) = H3 at x3 x13 hD3 hE3
    cases hg : gd o l with
    | false =>
      refine iteT ?_
      have hfl : flt o l = (cw l (hds o) : Nat) := by
        cases o with
        | true =>
          show colZ (fiR l) = _
          have : pre BEN l = false := hg
          unfold fiR
          rw [if_pos this]
          rfl
        | false =>
          show colZ (evR l) = ((cw l EVL : Nat) : Int)
          have : six l = false := hg
          unfold evR
          rw [this, cw_evl]
          rfl
      refine ⟨_, rfl, D, rfl, ⟨_, SqL.of hD3⟩, fun D4 hD4 => lc_list (xs := (hds o).map fun h => V.str (S h)) (fun i H5 => Ext H3 H5 ∧ H5 D4 = some (.lst (((hds o).take i).map fun h => V.int (cp l h : Nat)))) ⟨Ext.new hD4, by rw [upd_same]; rfl⟩ (fun i H5 _ p => SqL.of (p.1 _ _ hD3)) (fun i y H5 hy p => ?_) (fun H5 p => ?_)⟩
      · rw [List.getElem?_map] at hy
        obtain ⟨h, hh, rfl⟩ := Option.map_eq_some_iff.mp hy
        have hlen := h6 h (List.mem_of_getElem? hh)
        refine ⟨rfl, ?_⟩
        unfold tYes
        refine iteT ⟨_, rfl, _, rfl, l, h, rfl, hl, by unfold LIM; omega, _, p.2, ?_, p.1.upd hD4, ?_⟩
        · rw [List.length_map, List.length_take, sizeLine_eq]
          omega
        · rw [upd_same, List.take_succ, hh]
          simp
      have h5 := p.2
      rw [List.length_map, List.take_length] at h5
      have hne : hds o ≠ [] := by cases o <;> decide
      obtain ⟨m1, m2⟩ := cw_mem l (hds o) hne
      refine ⟨D4, (hds o).map fun h => ((cp l h : Nat) : Int), rfl, SqL.of ?_, ?_, fun m hm hle => ?_⟩
      · rw [h5, List.map_map]
        rfl
      · rw [List.length_map]
        exact List.length_pos_iff.mpr hne
      · obtain ⟨h, hh, rfl⟩ := List.mem_map.mp hm
        have e : ((cp l h : Nat) : Int) = flt o l := by
          rw [hfl]
          have a1 := m2 h hh
          obtain ⟨h', hh', e'⟩ := List.mem_map.mp m1
          have a2 := hle ((cp l h' : Nat) : Int) (List.mem_map.mpr ⟨h', hh', rfl⟩)
          have : cp l h' = cw l (hds o) := e'
          omega
        rw [e]
        exact k H5 (x13.trans p.1)
    | true =>
      refine iteF ?_
      rw [hg] at hE3
      have hE3 : H3 D2 = some (.lst [V.str (S (hd0 o l))]) := hE3
      have hhl : (hd0 o l).length ≤ LIM + 1 := by
        cases o with
        | true => show 6 ≤ _; unfold LIM; omega
        | false =>
          show (wd 32 l ++ [32]).length ≤ _
          rw [List.length_append, List.length_singleton]
          have := len_wd 32 l
          omega
      refine ⟨_, rfl, D2, _, _, _, rfl, rfl, SqL.of hE3, atI_nat (j := 0) rfl, S (hd0 o l), rfl, by rw [S_len, sizeLine_eq]; unfold LIM at hhl; omega, ?_⟩
      dsimp only [gName]
      have hat : ((S (hd0 o l)).length : Int) = (((hd0 o l).length : Nat) : Int) := by rw [S_len]
      rw [hat]
      refine seqZ (fun σ4 H4 => ∃ (e : Nat) (b : Bool) (v7 : Option V), Ext H H4 ∧ σ4 = [some (.str (S l)), some (.bl o), some (.ref D), some (.ref D2), some (.int ((hd0 o l).length : Nat)), some (.int (e : Nat)), some (.bl b), v7] ∧ (if b = true ∧ e = l.length then (-1 : Int) else (e : Nat)) = flt o l) ?_ ?_
      · rintro σ4 H4 ⟨e, b, v7, x4, rfl, hf⟩
        refine and_b b (decide (e = l.length)) (fun R r => ⟨_, rfl, _, rfl, r⟩) (fun _ R r => ⟨_, rfl, _, rfl, S l, rfl, lim_line hl, rfl, _, rfl, ?_⟩) ?_
        · rw [S_len, show decide (V.int (e : Nat) = V.int ((l.length : Nat) : Int)) = decide (e = l.length) from by
            rw [decide_eq_decide]
            exact ⟨fun q => by have := V.int.inj q; omega, fun q => by rw [q]⟩]
          exact r
        · by_cases q : b = true ∧ e = l.length
          · rw [if_pos q] at hf
            refine iteB (by rw [q.1, decide_eq_true q.2]; rfl) ⟨_, rfl, ?_⟩
            show Q (.int (-1)) H4
            rw [hf]
            exact k H4 x4
          · rw [if_neg q] at hf
            refine iteBF ?_ ⟨_, rfl, ?_⟩
            · cases b with
              | false => rfl
              | true => rw [decide_eq_false fun z => q ⟨rfl, z⟩]; rfl
            · rw [hf]
              exact k H4 x4
      intro ez
      refine ⟨_, rfl, _, rfl, ?_⟩
      cases o with
      | true =>
        refine iteT ?_
        have hp : pre BEN l = true := hg
        obtain ⟨f1, f2⟩ := fR_fiR hp
        have hlen : 6 ≤ l.length := by
          unfold pre at hp
          have := congrArg List.length (eq_of_beq hp)
          rw [List.length_take] at this
          have e : BEN.length = 6 := rfl
          omega
        refine ⟨_, rfl, l, rfl, hl, hlen, fun p H4 x4 hp4 => ?_⟩
        refine ⟨p, _, rfl, SqT.of hp4, rfl, _, _, rfl, _, _, rfl, rfl, ?_⟩
        exact ez _ _ ⟨(fR l).1, (fR l).2, _, x13.trans x4, rfl, ends_eq _ _ _ _ f1 f2⟩
      | false =>
        refine iteF ?_
        have h6' : six l = true := hg
        have hsix := h6'
        rw [six_iff] at hsix
        obtain ⟨h32, hw6⟩ := of_decide_eq_true hsix
        have hdl : l.drop (wd 32 l ++ [32]).length = rs 32 l := rs_drop l _ rfl
        have hll := rs_len h32
        have hwl : (wd 32 l ++ [32]).length = (wd 32 l).length + 1 := by simp
        show tIfS _ _ _ _ _ _
        refine ⟨_, rfl, D2, _, _, _, rfl, rfl, SqL.of hE3, atI_nat (j := 0) rfl, rfl, _, rfl, ?_⟩
        rw [dropSp_tl]
        have hS : ∀ a b : List Nat, decide (V.str (S (a ++ [32])) = V.str (S (b ++ [32]))) = decide (a = b) := fun a b => by
          rw [decide_eq_decide]
          exact ⟨fun q => List.append_cancel_right (S_inj (V.str.inj q)), fun q => by rw [q]⟩
        have hSd : decide (V.str (S (hd0 false l)) = V.str (S (wDrop ++ [32]))) = decide (wd 32 l = wDrop) := hS _ _
        rw [hSd]
        have hat' : (hd0 false l).length = (wd 32 l).length + 1 := hwl
        have hrl : (rs 32 l).length = l.length - ((wd 32 l).length + 1) := by
          have : l.length = (wd 32 l ++ [32]).length + (rs 32 l).length := hll
          omega
        have hle : (wd 32 l).length + 1 ≤ l.length := by
          have : l.length = (wd 32 l ++ [32]).length + (rs 32 l).length := hll
          omega
        have hdl' : l.drop ((wd 32 l).length + 1) = rs 32 l := by rw [← hwl]; exact hdl
        rw [hat'] at ez ⊢
        generalize ha : (wd 32 l).length + 1 = a at *
        by_cases hdr : wd 32 l = wDrop
        · refine iteD hdr ?_
          have hnk : ¬ (wd 32 l = wName ∨ wd 32 l = wKind) := by rw [hdr]; decide
          have hev : evR l = if OkN (rs 32 l) then .inr [wd 32 l, rs 32 l] else .inl (a + lets 8 (rs 32 l)) := by
            unfold evR
            rw [h6', if_pos rfl, if_neg hnk, if_pos hdr, ha]
          have hlt8 := lets_le 8 (rs 32 l)
          refine ⟨_, rfl, ?_⟩
          dsimp only [gName]
          refine whileSZ (fun m σ5 H5 => ∃ e, H5 = H3 ∧ σ5 = [some (.str (S l)), some (.bl false), some (.ref D), some (.ref D2), some (.int (a : Nat)), some (.int ((a + e : Nat) : Int)), none, none] ∧ m = 8 - e ∧ e ≤ lets 8 (rs 32 l)) 8 ⟨0, rfl, rfl, rfl, Nat.zero_le _⟩
            (fun σ5 H5 => H5 = H3 ∧ σ5 = [some (.str (S l)), some (.bl false), some (.ref D), some (.ref D2), some (.int (a : Nat)), some (.int ((a + lets 8 (rs 32 l) : Nat) : Int)), none, none]) ?_ ?_
          · rintro σ5 H5 ⟨rfl, rfl⟩
            refine ⟨_, rfl, _, rfl, _, _, rfl, rfl, ez _ _ ⟨a + lets 8 (rs 32 l), decide ((a + lets 8 (rs 32 l) : Nat) > a), none, x13, ?_, ?_⟩⟩
            · have hde : decide (((a : Nat) : Int) < ((a + lets 8 (rs 32 l) : Nat) : Int)) = decide ((a + lets 8 (rs 32 l) : Nat) > a) := by rw [decide_eq_decide]; omega
              rw [← hde]
              rfl
            · refine ends_eq _ _ _ (evR l) (fun z => ?_) fun z => ?_
              · have h1 := of_decide_eq_true z.1
                rw [hev, if_pos ⟨by omega, by have := z.2; omega⟩]
                exact ⟨_, rfl⟩
              · rw [hev, if_neg]
                intro q
                exact z ⟨decide_eq_true (by have := q.1; omega), by have := q.2; omega⟩
          · rintro ex m σ5 H5 ⟨e, rfl, rfl, rfl, he⟩
            refine ⟨_, rfl, _, rfl, S l, rfl, lim_line hl, _, _, rfl, rfl, _, rfl, ?_⟩
            by_cases h1 : e < (rs 32 l).length
            rotate_left
            · exact iteDF (by rw [S_len]; omega) (iteF (ex _ _ ⟨rfl, by rw [lets_end (n := 8) (.inr (by omega)) he]⟩))
            refine iteD (by rw [S_len]; omega) ?_
            refine ⟨_, rfl, _, rfl, _, _, rfl, rfl, _, _, rfl, rfl, _, rfl, ?_⟩
            by_cases h2 : e < 8
            rotate_left
            · exact iteDF (by push_cast; omega) (iteF (ex _ _ ⟨rfl, by rw [lets_end (n := 8) (.inl (by omega)) he]⟩))
            refine iteD (by push_cast; omega) ?_
            obtain ⟨c, hc⟩ : ∃ c, (rs 32 l)[e]? = some c := ⟨_, List.getElem?_eq_getElem h1⟩
            have hcl : l[a + e]? = some c := by rw [← hdl', List.getElem?_drop] at hc; exact hc
            have st := lets_step (n := 8) h2 hc he
            refine ⟨_, rfl, _, rfl, S l, _, c, rfl, rfl, lim_line hl, atI_nat hcl, c, rfl, _, rfl, ?_⟩
            cases hi : isL c with
            | false => exact iteF (ex _ _ ⟨rfl, by rw [st.2 hi]⟩)
            | true => exact iteT ⟨_, fun _ _ z => z, _, rfl, _, _, rfl, rfl, 8 - (e + 1), by omega, e + 1, rfl, by push_cast; rfl, rfl, st.1 hi⟩
        · refine iteDF hdr ?_
          refine ⟨_, rfl, D2, _, _, _, rfl, rfl, SqL.of hE3, atI_nat (j := 0) rfl, two_line, fun t5 ht5 => ?_⟩
          have x5 := x13.trans (Ext.new (o := .tup [V.str "name ", V.str "kind "]) ht5)
          refine ⟨t5, _, rfl, .inr (SqT.of upd_same), rfl, rfl, _, rfl, ?_⟩
          have hin : inV (V.str (S (hd0 false l))) [V.str "name ", V.str "kind "] = decide (wd 32 l = wName ∨ wd 32 l = wKind) := by
            rw [nameSp_tl, inV_S]
            show ([wName ++ [32], wKind ++ [32]] : List (List Nat)).contains (wd 32 l ++ [32]) = _
            have q : ∀ v : List Nat, (wd 32 l ++ [32] == v ++ [32]) = decide (wd 32 l = v) := fun v => by
              by_cases e : wd 32 l = v
              · rw [e, decide_eq_true rfl]; exact beq_self_eq_true _
              · rw [decide_eq_false e]; exact beq_false_of_ne fun z => e (List.append_cancel_right z)
            simp only [List.contains_cons, q, List.contains_nil, Bool.or_false]
            rw [← Bool.decide_or]
          rw [if_neg (by decide), hin]
          generalize upd H3 t5 (.tup [V.str "name ", V.str "kind "]) = H5 at x5
          by_cases hnk : wd 32 l = wName ∨ wd 32 l = wKind
          · have hev : evR l = if OkE (rs 32 l) then .inr [wd 32 l, nameL (rs 32 l), kindL (rs 32 l)] else .inl (a + (eP (rs 32 l)).1) := by
              unfold evR
              rw [h6', if_pos rfl, if_pos hnk, ha]
            refine iteD hnk ⟨_, rfl, _, rfl, l, a, [], by rw [emp_tl]; rfl, hl, hle, fun p H6 x6 hp6 => ?_⟩
            rw [hdl', eS_nil] at hp6
            refine ⟨p, _, rfl, SqT.of hp6, rfl, _, _, rfl, _, _, rfl, rfl, ?_⟩
            refine ez _ _ ⟨(up a (eP (rs 32 l))).1, (eP (rs 32 l)).2, none, x5.trans x6, rfl, ends_eq _ _ _ (evR l) (fun z => ?_) fun z => ?_⟩
            · have e2 : a + (eP (rs 32 l)).1 = l.length := z.2
              rw [hev, if_pos ⟨z.1, by omega⟩]
              exact ⟨_, rfl⟩
            · rw [hev, if_neg]
              · rfl
              · intro q
                exact z ⟨q.1, by show a + (eP (rs 32 l)).1 = l.length; have := q.2; omega⟩
          · have hev : evR l = if OkK (rs 32 l) then .inr [wd 32 l, rs 32 l] else .inl (a + (kS (rs 32 l) [false] 0).1) := by
              unfold evR
              rw [h6', if_pos rfl, if_neg hnk, if_neg hdr, ha]
            refine iteDF hnk ⟨_, rfl, _, rfl, l, a, rfl, hl, hle, fun p H6 x6 hp6 => ?_⟩
            rw [hdl'] at hp6
            refine ⟨p, _, rfl, SqT.of hp6, rfl, _, _, rfl, _, _, rfl, rfl, ?_⟩
            refine ez _ _ ⟨(up a (kS (rs 32 l) [false] 0)).1, (kS (rs 32 l) [false] 0).2, none, x5.trans x6, rfl, ends_eq _ _ _ (evR l) (fun z => ?_) fun z => ?_⟩
            · have e2 : a + (kS (rs 32 l) [false] 0).1 = l.length := z.2
              rw [hev, if_pos ⟨z.1, by omega⟩]
              exact ⟨_, rfl⟩
            · rw [hev, if_neg]
              · rfl
              · intro q
                exact z ⟨q.1, by show a + (kS (rs 32 l) [false] 0).1 = l.length; have := q.2; omega⟩
end Og
set_option Elab.async false
set_option linter.all false
set_option maxRecDepth 100000
set_option maxHeartbeats 4000000
namespace Og
open PySem PySem.Spec PyProof.Rows L2 TL
variable {P : Program} {w : World} {K : PySem.W.Frag} {mg : Str → Option Value} {base : Heap} {A : Str → Addr} {B : Str → FuncData}
/-! ### what a line writes, by the law -/
theorem okE_row {p : List Nat} (h : OkE p) : p = nameL p ++ (58 :: [32] ++ kindL p) ∧ 58 ∉ nameL p := by
  obtain ⟨h0, h1, h2, _, _⟩ := okE_at h
  refine ⟨?_, fun z => ?_⟩
  · unfold nameL kindL
    generalize lets 8 p = n at *
    obtain ⟨a1, a2⟩ := List.getElem?_eq_some_iff.mp h1
    obtain ⟨b1, b2⟩ := List.getElem?_eq_some_iff.mp h2
    have e := List.take_append_drop n p
    rw [List.drop_eq_getElem_cons a1, a2, List.drop_eq_getElem_cons b1, b2] at e
    exact e.symm
  · obtain ⟨k, hk⟩ := List.getElem?_of_mem z
    unfold nameL at hk
    rw [List.getElem?_take] at hk
    split at hk
    · rename_i hk'
      exact lets_all 58 (by decide) 8 p k hk' hk
    · cases hk
theorem name_len {p : List Nat} (h : OkE p) : (nameL p).length = lets 8 p := by
  unfold nameL
  rw [List.length_take]
  have := (lets_le 8 p).2
  omega
def spEventOf : Sp := fun vs H Q _ => ∃ (l : List Nat) (ws : List (List Nat)), vs = [.str (S l)] ∧ l.length ≤ LIM ∧ evR l = .inr ws ∧ ∀ p H', Ext H H' → H' p = some (.tup (ws.map fun h => V.str (S h))) → Q (.ref p) H'
abbrev N__law_event_of : List Str := ["text", "word", "rest"]
abbrev P__law_event_of : List Str := ["text"]
theorem sc__law_event_of : FnScope N__law_event_of P__law_event_of (defScope s__law_event_of) := ⟨rfl, rfl, rfl, by decide +kernel, rfl, by decide +kernel, by decide +kernel⟩
theorem ok__law_event_of (T : Facts P K mg A B) : FnOk P w K mg base CX0 1 (A "_law_event_of") (B "_law_event_of") ["text"] spEventOf := by
  refine T._law_event_of.fn.ok sc__law_event_of (fun vs H Q E h => ?_) (fun cdv Ar outer s H vs Q E hr h => ?_)
  · obtain ⟨l, ws, rfl, _⟩ := h
    rfl
  · obtain ⟨l, ws, rfl, hl, hev, k⟩ := h
    refine ⟨_, ((pss_cons (ps_set (i := 1) sc__law_event_of.nd rfl (Or.inl rfl) (pe_ix (r := rIxL K) ix_list (pe_split (pv 0) pe_str) pe_int (fun _ _ => rfl)))
      (pss_cons (ps_set (i := 2) sc__law_event_of.nd rfl (Or.inl rfl) (pe_slice sl_str (pv 0) (po_some (pe_op op_add (pe_callB call_len_str (by rfl) T.b_len PySem.boot_len (pa_cons (pv 1) pa_nil)) pe_int)) po_none))
      (pss_cons (ps_if (pt_cmpR op_in_seq (pv 1) (pe_tup (pa_cons pe_str (pa_cons pe_str pa_nil))) (by rfl)) (pss_one (ps_ret (pe_tup (pa_cons (pv 1) (pa_cons (pe_ix (r := rIxL K) ix_list (pe_split (pv 2) pe_str) pe_int (fun _ _ => rfl)) (pa_cons (pe_slice sl_str (pv 2) (po_some (pe_op op_add (pe_callB call_len_str (by rfl) T.b_len PySem.boot_len (pa_cons (pe_ix (r := rIxL K) ix_list (pe_split (pv 2) pe_str) pe_int (fun _ _ => rfl)) pa_nil)) pe_int)) po_none) pa_nil)))))) pss_nil)
      (pss_one (ps_ret (pe_tup (pa_cons (pv 1) (pa_cons (pv 2) pa_nil))))))))), ?_⟩
    have lsz : ∀ x : List Nat, x.length ≤ LIM → (S x).length + 2 ≤ sizeLine := fun x h => by rw [S_len, sizeLine_eq]; unfold LIM at h; omega
    refine ⟨_, rfl, ⟨_, rfl⟩, S l, _, rfl, rfl, rfl, lsz l hl, fun p hp => ?_⟩
    obtain ⟨more, hm⟩ := split_wd 32 l (y := " ") (by rw [spc_tl]; rfl) (by decide +kernel)
    rw [hm]
    refine ⟨p, _, _, V.str (S (wd 32 l)), rfl, rfl, SqL.of upd_same, atI_nat (j := 0) rfl, ?_⟩
    have x1 : Ext H (upd H p (.lst ((S (wd 32 l) :: more).map V.str))) := Ext.new hp
    generalize upd H p (.lst ((S (wd 32 l) :: more).map V.str)) = H1 at x1
    have lw := len_wd 32 l
    have lr := len_rs 32 l
    refine ⟨_, rfl, _, rfl, S (wd 32 l), rfl, lim_line (by omega), _, _, rfl, rfl, _, rfl, S l, rfl, lim_line hl, ?_⟩
    rw [cutN l ((wd 32 l).length + 1) (by rw [S_len]; push_cast; rfl)]
    have three : 3 ≤ sizeLine := by rw [sizeLine_eq]; decide
    refine ⟨_, rfl, two_line, fun t ht => ?_⟩
    have e2 : ([V.str "name", V.str "kind"] : List V) = [wName, wKind].map fun h => V.str (S h) := by decide +kernel
    have e2' : inV (V.str (S (wd 32 l))) ([wName, wKind].map fun h => V.str (S h)) = decide (wd 32 l = wName ∨ wd 32 l = wKind) := by
      rw [inV_S]
      simp [List.contains_cons]
    refine ⟨t, _, rfl, .inr (SqT.of upd_same), rfl, rfl, _, rfl, ?_⟩
    rw [if_neg (by decide), e2, e2']
    have x2 : Ext H (upd H1 t (.tup ([wName, wKind].map fun h => V.str (S h)))) := x1.trans (Ext.new ht)
    generalize upd H1 t (.tup ([wName, wKind].map fun h => V.str (S h))) = H2 at x2
    have h6 : six l = true := by
      cases h : six l with
      | true => rfl
      | false =>
        unfold evR at hev
        rw [h] at hev
        cases hev
    unfold evR at hev
    rw [h6, if_pos rfl] at hev
    by_cases hnk : wd 32 l = wName ∨ wd 32 l = wKind
    · rw [if_pos hnk] at hev
      by_cases hok : OkE (rs 32 l)
      rotate_left
      · rw [if_neg hok] at hev; cases hev
      rw [if_pos hok] at hev
      cases hev
      obtain ⟨hrow, h58⟩ := okE_row hok
      obtain ⟨m2, hm2⟩ := split_head (x := rs 32 l) (y := ": ") (by rw [cs_tl]; rfl) (by decide +kernel) h58 (.inr ⟨_, hrow⟩)
      refine iteD hnk ⟨_, rfl, _, rfl, ⟨_, rfl⟩, S (rs 32 l), _, rfl, rfl, rfl, lsz _ (by omega), fun q hq => ?_⟩
      rw [hm2]
      refine ⟨q, _, _, V.str (S (nameL (rs 32 l))), rfl, rfl, SqL.of upd_same, atI_nat (j := 0) rfl, ?_⟩
      have x3 : Ext H (upd H2 q (.lst ((S (nameL (rs 32 l)) :: m2).map V.str))) := x2.trans (Ext.new hq)
      generalize upd H2 q (.lst ((S (nameL (rs 32 l)) :: m2).map V.str)) = H3 at x3
      have hnl := name_len hok
      have hll := lets_le 8 (rs 32 l)
      refine ⟨_, rfl, _, rfl, ⟨_, rfl⟩, S (rs 32 l), _, rfl, rfl, rfl, lsz _ (by omega), fun q2 hq2 => ⟨q2, _, _, V.str (S (nameL (rs 32 l))), rfl, rfl, SqL.of upd_same, by rw [hm2]; exact atI_nat (j := 0) rfl, S (nameL (rs 32 l)), rfl, lim_line (by omega), _, _, rfl, rfl, _, rfl, S (rs 32 l), rfl, lim_line (by omega), ?_⟩⟩
      rw [cutN (rs 32 l) (lets 8 (rs 32 l) + 2) (by rw [S_len, hnl]; push_cast; rfl)]
      exact ⟨three, fun u hu => k u _ ((x3.trans (Ext.new hq2)).trans (Ext.new hu)) upd_same⟩
    · rw [if_neg hnk] at hev
      have hws : ws = [wd 32 l, rs 32 l] := by
        split at hev
        · split at hev
          · cases hev; rfl
          · cases hev
        · split at hev
          · cases hev; rfl
          · cases hev
      subst hws
      exact iteDF hnk ⟨_, rfl, _, rfl, two_line, fun u hu => k u _ (x2.trans (Ext.new hu)) upd_same⟩
/-! ### first_of -/
def rowL (e : List Nat × List Nat) : List Nat := e.1 ++ (58 :: [32] ++ e.2)
def OkRow (e : List Nat × List Nat) : Prop := 44 ∉ rowL e ∧ 58 ∉ e.1
theorem esR_join : ∀ (m : Nat) (r b : List Nat) (c : Nat) (es : List (List Nat × List Nat)), esR m r b c = .inr es → r = joinL [44, 32] (es.map rowL) ∧ es ≠ [] ∧ ∀ e ∈ es, OkRow e
  | 0, r, b, c, es, h => by unfold esR at h; cases h
  | m + 1, r, b, c, es, h => by
    unfold esR at h
    have hL := leR_eS (wd 44 r) b
    cases hl : leR (wd 44 r) b with
    | some k => rw [hl] at h; cases h
    | none =>
      rw [hl] at h hL
      have hok := hL.1
      obtain ⟨hrow, h58⟩ := okE_row hok
      have hor : OkRow (nameL (wd 44 r), kindL (wd 44 r)) := ⟨by unfold rowL; rw [← hrow]; exact wd_free 44 r, h58⟩
      have hrl : rowL (nameL (wd 44 r), kindL (wd 44 r)) = wd 44 r := hrow.symm
      by_cases h44 : 44 ∈ r
      rotate_left
      · simp only [if_pos h44] at h
        cases h
        refine ⟨?_, by simp, fun e he => by rw [List.mem_singleton.mp he]; exact hor⟩
        show r = joinL [44, 32] [rowL _]
        rw [hrl, wd_all 44 r h44]
        rfl
      · simp only [if_neg (show ¬ (44 ∉ r) from fun z => z h44)] at h
        by_cases hz : nameL (wd 44 r) = ZZ
        · simp only [if_pos hz] at h; cases h
        · simp only [if_neg hz] at h
          by_cases h32 : (rs 44 r)[0]? = some 32
          rotate_left
          · simp only [if_pos (show (rs 44 r)[0]? ≠ some 32 from h32)] at h; cases h
          · simp only [if_neg (show ¬ ((rs 44 r)[0]? ≠ some 32) from fun z => z h32)] at h
            cases he : esR m ((rs 44 r).drop 1) (nameL (wd 44 r)) (c + (wd 44 r).length + 2) with
            | inl k => rw [he] at h; cases h
            | inr es' =>
              rw [he] at h
              cases h
              obtain ⟨i1, i2, i3⟩ := esR_join m _ _ _ es' he
              refine ⟨?_, by simp, fun e hm => ?_⟩
              · have e1 := wd_cut 44 r h44
                have e3 : rs 44 r = 32 :: (rs 44 r).drop 1 := by
                  obtain ⟨a, b⟩ := List.getElem?_eq_some_iff.mp h32
                  have := List.drop_eq_getElem_cons a
                  rw [List.drop_zero, b] at this
                  exact this
                cases es' with
                | nil => exact absurd rfl i2
                | cons x xs =>
                  show r = joinL [44, 32] (rowL _ :: rowL x :: xs.map rowL)
                  have e4 : (rs 44 r).drop 1 = joinL [44, 32] (rowL x :: xs.map rowL) := i1
                  show r = rowL _ ++ ([44, 32] ++ joinL [44, 32] (rowL x :: xs.map rowL))
                  rw [← e4, hrl]
                  conv => lhs; rw [e1, e3]
                  simp
              · rcases List.mem_cons.mp hm with q | q
                · rw [q]; exact hor
                · exact i3 e q
/-- what a first line writes -/
theorem fiR_rows {l : List Nat} {es : List (List Nat × List Nat)} (h : fiR l = .inr es) : (es = [] ∧ l = BEN ++ [45]) ∨ (es ≠ [] ∧ l = BEN ++ joinL [44, 32] (es.map rowL) ∧ l ≠ BEN ++ [45] ∧ ∀ e ∈ es, OkRow e) := by
  unfold fiR at h
  by_cases hp : pre BEN l = false
  · rw [if_pos hp] at h; cases h
  rw [if_neg hp] at h
  have hp' : pre BEN l = true := by cases q : pre BEN l with | true => rfl | false => exact absurd q hp
  have hl : l = BEN ++ l.drop 6 := by
    have := (List.take_append_drop 6 l).symm
    rw [show l.take 6 = BEN from eq_of_beq hp'] at this
    exact this
  by_cases h1 : l.drop 6 = [45]
  · rw [if_pos h1] at h
    cases h
    exact .inl ⟨rfl, by rw [h1] at hl; exact hl⟩
  rw [if_neg h1] at h
  by_cases h2 : (l.drop 6)[0]? = some 45
  · rw [if_pos h2] at h; cases h
  rw [if_neg h2] at h
  obtain ⟨a, b, c⟩ := esR_join _ _ _ _ _ h
  refine .inr ⟨b, by rw [← a]; exact hl, fun z => h1 ?_, c⟩
  rw [z]
  rfl
theorem dash2_tl : ("bench -" : Str) = S (BEN ++ [45]) := by decide +kernel
theorem com2_tl : (", " : Str) = S [44, 32] := by decide +kernel
theorem split_rows {es : List (List Nat × List Nat)} (hne : es ≠ []) (h : ∀ e ∈ es, OkRow e) : Txt.split (S (joinL [44, 32] (es.map rowL))) ", " = es.map fun e => S (rowL e) := by
  have e := split_spl (S (joinL [44, 32] (es.map rowL))) ", " (by rw [com2_tl, tl_S]; simp) (kind_ok (by decide +kernel))
  rw [com2_tl, tl_S, tl_S, spl_join (by simpa using hne) fun p hp => by
    obtain ⟨x, hx, rfl⟩ := List.mem_map.mp hp
    exact (h x hx).1] at e
  rw [com2_tl]
  refine map_tl_inj (by rw [e, List.map_map]; rfl)
def spFirstOf (K : PySem.W.Frag) : Sp := fun vs H Q _ => ∃ (l : List Nat) (es : List (List Nat × List Nat)), vs = [.str (S l)] ∧ l.length ≤ LIM ∧ es.length ≤ LIM ∧ fiR l = .inr es ∧ (∀ e ∈ es, (rowL e).length ≤ LIM) ∧ ∀ p H', Ext H H' → Dp K H' (.ref p) (firstD es) → Q (.ref p) H'
abbrev N__law_first_of : List Str := ["text", "rows", "row"]
abbrev P__law_first_of : List Str := ["text"]
theorem sc__law_first_of : FnScope N__law_first_of P__law_first_of (defScope s__law_first_of) := ⟨rfl, rfl, rfl, by decide +kernel, rfl, by decide +kernel, by decide +kernel⟩
theorem ok__law_first_of (T : Facts P K mg A B) : FnOk P w K mg base CX0 1 (A "_law_first_of") (B "_law_first_of") ["text"] (spFirstOf K) := by
  refine T._law_first_of.fn.ok sc__law_first_of (fun vs H Q E h => ?_) (fun cdv Ar outer s H vs Q E hr h => ?_)
  · obtain ⟨l, es, rfl, _⟩ := h
    rfl
  · obtain ⟨l, es, rfl, hl, hel, hfi, hrl, k⟩ := h
    refine ⟨_, ((pss_cons (ps_set (i := 1) sc__law_first_of.nd rfl (Or.inl rfl) (pe_ifExp (pt_cmpR op_eq (pv 0) pe_str (nomark _)) (pe_lst pa_nil) (pe_split (pe_slice sl_str (pv 0) (po_some pe_int) po_none) pe_str)))
      (pss_one (ps_ret (pe_tup (pa_cons pe_str (pa_cons (pe_callTy call_tuple_of (by rfl) T.b_tuple (by decide +kernel) (pa_cons (pe_lc (own := [("row", 2)]) (g := gName 2) (tt := tYes) rfl sc__law_first_of.nd (pi_list (pv 1)) (blkOk_by (own := [("row", 2)]) (N := N__law_first_of) (sc := defScope s__law_first_of) (by decide +kernel)) (fun _ _ _ _ _ => (pg_name (i := 2) sc__law_first_of.nd rfl (Or.inl rfl))) (fun _ _ _ _ _ => pts_nil) (fun _ _ _ _ _ => (pe_tup (pa_cons (pe_ix (r := rIxL K) ix_list (pe_split (pv 2) pe_str) pe_int (fun _ _ => rfl)) (pa_cons (pe_slice sl_str (pv 2) (po_some (pe_op op_add (pe_callB call_len_str (by rfl) T.b_len PySem.boot_len (pa_cons (pe_ix (r := rIxL K) ix_list (pe_split (pv 2) pe_str) pe_int (fun _ _ => rfl)) pa_nil)) pe_int)) po_none) pa_nil))))) pa_nil)) pa_nil))))))), ?_⟩
    have lsz : ∀ x : List Nat, x.length ≤ LIM → (S x).length + 2 ≤ sizeLine := fun x h => by rw [S_len, sizeLine_eq]; unfold LIM at h; omega
    refine seqZ (fun σ1 H1 => ∃ D, Ext H H1 ∧ H1 D = some (.lst (es.map fun e => V.str (S (rowL e)))) ∧ σ1 = [some (.str (S l)), some (.ref D), none]) ?_ ?_
    rotate_left
    · intro ez
      refine ⟨_, rfl, rfl, _, rfl, ?_⟩
      rcases fiR_rows hfi with ⟨rfl, h2⟩ | ⟨h1, h2, h3, h4⟩
      · exact iteD (by rw [h2, dash2_tl]) ⟨Nat.zero_le _, fun D hD => ez _ _ ⟨D, Ext.new hD, by rw [upd_same]; rfl, rfl⟩⟩
      · refine iteDF (fun z => h3 (S_inj (V.str.inj (by rw [dash2_tl] at z; exact z)))) ⟨_, rfl, _, rfl, S l, rfl, lim_line hl, ⟨_, rfl⟩, ?_⟩
        rw [cutN (i := 6) l 6 rfl]
        have hd : l.drop 6 = joinL [44, 32] (es.map rowL) := by rw [h2]; rfl
        rw [hd]
        refine ⟨_, _, rfl, rfl, rfl, ?_, fun D hD => ?_⟩
        · rw [← hd]
          exact lsz _ (by rw [List.length_drop]; omega)
        · rw [split_rows h1 h4]
          exact ez _ _ ⟨D, Ext.new hD, by rw [upd_same, List.map_map]; rfl, rfl⟩
    rintro σ1 H1 ⟨D, x1, hD, rfl⟩
    have hrows : ∀ e ∈ es, 58 ∉ e.1 := by
      rcases fiR_rows hfi with ⟨rfl, h2⟩ | ⟨h1, h2, h3, h4⟩
      · intro e he; cases he
      · exact fun e he => (h4 e he).2
    refine ⟨_, rfl, D, rfl, ⟨_, SqL.of hD⟩, fun D2 hD2 => lc_list (xs := es.map fun e => V.str (S (rowL e))) (fun i H2 => Ext H1 H2 ∧ ∃ refs, H2 D2 = some (.lst (refs.map V.ref)) ∧ Refs H2 refs (es.take i)) ⟨Ext.new hD2, [], by rw [upd_same]; rfl, trivial⟩ (fun i H2 _ p => SqL.of (p.1 _ _ hD)) (fun i y H2 hy p => ?_) (fun H2 p => ?_)⟩
    · rw [List.getElem?_map] at hy
      obtain ⟨e, he, rfl⟩ := Option.map_eq_some_iff.mp hy
      obtain ⟨x2, refs, hD2', hR⟩ := p
      have hmem := List.mem_of_getElem? he
      have hrle := hrl e hmem
      have he1 : e.1.length ≤ LIM := by
        have : (rowL e).length = e.1.length + (2 + e.2.length) := by unfold rowL; simp; omega
        omega
      obtain ⟨m2, hm2⟩ := split_head (x := rowL e) (y := ": ") (by rw [cs_tl]; rfl) (by decide +kernel) (hrows e hmem) (.inr ⟨e.2, rfl⟩)
      refine ⟨rfl, ?_⟩
      unfold tYes
      refine iteT ⟨_, rfl, ⟨_, rfl⟩, S (rowL e), _, rfl, rfl, rfl, lsz _ hrle, fun q hq => ⟨q, _, _, V.str (S e.1), rfl, rfl, SqL.of upd_same, by rw [hm2]; exact atI_nat (j := 0) rfl, ?_⟩⟩
      refine ⟨_, rfl, _, rfl, ⟨_, rfl⟩, S (rowL e), _, rfl, rfl, rfl, lsz _ hrle, fun q2 hq2 => ⟨q2, _, _, V.str (S e.1), rfl, rfl, SqL.of upd_same, by rw [hm2]; exact atI_nat (j := 0) rfl, S e.1, rfl, lim_line he1, _, _, rfl, rfl, _, rfl, S (rowL e), rfl, lim_line hrle, two_line, fun u hu => ?_⟩⟩
      rw [cutN (rowL e) (e.1.length + 2) (by rw [S_len]; push_cast; rfl)]
      have hcut : (rowL e).drop (e.1.length + 2) = e.2 := by
        unfold rowL
        rw [show e.1 ++ (58 :: [32] ++ e.2) = (e.1 ++ [58, 32]) ++ e.2 by simp, show e.1.length + 2 = (e.1 ++ [58, 32]).length by simp]
        exact List.drop_left
      rw [hcut]
      have x4 := ((Ext.new (o := .lst ((Txt.split (S (rowL e)) ": ").map V.str)) hq).trans (Ext.new (o := .lst ((Txt.split (S (rowL e)) ": ").map V.str)) hq2)).trans (Ext.new (o := .tup [V.str (S e.1), V.str (S e.2)]) hu)
      have hD4 := x4 _ _ hD2'
      generalize hH4 : upd (upd (upd H2 q (.lst ((Txt.split (S (rowL e)) ": ").map V.str))) q2 (.lst ((Txt.split (S (rowL e)) ": ").map V.str))) u (.tup [V.str (S e.1), V.str (S e.2)]) = H4 at x4 hD4
      have hu4 : H4 u = some (.tup [V.str (S e.1), V.str (S e.2)]) := by rw [← hH4, upd_same]
      have huD : u ≠ D2 := fun z => by rw [z, hD4] at hu4; cases hu4
      have hlen := hR.len
      refine ⟨_, hD4, ?_, (x2.trans x4).upd hD2, refs ++ [u], by rw [upd_same]; simp, ?_⟩
      · rw [List.length_map, hlen, List.length_take, sizeLine_eq]
        unfold LIM at hel
        omega
      · rw [List.take_succ, he]
        refine Refs.snoc (by rw [upd_ne huD]; exact hu4) (hR.mono fun b xs hb => ?_)
        have : b ≠ D2 := fun z => by rw [z, hD2'] at hb; cases hb
        rw [upd_ne this]
        exact x4 _ _ hb
    obtain ⟨x2, refs, hD2', hR⟩ := p
    rw [List.length_map, List.take_length] at hR
    refine ⟨D2, _, rfl, .inl ⟨SqL.of hD2', fun t ht => ⟨two_line, fun u hu => ?_⟩⟩⟩
    refine k u _ (((x1.trans x2).trans (Ext.new ht)).trans (Ext.new hu)) ?_
    exact .tup (SqT.of upd_same) (.cons (by rw [bench_tl]; exact .str _) (.cons (.tup (sqT_ext (Ext.new hu) (SqT.of upd_same)) (dpAll_ext ((Ext.new ht).trans (Ext.new hu)) _ _ hR.dp)) .nil))
end Og
set_option Elab.async false
set_option linter.all false
set_option maxRecDepth 100000
set_option maxHeartbeats 4000000
namespace Og
open PySem PySem.Spec PyProof.Rows L2 TL
variable {P : Program} {w : World} {K : PySem.W.Frag} {mg : Str → Option Value} {base : Heap} {A : Str → Addr} {B : Str → FuncData}
/-! ### list.count of flat things -/
theorem count_eqU {x : V} : ∀ {xs : List V} {us : List Value}, Vals xs us → xs.all flatV = true → us.countP (eqU x) = xs.countP fun y => eqV y x
  | _, _, .nil, _ => rfl
  | y :: xs, u :: us, .cons r t, f => by
    rw [List.all_cons, Bool.and_eq_true] at f
    rw [List.countP_cons, List.countP_cons, eqU_of r f.1, count_eqU t f.2]
def rCntF (K : PySem.W.Frag) : V → List V → Hp → VK → Prop := fun x xs H Q => ∃ (p : Addr) (ys : List V) (y : V), x = .ref p ∧ xs = [y] ∧ SqL K H p ys ∧ flatV y = true ∧ ys.all flatV = true ∧ Q (.int (ys.countP (fun z => eqV z y) : Nat)) H
theorem mt_lcountF {X : Cx} : MtR X "list.count" (rCntF X.K) := by
  intro pins s σ H x xs v us Q I rx rxs h
  obtain ⟨p, ys, y, rfl, rfl, hs, fy, fs, q⟩ := h
  cases rx
  obtain ⟨u, rfl, ru⟩ := rxs.one
  obtain ⟨its, rv, ⟨⟨cls, dd, data, sl⟩, n, ho, hc, hdn, hd⟩, hlen⟩ := I.list hs
  simp only at hc hd
  subst hc hd
  refine call_meets PySem.F.slot_list_count ⟨_, ho, rfl⟩ PySem.F.entry_list_count (PySem.F.args_list_count_2 _ _)
    (SeqAt.list_countAt p its.toArray n dd sl u (eqU y)) ⟨ho, fun z hz => mem_eqAt ru fy rv fs z (by simpa using hz), ?_⟩
  have ec : its.toArray.toList.countP (eqU y) = ys.countP fun z => eqV z y := count_eqU rv fs
  refine ⟨.int (ys.countP (fun z => eqV z y) : Nat), H, I.tok _, ⟨s.toks, ?_⟩, q⟩
  show Value.int ((its.toArray.toList.countP (eqU y) : Nat) : Int) s.toks = Value.int ((ys.countP (fun z => eqV z y) : Nat) : Int) s.toks
  rw [ec]
/-! ### _law_refusal -/
theorem no_tl : ("no" : Str) = S [110, 111] := by decide +kernel
def spRefusal (A : Str → Addr) : Sp := fun vs H Q _ => ∃ (a dd : Addr) (ln cl : V), vs = [.ref a] ∧ H a = some (kex a (.ref (A "InvalidText")) (some dd)) ∧ H dd = some (.xd [("column", cl), ("line", ln)]) ∧
  ∀ p H', Ext H H' → H' p = some (.tup [.str "no", .str "text", ln, cl]) → Q (.ref p) H'
theorem ite_one {c : Bool} {A B : Prop} (h : c = true) (k : A) : if c = true then A else B := iteB h k
abbrev N__law_refusal : List Str := ["error", "sorts", "families", "at"]
abbrev P__law_refusal : List Str := ["error"]
theorem sc__law_refusal : FnScope N__law_refusal P__law_refusal (defScope s__law_refusal) := ⟨rfl, rfl, rfl, by decide +kernel, rfl, by decide +kernel, by decide +kernel⟩
theorem ok__law_refusal (T : Facts P K mg A B) : FnOk P w K mg base CX0 1 (A "_law_refusal") (B "_law_refusal") ["error"] (spRefusal A) := by
  refine T._law_refusal.fn.ok sc__law_refusal (fun vs H Q E h => ?_) (fun cdv Ar outer s H vs Q E hr h => ?_)
  · obtain ⟨a, dd, ln, cl, rfl, _⟩ := h
    rfl
  · obtain ⟨a, dd, ln, cl, rfl, ha, hd, k⟩ := h
    refine ⟨_, ((pss_cons (ps_set (i := 1) sc__law_refusal.nd rfl (Or.inl rfl) (pe_lst (pa_cons (pe_callB (id := "isinstance") (r := rIsiX K) call_isiX (by rfl) T.b_isinstance (by decide +kernel) (pa_cons (pv 0) (pa_cons (pe_glob (v := .ref (A "NotUsable")) rfl T.gNU rfl) pa_nil))) (pa_cons (pe_callB (id := "isinstance") (r := rIsiX K) call_isiX (by rfl) T.b_isinstance (by decide +kernel) (pa_cons (pv 0) (pa_cons (pe_glob (v := .ref (A "InvalidEvent")) rfl T.gIE rfl) pa_nil))) (pa_cons (pe_callB (id := "isinstance") (r := rIsiX K) call_isiX (by rfl) T.b_isinstance (by decide +kernel) (pa_cons (pv 0) (pa_cons (pe_glob (v := .ref (A "NothingToUndo")) rfl T.gNT rfl) pa_nil))) pa_nil)))))
      (pss_cons (ps_set (i := 1) sc__law_refusal.nd rfl (Or.inl rfl) (pe_op op_cat (pv 1) (pe_lst (pa_cons (pe_callB (id := "isinstance") (r := rIsiX K) call_isiX (by rfl) T.b_isinstance (by decide +kernel) (pa_cons (pv 0) (pa_cons (pe_glob (v := .ref (A "Broken")) rfl T.gBr rfl) pa_nil))) (pa_cons (pe_callB (id := "isinstance") (r := rIsiX K) call_isiX (by rfl) T.b_isinstance (by decide +kernel) (pa_cons (pv 0) (pa_cons (pe_glob (v := .ref (A "InvalidText")) rfl T.gIT rfl) pa_nil))) (pa_cons (pe_callB (id := "isinstance") (r := rIsiX K) call_isiX (by rfl) T.b_isinstance (by decide +kernel) (pa_cons (pv 0) (pa_cons (pe_glob (v := .ref (A "InvalidRow")) rfl T.gIR rfl) pa_nil))) pa_nil))))))
      (pss_cons (ps_set (i := 2) sc__law_refusal.nd rfl (Or.inl rfl) (pe_lst (pa_cons (pe_callB (id := "isinstance") (r := rIsiX K) call_isiX (by rfl) T.b_isinstance (by decide +kernel) (pa_cons (pv 0) (pa_cons (pe_glob (v := .ref (A "BookError")) rfl T.gBo rfl) pa_nil))) (pa_cons (pe_callB (id := "isinstance") (r := rIsiX K) call_isiX (by rfl) T.b_isinstance (by decide +kernel) (pa_cons (pv 0) (pa_cons (pe_glob (v := .ref (A "BenchError")) rfl T.gBe rfl) pa_nil))) (pa_cons (pe_callB (id := "isinstance") (r := rIsiX K) call_isiX (by rfl) T.b_isinstance (by decide +kernel) (pa_cons (pv 0) (pa_cons (pe_glob (v := .ref (A "TextError")) rfl T.gTe rfl) pa_nil))) pa_nil)))))
      (pss_cons (ps_set (i := 3) sc__law_refusal.nd rfl (Or.inl rfl) (pe_ifExp (pt_cmpR op_eq (pe_bm PySem.F.plainAttrs_list PySem.F.slot_list_count PySem.F.type_list_count mt_lcountF (pv 1) (pa_cons pe_bl pa_nil)) pe_int (nomark _)) (pe_bm PySem.F.plainAttrs_list PySem.F.slot_list_index PySem.F.type_list_index mt_index (pv 1) (pa_cons pe_bl pa_nil)) pe_int))
      (pss_cons (ps_if (PW.pt (pw_or (pt_cmpR op_eq (pv 3) pe_int (nomark _)) (pw_or (pt_val (pe_callB (id := "isinstance") (r := rIsiX K) call_isiX (by rfl) T.b_isinstance (by decide +kernel) (pa_cons (pv 0) (pa_cons (pe_glob (v := .ref (A "PaperError")) rfl T.gPa rfl) pa_nil)))) (pw_or1 (pt_not (pt_val (pe_callB (id := "isinstance") (r := rIsiX K) call_isiX (by rfl) T.b_isinstance (by decide +kernel) (pa_cons (pv 0) (pa_cons (pe_bltn (v := .ty "ValueError") (by rfl) T.b_ValueError (by decide +kernel) rfl) pa_nil))))))))) (pss_one (ps_ret (pe_tup (pa_cons pe_str (pa_cons pe_str pa_nil))))) pss_nil)
      (pss_cons (ps_if (pt_cmpR (op_neD hr.units) (pv 2) (pe_lst (pa_cons (pe_cmpR op_eq (pv 3) pe_int (nomark _)) (pa_cons (pe_cmpR op_in_seq (pv 3) (pe_tup (pa_cons pe_int (pa_cons pe_int (pa_cons pe_int pa_nil)))) (by rfl)) (pa_cons (pe_cmpR op_gt (pv 3) pe_int (nomark _)) pa_nil)))) (nomark _)) (pss_one (ps_ret (pe_tup (pa_cons pe_str (pa_cons pe_str pa_nil))))) pss_nil)
      (pss_cons (ps_if (pt_cmpR op_eq (pv 3) pe_int (nomark _)) (pss_one (ps_ret (pe_tup (pa_cons pe_str (pa_cons pe_str (pa_cons (pe_xk (pv 0)) (pa_cons (pe_xk (pv 0)) pa_nil))))))) pss_nil)
      (pss_cons (ps_if (pt_cmpR op_eq (pv 3) pe_int (nomark _)) (pss_one (ps_ret (pe_tup (pa_cons pe_str (pa_cons pe_str (pa_cons (pe_xk (pv 0)) (pa_cons (pe_xk (pv 0)) pa_nil))))))) pss_nil)
      (pss_cons (ps_if (pt_cmpR op_lt (pv 3) pe_int (nomark _)) (pss_one (ps_ret (pe_ifExp (pt_cmpR op_eq (pv 3) pe_int (nomark _)) (pe_tup (pa_cons pe_str (pa_cons pe_str (pa_cons (pe_xk (pv 0)) pa_nil)))) (pe_tup (pa_cons pe_str (pa_cons pe_str (pa_cons (pe_xk (pv 0)) pa_nil))))))) pss_nil)
      (pss_one (ps_ret (pe_ifExp (pt_cmpR op_eq (pv 3) pe_int (nomark _)) (pe_tup (pa_cons pe_str (pa_cons pe_str (pa_cons (pe_xk (pv 0)) (pa_cons (pe_xk (pv 0)) pa_nil))))) (pe_tup (pa_cons pe_str (pa_cons pe_str (pa_cons (pe_xk (pv 0)) pa_nil))))))))))))))))), ?_⟩
    have x0 := Ext.refl H
    have z3 : 3 ≤ sizeLine := by rw [sizeLine_eq]; decide
    refine ⟨_, rfl, a, _, dd, _, _, _, _, rfl, (x0) _ _ ha, (x0) _ _ hd, T.ex, .own _, T.kNU, _, rfl, a, _, dd, _, _, _, _, rfl, (x0) _ _ ha, (x0) _ _ hd, T.ex, .own _, T.kIE, _, rfl, a, _, dd, _, _, _, _, rfl, (x0) _ _ ha, (x0) _ _ hd, T.ex, .own _, T.kNT, z3, fun l1 h1 => ?_⟩
    have x1 : Ext H (upd H l1 (.lst [V.bl false, V.bl false, V.bl false])) := Ext.new h1
    refine ⟨_, rfl, _, rfl, a, _, dd, _, _, _, _, rfl, (x1) _ _ ha, (x1) _ _ hd, T.ex, .own _, T.kBr, _, rfl, a, _, dd, _, _, _, _, rfl, (x1) _ _ ha, (x1) _ _ hd, T.ex, .own _, T.kIT, _, rfl, a, _, dd, _, _, _, _, rfl, (x1) _ _ ha, (x1) _ _ hd, T.ex, .own _, T.kIR, z3, fun l2 h2 => ?_⟩
    have x2 := x1.trans (Ext.new (o := .lst [V.bl false, V.bl true, V.bl false]) h2)
    have n21 : l1 ≠ l2 := fun z => by rw [← z, upd_same] at h2; cases h2
    refine ⟨l1, l2, _, _, rfl, rfl, by rw [upd_ne n21]; exact upd_same, upd_same, by show 6 ≤ sizeLine; rw [sizeLine_eq]; decide, fun l3 h3 => ?_⟩
    have x3 := x2.trans (Ext.new (o := .lst ([V.bl false, V.bl false, V.bl false] ++ [V.bl false, V.bl true, V.bl false])) h3)
    refine ⟨_, rfl, a, _, dd, _, _, _, _, rfl, (x3) _ _ ha, (x3) _ _ hd, T.ex, .own _, T.kBo, _, rfl, a, _, dd, _, _, _, _, rfl, (x3) _ _ ha, (x3) _ _ hd, T.ex, .own _, T.kBe, _, rfl, a, _, dd, _, _, _, _, rfl, (x3) _ _ ha, (x3) _ _ hd, T.ex, .own _, T.kTe, z3, fun l4 h4 => ?_⟩
    have x34 := Ext.new (o := .lst [V.bl false, V.bl false, V.bl true]) h4
    have x4 := x3.trans x34
    have hs4 := x34 l3 _ upd_same
    have hf4 : upd (upd (upd (upd H l1 (.lst [V.bl false, V.bl false, V.bl false])) l2 (.lst [V.bl false, V.bl true, V.bl false])) l3 (.lst ([V.bl false, V.bl false, V.bl false] ++ [V.bl false, V.bl true, V.bl false]))) l4 (.lst [V.bl false, V.bl false, V.bl true]) l4 = some (.lst [V.bl false, V.bl false, V.bl true]) := upd_same
    generalize upd (upd (upd (upd H l1 (.lst [V.bl false, V.bl false, V.bl false])) l2 (.lst [V.bl false, V.bl true, V.bl false])) l3 (.lst ([V.bl false, V.bl false, V.bl false] ++ [V.bl false, V.bl true, V.bl false]))) l4 (.lst [V.bl false, V.bl false, V.bl true]) = H4 at x4 hs4 hf4
    refine ⟨_, rfl, .inl ⟨rfl, _, SqL.of hs4⟩, l3, _, V.bl true, rfl, rfl, SqL.of hs4, rfl, rfl, rfl, _, rfl, iteD rfl ?_⟩
    refine ⟨_, rfl, .inl ⟨rfl, _, SqL.of hs4⟩, l3, _, V.bl true, 4, V.bl true, rfl, rfl, SqL.of hs4, rfl, rfl, rfl, rfl, ?_, ?_⟩
    · intro m z hm hz
      have : m = 0 ∨ m = 1 ∨ m = 2 ∨ m = 3 := by omega
      rcases this with rfl | rfl | rfl | rfl <;> (cases hz; rfl)
    dsimp only [gName]
    refine tseqIf ?_
    refine or_b (decide ((4 : Int) = 6)) (false || !true) (fun R r => ⟨_, rfl, rfl, _, rfl, r⟩) (fun _ R r => ?_) (iteF ?_)
    · refine or_b false (!true) (fun R r => ⟨_, rfl, a, _, dd, _, _, _, _, rfl, (x4) _ _ ha, (x4) _ _ hd, T.ex, .own _, T.kPa, _, rfl, r⟩) (fun _ R r => ⟨_, rfl, a, _, dd, _, _, _, _, rfl, (x4) _ _ ha, (x4) _ _ hd, T.ex, .ty _, T.kVE, _, rfl, r⟩) r
    refine ⟨_, rfl, _, rfl, rfl, _, rfl, z3, fun l5 h5 => ⟨l5, _, rfl, .inr (SqT.of upd_same), rfl, rfl, _, rfl, _, _, rfl, rfl, z3, fun l6 h6 => ?_⟩⟩
    have x56 := (Ext.new (o := .tup [V.int 1, V.int 2, V.int 3]) h5).trans (Ext.new (o := .lst [V.bl false, V.bl false, V.bl true]) h6)
    have hf6 := x56 _ _ hf4
    have x6 := x4.trans x56
    have hl6 : upd (upd H4 l5 (.tup [V.int 1, V.int 2, V.int 3])) l6 (.lst [V.bl false, V.bl false, V.bl true]) l6 = some (.lst [V.bl false, V.bl false, V.bl true]) := upd_same
    refine ⟨.list [.bool false, .bool false, .bool true], .list [.bool false, .bool false, .bool true], .lst (SqL.of hf6) (.cons (.bl _) (.cons (.bl _) (.cons (.bl _) .nil))), .lst (SqL.of hl6) (.cons (.bl _) (.cons (.bl _) (.cons (.bl _) .nil))), by rfl, by rfl, _, rfl, iteF ?_⟩
    refine ⟨_, rfl, rfl, _, rfl, iteDF (by simp) ⟨_, rfl, rfl, _, rfl, iteDF (by simp) ⟨_, rfl, _, _, rfl, rfl, _, rfl, iteDF (by simp) ⟨_, rfl, rfl, _, rfl, iteD rfl ?_⟩⟩⟩⟩
    exact ⟨_, rfl, a, _, dd, _, _, rfl, x6 _ _ ha, x6 _ _ hd, T.xf, T.n1, rfl, _, rfl, a, _, dd, _, _, rfl, x6 _ _ ha, x6 _ _ hd, T.xf, T.n2, rfl, by show 4 ≤ sizeLine; rw [sizeLine_eq]; decide, fun u hu => k u _ (x6.trans (Ext.new hu)) upd_same⟩
end Og
set_option Elab.async false
set_option linter.all false
set_option maxRecDepth 100000
set_option maxHeartbeats 4000000
namespace Og
open PySem PySem.Spec PyProof.Rows L2 TL
variable {P : Program} {w : World} {K : PySem.W.Frag} {mg : Str → Option Value} {base : Heap} {A : Str → Addr} {B : Str → FuncData}
abbrev N__law_said : List Str := ["ask", "found", "error"]
abbrev P__law_said : List Str := ["ask"]
theorem sc__law_said : FnScope N__law_said P__law_said (defScope s__law_said) := ⟨rfl, rfl, rfl, by decide +kernel, rfl, by decide +kernel, by decide +kernel⟩
/-- what _law_said makes of what its lambda does -/
def ESaid (K : PySem.W.Frag) (A : Str → Addr) (Q : VK) : XK := fun cls d H' => PySem.W.exmOne K cls (.ref (A "GivenError")) = some true ∧ ∀ a, H' a = none → spRefusal A [.ref a] (upd H' a (kex a cls d)) Q E0
def QSaid (Q : VK) : VK := fun v H' => ([V.str "told", v] : List V).length ≤ sizeLine ∧ ∀ p, H' p = none → Q (.ref p) (upd H' p (.tup [V.str "told", v]))
def TTSaid (K : PySem.W.Frag) (A : Str → Addr) : (XK → Hp → VK → Prop) → Hp → VK → Prop := fun tl H Q => tl (ESaid K A Q) H (QSaid Q)
theorem takes_len {X : Cx} {W : WX} (tk : Takes X W) : Takes X (fun cls d σ H => σ.length = X.N.length → W cls d σ H) := fun u s' xx => by
  obtain ⟨a, B, sI, pins, σ, H, cls, d, e, I, nb, up, sky, na, os, ag, w⟩ := xx
  exact tk u s' ⟨a, B, sI, pins, σ, H, cls, d, e, I, nb, up, sky, na, os, ag, w I.len⟩
theorem said_gives {X : Cx} {q : Str} {cdg : Value} {k : Nat} (T : Facts X.prog X.K X.mg A B) (hr : Room (k + 2) X.A) : LamX.GivesTo X N__law_said "_law_said" (defScope s__law_said) (A "_law_said") cdg (defBody s__law_said) "ask" q (TTSaid X.K A) := by
  intro f c' s H Q tl act hc h
  have hr2 : Room (k + 1) (X.A.deeper (envOfC "_law_said" (defScope s__law_said) s.heap.objs.size (A "_law_said") cdg)) := hr.deeper _
  refine ⟨_, pss_cons (ps_set (i := 1) sc__law_said.nd rfl (Or.inl rfl) pe_non)
    (pss_cons (ps_try_keep (X := (cxOf C8.CX0 X.prog X.w X.K X.mg X.base N__law_said "_law_said" (defScope s__law_said) (A "_law_said") cdg X.A X.stack s H C8.E0).nox) (i := 2) (j := 1) (c := .ref (A "GivenError"))
      (tb := fun W D σ H => ∃ Ech : XK, (∀ cls d σ' H', Ech cls d H' → σ'.length = 3 → W cls d σ' H') ∧ σ[0]? = some (some (.ref f)) ∧ H c' = some (LamX.CodeO c' q) ∧ tl Ech H (QSaid D.rt))
      rfl rfl rfl sc__law_said.nd rfl rfl rfl rfl ⟨rfl, by decide, .inl T.gGE⟩ (fun W pn xe tk _ => ?_))
    (pss_one (ps_ret (pe_call (ok__law_refusal T) (hr2.mono (by omega)) rfl T._law_refusal.mg T._law_refusal.kp T._law_refusal.bi .nil pass0 (pa_cons (pv 1) pa_nil))))), ?_⟩
  · refine ⟨fun pins s' σ H' D I h' => ?_⟩
    obtain ⟨Ech, hW, h1, h2, h3⟩ := h'
    exact PSs.run (pss_one (ps_ret (pe_tup (pa_cons pe_str (pa_cons (act (fun cls d σ H => σ.length = 3 → W cls d σ H) pn xe Ech _ _ (takes_len tk) hW) pa_nil))))) pins s' σ H' D I ⟨h1, h2, h3⟩
  · refine ⟨ESaid X.K A Q, fun cls d σ' H' hE hl => ⟨hE.1, fun a na => ?_⟩, rfl, hc, h⟩
    refine ⟨.ref a, ?_, hE.2 a na⟩
    obtain ⟨x, y, z, rfl⟩ : ∃ x y z, σ' = [x, y, z] := by
      cases σ' with
      | nil => cases hl
      | cons x t =>
        cases t with
        | nil => cases hl
        | cons y t =>
          cases t with
          | nil => cases hl
          | cons z t =>
            cases t with
            | nil => exact ⟨x, y, z, rfl⟩
            | cons _ _ => simp at hl
    rfl
end Og
set_option Elab.async false
set_option linter.all false
set_option maxRecDepth 100000
set_option maxHeartbeats 4000000
namespace Og
open PySem PySem.Spec PyProof.Rows L2 TL
variable {P : Program} {w : World} {K : PySem.W.Frag} {mg : Str → Option Value} {base : Heap} {A : Str → Addr} {B : Str → FuncData}
/-! ### data that repr shows -/
structure Gd (n k : Nat) (d : PyData) : Prop where
  lay : d.canLay0 = true
  dp : d.depth ≤ k
  wt : d.weight ≤ n
  sh : d.intsShort 13 = true
  hd : d.hasDict = false
  sw : d.showable = true
structure GdAll (n k : Nat) (ds : List PyData) : Prop where
  lay : PyData.canLayAll0 ds = true
  dp : PyData.depthAll ds ≤ k
  wt : PyData.weightAll ds ≤ n
  sh : PyData.intsShortAll 13 ds = true
  hd : PyData.hasDictAll ds = false
  sw : PyData.showableAll ds = true
theorem Gd.mono {n n' k k' : Nat} {d : PyData} (g : Gd n k d) (h : n ≤ n') (h2 : k ≤ k') : Gd n' k' d := ⟨g.lay, Nat.le_trans g.dp h2, Nat.le_trans g.wt h, g.sh, g.hd, g.sw⟩
theorem GdAll.nil {k : Nat} : GdAll 0 k [] := ⟨rfl, Nat.zero_le _, Nat.le_refl _, rfl, rfl, rfl⟩
theorem GdAll.cons {n m k : Nat} {d : PyData} {ds : List PyData} (g : Gd n k d) (h : GdAll m k ds) : GdAll (n + 1 + m) k (d :: ds) := by
  refine ⟨?_, ?_, ?_, ?_, ?_, ?_⟩
  · rw [PyData.canLayAll0, g.lay, h.lay]; rfl
  · rw [PyData.depthAll]; exact Nat.max_le.mpr ⟨g.dp, h.dp⟩
  · rw [PyData.weightAll]; have := g.wt; have := h.wt; omega
  · rw [PyData.intsShortAll, g.sh, h.sh]; rfl
  · rw [PyData.hasDictAll, g.hd, h.hd]; rfl
  · rw [PyData.showableAll, g.sw, h.sw]; rfl
theorem GdAll.mono {n n' k : Nat} {ds : List PyData} (g : GdAll n k ds) (h : n ≤ n') : GdAll n' k ds := ⟨g.lay, g.dp, Nat.le_trans g.wt h, g.sh, g.hd, g.sw⟩
theorem Gd.tup {n k : Nat} {ds : List PyData} (g : GdAll n k ds) : Gd n (k + 1) (.tuple ds) := by
  refine ⟨?_, ?_, ?_, ?_, ?_, ?_⟩
  · rw [PyData.canLay0]; exact g.lay
  · rw [PyData.depth]; exact Nat.succ_le_succ g.dp
  · rw [PyData.weight]; exact g.wt
  · rw [PyData.intsShort]; exact g.sh
  · rw [PyData.hasDict]; exact g.hd
  · rw [PyData.showable]; exact g.sw
/-- signs that there are -/
def OkC (l : List Nat) : Prop := ∀ c ∈ l, c < 1114112
theorem Gd.str {l : List Nat} {k : Nat} (h : OkC l) : Gd l.length k (.str (S l)) := by
  refine ⟨?_, Nat.zero_le _, ?_, rfl, rfl, rfl⟩
  · rw [PyData.canLay0]
    unfold PyData.strOk
    show (l.toArray).all _ = true
    rw [List.all_toArray, List.all_eq_true]
    intro c hc
    exact decide_eq_true (h c hc)
  · rw [PyData.weight]
    show l.toArray.size ≤ _
    simp
theorem Gd.int {i k : Nat} (h : i < 10000000) : Gd 24 k (.int (i : Nat)) := by
  have hlog : i.log2 < 24 := by
    by_cases h0 : i = 0
    · subst h0; decide
    · exact (Nat.log2_lt h0).mpr (by omega)
  refine ⟨rfl, Nat.zero_le _, ?_, ?_, rfl, ?_⟩
  · rw [PyData.weight]
    split
    · omega
    · show ((i : Int).natAbs).log2 + 1 ≤ 24
      rw [Int.natAbs_natCast]
      omega
  · rw [PyData.intsShort]
    refine decide_eq_true ?_
    rw [PyData.shown]
    have e := tl_num i
    have : (Str.ofString (toString ((i : Nat) : Int))).length = (numL i).length := by rw [len_tl, e]
    show (Str.ofString (toString ((i : Nat) : Int))).length ≤ 13
    rw [this]
    have := numL_len (n := i) (k := 7) (by decide) (by omega)
    omega
  · rw [PyData.showable]
    refine decide_eq_true ?_
    rw [Int.natAbs_natCast]
    omega
theorem Gd.len {n k : Nat} {d : PyData} (g : Gd n k d) (hn : n ≤ 1048576) (hk : k ≤ 40) : d.depth ≤ 40 ∧ d.shown.length ≤ sizeLine := by
  have h1 := g.dp
  have h2 := g.wt
  refine ⟨by omega, ?_⟩
  have hl : d.layable0 = true := by
    unfold PyData.layable0
    rw [g.lay, decide_eq_true (by omega : d.depth ≤ 64), decide_eq_true (by omega : d.weight ≤ 2 ^ 20)]
    rfl
  have := shown_le13 hl g.sh
  rw [sizeLine_eq]
  omega
theorem told_tl : ("told" : Str) = S [116, 111, 108, 100] := by decide +kernel
theorem text_tl : ("text" : Str) = S [116, 101, 120, 116] := by decide +kernel
def toldD (d : PyData) : PyData := .tuple [.str "told", d]
def noD (i k : Nat) : PyData := .tuple [.str "no", .str "text", .int (i : Nat), .int (k : Nat)]
theorem told_gd {n k : Nat} {d : PyData} (g : Gd n k d) : Gd (n + 10) (k + 1) (toldD d) := by
  unfold toldD
  rw [told_tl]
  exact (Gd.tup (.cons (Gd.str (by unfold OkC; decide)) (.cons g .nil))).mono (by simp; omega) (Nat.le_refl _)
theorem no_gd {i k : Nat} (hi : i < 10000000) (hk : k < 10000000) : Gd 100 1 (noD i k) := by
  unfold noD
  rw [no_tl, text_tl]
  exact (Gd.tup (.cons (Gd.str (by unfold OkC; decide)) (.cons (Gd.str (by unfold OkC; decide)) (.cons (Gd.int hi) (.cons (Gd.int hk) .nil))))).mono (by simp) (Nat.le_refl _)
/-! ### pieces -/
theorem OkC.sub {l m : List Nat} (h : OkC l) (s : ∀ c ∈ m, c ∈ l) : OkC m := fun c hc => h c (s c hc)
theorem mem_wd {c d : Nat} {l : List Nat} (h : c ∈ wd d l) : c ∈ l := (List.takeWhile_prefix _).subset h
theorem mem_rs {c d : Nat} {l : List Nat} (h : c ∈ rs d l) : c ∈ l := List.mem_of_mem_drop h
theorem strs_gd {k m : Nat} : ∀ ws : List (List Nat), (∀ h ∈ ws, h.length ≤ m ∧ OkC h) → GdAll (ws.length * (m + 1)) k (ws.map fun h => PyData.str (S h))
  | [], _ => GdAll.nil.mono (Nat.zero_le _)
  | x :: ws, h => by
    have a := h x List.mem_cons_self
    refine (GdAll.cons (Gd.str a.2) (strs_gd ws fun y hy => h y (List.mem_cons_of_mem _ hy))).mono ?_
    rw [List.length_cons, Nat.succ_mul]
    omega
theorem ev_pieces {l : List Nat} {ws : List (List Nat)} (h : evR l = .inr ws) : ws.length ≤ 3 ∧ ∀ x ∈ ws, x.length ≤ l.length ∧ ∀ c ∈ x, c ∈ l := by
  have hw : (wd 32 l).length ≤ l.length ∧ ∀ c ∈ wd 32 l, c ∈ l := ⟨len_wd 32 l, fun c hc => mem_wd hc⟩
  have hr : (rs 32 l).length ≤ l.length ∧ ∀ c ∈ rs 32 l, c ∈ l := ⟨len_rs 32 l, fun c hc => mem_rs hc⟩
  have hn : (nameL (rs 32 l)).length ≤ l.length ∧ ∀ c ∈ nameL (rs 32 l), c ∈ l := ⟨Nat.le_trans (by unfold nameL; rw [List.length_take]; omega) hr.1, fun c hc => hr.2 c (List.mem_of_mem_take hc)⟩
  have hk : (kindL (rs 32 l)).length ≤ l.length ∧ ∀ c ∈ kindL (rs 32 l), c ∈ l := ⟨Nat.le_trans (by unfold kindL; rw [List.length_drop]; omega) hr.1, fun c hc => hr.2 c (List.mem_of_mem_drop hc)⟩
  have two : (∀ x ∈ [wd 32 l, rs 32 l], x.length ≤ l.length ∧ ∀ c ∈ x, c ∈ l) := fun x hx => by
    simp only [List.mem_cons, List.not_mem_nil, or_false] at hx
    rcases hx with rfl | rfl
    · exact hw
    · exact hr
  unfold evR at h
  split at h
  · split at h
    · split at h
      · cases h
        refine ⟨by simp, fun x hx => ?_⟩
        simp only [List.mem_cons, List.not_mem_nil, or_false] at hx
        rcases hx with rfl | rfl | rfl
        · exact hw
        · exact hn
        · exact hk
      · cases h
    · split at h
      · split at h
        · cases h; exact ⟨by simp, two⟩
        · cases h
      · split at h
        · cases h; exact ⟨by simp, two⟩
        · cases h
  · cases h
theorem ev_gd {l : List Nat} {ws : List (List Nat)} (h : evR l = .inr ws) (hl : l.length ≤ 2000) (hc : OkC l) : Gd 6003 1 (evD ws) := by
  obtain ⟨h1, h2⟩ := ev_pieces h
  refine (Gd.tup (strs_gd (m := 2000) ws fun x hx => ⟨by have := (h2 x hx).1; omega, hc.sub (h2 x hx).2⟩)).mono ?_ (Nat.le_refl _)
  have : ws.length * 2001 ≤ 3 * 2001 := Nat.mul_le_mul_right _ h1
  omega
theorem evR_le {l : List Nat} {c : Nat} (h : evR l = .inl c) : c ≤ l.length := by
  have hll := lets_le 8 (rs 32 l)
  have hk := (kS_free _ (rs 32 l) [false] 0 (Nat.le_refl _)).1
  have he := eP_le (rs 32 l)
  unfold evR at h
  split at h
  · rename_i h6
    rw [six_iff] at h6
    have h32 := (of_decide_eq_true h6).1
    have hlen := rs_len h32
    rw [List.length_append, List.length_singleton] at hlen
    split at h
    · split at h
      · cases h
      · cases h; omega
    · split at h
      · split at h
        · cases h
        · cases h; omega
      · split at h
        · cases h
        · cases h; omega
  · cases h
    exact cw_le l EVB
/-! ### _law_event_right -/
theorem okGc {CX : CXT} {x qual : Str} {st : Stmt} {f c : Addr} {fd : FuncData} {N ps : List Str} {k : Nat} {sp : Sp} (F : Fun K x qual st f fd) (hc : fd.code = .ref c) (S : FnScope N ps (defScope st)) (len : ∀ vs H Q E, sp vs H Q E → vs.length = ps.length)
    (hbody : ∀ (A : Around) (outer : List Env) (s : Shared) (H : Hp) (vs : List V) (Q : VK) (E : XK), A.guards = some [] → Room k (A.deeper (envOfC qual (defScope st) s.heap.objs.size f (.ref c))) → sp vs H Q E →
      ∃ t, PSs (cxOf CX P w K mg base N qual (defScope st) f (.ref c) A outer s H E) (defBody st) t ∧ t { nx := fun _ H' => Q .non H', rt := Q } (L2.start N vs) H) : FnOkG P w K mg base CX (k + 1) f fd ps sp := by
  obtain ⟨oc, od, kV, doc, pm, an, cdv, ct, osl, rfl, lk, hcd⟩ := F.ex
  obtain rfl : cdv = .ref c := hc
  refine ⟨len, fun A outer s H args us vs Q E hg hr e0 hb r hsp => ?_⟩
  exact LamX.run_ofS lk hcd S hr e0 hb r (len _ _ _ _ hsp) fun hr' => hbody A outer s H vs Q E hg hr' hsp
/-- the tables of the two defs that make lambdas -/
def Tt (PE PL : Addr) : List (Addr × Str) := [(PE, "_law_event_right.<locals>.<lambda>"), (PL, "_law_log_right.<locals>.<lambda>")]
def OkT (l : List Nat) : Prop := l.length ≤ 2000 ∧ OkC l
theorem ExtN_of {H H' : Hp} (e : Ext H H') : LamX.ExtN H H' := LamX.ExtN.of e
theorem Tabs_ext {Ts : List (Addr × Str)} {H H' : Hp} (t : LamX.Tabs Ts H) (e : Ext H H') : LamX.Tabs Ts H' := t.ext e
def spEvRight (Ts : List (Addr × Str)) : Sp := fun vs H Q _ => ∃ l : List Nat, vs = [.str (S l)] ∧ OkT l ∧ LamX.Tabs Ts H ∧ ∀ H', LamX.ExtN H H' → LamX.Tabs Ts H' → Q (.bl true) H'
end Og
set_option Elab.async false
set_option linter.all false
set_option maxRecDepth 100000
set_option maxHeartbeats 4000000
namespace Og
open PySem PySem.Spec PyProof.Rows L2 TL
variable {P : Program} {w : World} {K : PySem.W.Frag} {mg : Str → Option Value} {base : Heap} {A : Str → Addr} {B : Str → FuncData}
theorem Rd.extN {H H' : Hp} {a : Addr} {o : HO} (e : LamX.ExtN H H') (ho : ∀ ps, o ≠ .tbl ps) (h : Rd H a o) : Rd H' a o := by
  rcases h with h | ⟨ob, h⟩
  · exact .inl (e _ _ h ho)
  · exact .inr ⟨ob, e _ _ h fun ps z => by cases z⟩
theorem sqT_extN {H H' : Hp} {a : Addr} {xs : List V} (e : LamX.ExtN H H') (h : SqT K H a xs) : SqT K H' a xs := h.imp (Rd.extN e fun ps z => by cases z) id
theorem sqL_extN {H H' : Hp} {a : Addr} {xs : List V} (e : LamX.ExtN H H') (h : SqL K H a xs) : SqL K H' a xs := h.imp (Rd.extN e fun ps z => by cases z) id
mutual
theorem dp_extN {H H' : Hp} (e : LamX.ExtN H H') : ∀ (d : PyData) (v : V), Dp K H v d → Dp K H' v d
  | .none, _, h => by cases h; exact .non
  | .bool b, _, h => by cases h; exact .bl b
  | .int i, _, h => by cases h; exact .int i
  | .str x, _, h => by cases h; exact .str x
  | .list ds, _, h => by
    cases h with
    | lst h1 h2 => exact .lst (sqL_extN e h1) (dpAll_extN e ds _ h2)
  | .tuple ds, _, h => by
    cases h with
    | tup h1 h2 => exact .tup (sqT_extN e h1) (dpAll_extN e ds _ h2)
  | .dict _, _, h => by cases h
theorem dpAll_extN {H H' : Hp} (e : LamX.ExtN H H') : ∀ (ds : List PyData) (vs : List V), DpAll K H vs ds → DpAll K H' vs ds
  | [], _, h => by cases h; exact .nil
  | d :: ds, _, h => by
    cases h with
    | cons h1 h2 => exact .cons (dp_extN e d _ h1) (dpAll_extN e ds _ h2)
end
theorem okT_lim {l : List Nat} (h : OkT l) : l.length ≤ LIM := by have := h.1; unfold LIM; omega
/-- what the two reprs ask -/
theorem repr_ok {H : Hp} {x : V} {d : PyData} {n k : Nat} {Q : VK} (h : Dp K H x d) (hs : seqD d = true) (g : Gd n k d) (hn : n ≤ 1048576) (hk : k ≤ 40) (q : Q (.str d.shown) H) : rRepr K [x] H Q :=
  ⟨x, d, rfl, h, hs, g.hd, g.sw, (g.len hn hk).1, (g.len hn hk).2, q⟩
abbrev N__law_event_right : List Str := ["text", "column", "due"]
abbrev P__law_event_right : List Str := ["text"]
theorem sc__law_event_right : FnScope N__law_event_right P__law_event_right (defScope s__law_event_right) := ⟨rfl, rfl, rfl, by decide +kernel, rfl, by decide +kernel, by decide +kernel⟩
theorem ok__law_event_right {cE PE PL : Addr} (T : Facts P K mg A B) (hcE : (B "_law_event_right").code = .ref cE) (TB : LamX.TabB base mg cE PE) (hne : PE ≠ PL) : FnOkG P w K mg base CX0 11 (A "_law_event_right") (B "_law_event_right") ["text"] (spEvRight (Tt PE PL)) := by
  obtain ⟨ocS, odS, kVS, docS, pmS, anS, cdS, ctS, oslS, hfS, lkS, hcS⟩ := T._law_said.fn.ex
  have hbS := T._law_said.bi
  rw [hfS] at lkS hbS
  have hu : ∀ p ∈ Tt PE PL, p.1 = PE → p.2 = "_law_event_right.<locals>.<lambda>" := fun p hp he => by
    unfold Tt at hp
    simp only [List.mem_cons, List.not_mem_nil, or_false] at hp
    rcases hp with rfl | rfl
    · rfl
    · exact absurd he.symm hne
  refine okGc T._law_event_right.fn hcE sc__law_event_right (fun vs H Q E h => ?_) (fun Ar outer s H vs Q E hg hr h => ?_)
  · obtain ⟨l, rfl, _⟩ := h
    rfl
  · obtain ⟨l, rfl, hT, htab, k⟩ := h
    have hl := okT_lim hT
    refine ⟨_, ((pss_cons (ps_set (i := 1) sc__law_event_right.nd rfl (Or.inl rfl) (pe_call (ok__law_line_fault T) (hr.mono (by decide)) rfl T._law_line_fault.mg T._law_line_fault.kp T._law_line_fault.bi .nil pass0 (pa_cons (pv 0) (pa_cons pe_bl pa_nil))))
      (pss_cons (ps_set (i := 2) sc__law_event_right.nd rfl (Or.inl rfl) (pe_ifExp (pt_cmpR op_lt (pv 1) pe_int (nomark _)) (pe_tup (pa_cons pe_str (pa_cons (pe_call (ok__law_event_of T) (hr.mono (by decide)) rfl T._law_event_of.mg T._law_event_of.kp T._law_event_of.bi .nil pass0 (pa_cons (pv 0) pa_nil)) pa_nil))) (pe_tup (pa_cons pe_str (pa_cons pe_str (pa_cons pe_int (pa_cons (pv 1) pa_nil)))))))
      (pss_one (ps_ret (pe_cmpR op_eq (pe_callB (id := "repr") (r := rRepr K) (call_repr hg hr) (by rfl) T.b_repr (by decide +kernel) (pa_cons (LamX.pe_lamcall (k := 8) (T := Tt PE PL) (TT := TTSaid K A) rfl T._law_said.mg T._law_said.kp lkS hcS hbS sc__law_said rfl (Or.inl rfl) (said_gives (k := 8) T hr) TB rfl (by exact List.mem_cons_self) hu hr (LamX.lamS_by (sc := defScope s__law_event_right) (by decide +kernel)) rfl (fun _ _ _ _ _ => rfl) (fun A2 outer2 s2 H2 E2 f2 c2 hr2 => pe_call (ok_read_event T) hr2 rfl T.read_event.mg T.read_event.kp T.read_event.bi .nil (passes_call (takes_of rfl rfl rfl rfl) fun _ _ _ _ h => h) (pa_cons (pv 0) pa_nil))) pa_nil)) (pe_callB (id := "repr") (r := rRepr K) (call_repr hg hr) (by rfl) T.b_repr (by decide +kernel) (pa_cons (pv 2) pa_nil)) (nomark _))))))), ?_⟩
    have x0 := Ext.refl H
    refine ⟨_, rfl, l, false, rfl, hl, fun H1 x1 => ?_⟩
    dsimp only [gName]
    -- what both reprs compare
    refine seqZ (fun σ2 H2 => ∃ (u : Addr) (d : PyData), Ext H H2 ∧ σ2 = [some (.str (S l)), some (.int (flt false l)), some (.ref u)] ∧ Dp K H2 (.ref u) d ∧ seqD d = true ∧ Gd 10000 3 d ∧ (match evR l with | .inr ws => d = toldD (evD ws) | .inl c => d = noD 0 c)) ?_ ?_
    rotate_left
    · intro ez
      refine ⟨_, rfl, _, _, rfl, rfl, _, rfl, ?_⟩
      cases hev : evR l with
      | inr ws =>
        have hf : flt false l = -1 := by
          show colZ (evR l) = -1
          rw [hev]; rfl
        rw [hf] at ez ⊢
        refine iteD (by decide) ⟨_, rfl, l, ws, rfl, hl, hev, fun p H2 x2 hp => ⟨two_line, fun u hu => ?_⟩⟩
        refine ez _ _ ⟨u, toldD (evD ws), (x1.trans x2).trans (Ext.new hu), rfl, ?_, rfl, (told_gd (ev_gd hev hT.1 hT.2)).mono (by omega) (by omega), by rw [hev]⟩
        exact .tup (SqT.of upd_same) (.cons (.str _) (.cons (.tup (sqT_ext (Ext.new hu) (SqT.of hp)) (dpAll_strs ws)) .nil))
      | inl c =>
        have hf : flt false l = (c : Nat) := by
          show colZ (evR l) = _
          rw [hev]; rfl
        rw [hf] at ez ⊢
        have hc := evR_le hev
        refine iteDF (by omega) ⟨_, rfl, by show 4 ≤ sizeLine; rw [sizeLine_eq]; decide, fun u hu => ?_⟩
        refine ez _ _ ⟨u, noD 0 c, x1.trans (Ext.new hu), rfl, ?_, rfl, (no_gd (by omega) (by have := hT.1; omega)).mono (by omega) (by omega), by rw [hev]⟩
        exact .tup (SqT.of upd_same) (.cons (.str _) (.cons (.str _) (.cons (.int _) (.cons (.int _) .nil))))
    rintro σ2 H2 ⟨u, d, x2, rfl, hd, hsd, hgd, hmatch⟩
    -- the end: both texts are the same
    have fin : ∀ (p : Addr) (H4 : Hp), LamX.ExtN H2 H4 → LamX.Tabs (Tt PE PL) H4 → Dp K H4 (.ref p) d → rRepr K [.ref p] H4 (fun x H5 => tCB (rRepr K) (tCons (tVar 2) tNil) [some (.str (S l)), some (.int (flt false l)), some (.ref u)] H5 fun y H6 => rEq x y H6 Q) := fun p H4 e4 t4 hp => by
      refine repr_ok hp hsd hgd (by omega) (by omega) ?_
      refine ⟨_, rfl, ?_⟩
      show rRepr K [V.ref u] H4 (fun y H6 => rEq (V.str d.shown) y H6 Q)
      refine repr_ok (dp_extN e4 _ _ hd) hsd hgd (by omega) (by omega) ?_
      refine ⟨rfl, ?_⟩
      rw [decide_eq_true rfl]
      exact k H4 ((ExtN_of x2).trans e4) t4
    refine ⟨Tabs_ext htab x2, fun H3 e3 t3 => ?_⟩
    refine ⟨_, rfl, l, rfl, hl, fun ws hws p H4 x4 hp => ?_, fun c hc d2 H4 x4 hd2 => ?_⟩
    · rw [hws] at hmatch
      refine ⟨two_line, fun p2 hp2 => fin p2 _ ((e3.trans (ExtN_of x4)).trans (ExtN_of (Ext.new hp2))) (Tabs_ext (Tabs_ext t3 x4) (Ext.new hp2)) ?_⟩
      rw [hmatch]
      exact .tup (SqT.of upd_same) (.cons (.str _) (.cons (dp_ext (Ext.new hp2) _ _ hp) .nil))
    · rw [hc] at hmatch
      refine ⟨T.teGE, fun a na => ?_⟩
      have hda : d2 ≠ a := fun z => by rw [z, na] at hd2; cases hd2
      have xa : Ext H4 (upd H4 a (kex a (.ref (A "InvalidText")) (some d2))) := Ext.new na
      refine ⟨a, d2, .int 0, .int (c : Nat), rfl, upd_same, by rw [upd_ne hda]; exact hd2, fun p H5 x5 hp => ?_⟩
      have x45 := (x4.trans xa).trans x5
      refine fin p H5 (e3.trans (ExtN_of x45)) (Tabs_ext t3 x45) ?_
      rw [hmatch]
      exact .tup (SqT.of hp) (.cons (.str _) (.cons (.str _) (.cons (.int _) (.cons (.int _) .nil))))
end Og
set_option Elab.async false
set_option linter.all false
set_option maxRecDepth 100000
set_option maxHeartbeats 4000000
namespace Og
open PySem PySem.Spec PyProof.Rows L2 TL
variable {P : Program} {w : World} {K : PySem.W.Frag} {mg : Str → Option Value} {base : Heap} {A : Str → Addr} {B : Str → FuncData}
/-! ### rows of a first line -/
def sumR : List (List Nat × List Nat) → Nat
  | [] => 0
  | e :: es => (rowL e).length + sumR es
theorem row_len (e : List Nat × List Nat) : (rowL e).length = e.1.length + e.2.length + 2 := by unfold rowL; simp; omega
theorem join_ge : ∀ es : List (List Nat × List Nat), sumR es ≤ (joinL [44, 32] (es.map rowL)).length
  | [] => Nat.zero_le _
  | [e] => by show (rowL e).length + 0 ≤ (rowL e).length; omega
  | e :: e2 :: es => by
    have ih := join_ge (e2 :: es)
    show (rowL e).length + sumR (e2 :: es) ≤ (rowL e ++ ([44, 32] ++ joinL [44, 32] (rowL e2 :: es.map rowL))).length
    rw [List.length_append, List.length_append]
    have : (joinL [44, 32] (rowL e2 :: es.map rowL)).length = (joinL [44, 32] ((e2 :: es).map rowL)).length := rfl
    omega
theorem join_mem : ∀ (es : List (List Nat × List Nat)) (e : List Nat × List Nat) (c : Nat), e ∈ es → c ∈ rowL e → c ∈ joinL [44, 32] (es.map rowL)
  | [], e, c, h, _ => by cases h
  | [x], e, c, h, hc => by rw [List.mem_singleton.mp h] at hc; exact hc
  | x :: y :: es, e, c, h, hc => by
    show c ∈ rowL x ++ ([44, 32] ++ joinL [44, 32] (rowL y :: es.map rowL))
    rcases List.mem_cons.mp h with rfl | h
    · exact List.mem_append_left _ hc
    · exact List.mem_append_right _ (List.mem_append_right _ (join_mem (y :: es) e c h hc))
theorem es_le : ∀ es : List (List Nat × List Nat), es.length ≤ sumR es ∧ ∀ e ∈ es, (rowL e).length ≤ sumR es
  | [] => ⟨Nat.le_refl _, fun e h => by cases h⟩
  | x :: es => by
    obtain ⟨h1, h2⟩ := es_le es
    have := row_len x
    refine ⟨by rw [List.length_cons]; unfold sumR; omega, fun e h => ?_⟩
    rcases List.mem_cons.mp h with rfl | h
    · unfold sumR; omega
    · have := h2 e h; unfold sumR; omega
theorem ents_gd : ∀ es : List (List Nat × List Nat), (∀ e ∈ es, OkC e.1 ∧ OkC e.2) → GdAll (2 * sumR es) 1 (es.map entD)
  | [], _ => GdAll.nil
  | e :: es, h => by
    obtain ⟨h1, h2⟩ := h e List.mem_cons_self
    have g : Gd (e.1.length + 1 + (e.2.length + 1 + 0)) 1 (entD e) := Gd.tup (.cons (Gd.str h1) (.cons (Gd.str h2) .nil))
    refine (GdAll.cons g (ents_gd es fun x hx => h x (List.mem_cons_of_mem _ hx))).mono ?_
    have := row_len e
    show _ ≤ 2 * ((rowL e).length + sumR es)
    omega
theorem fi_facts {l : List Nat} {es : List (List Nat × List Nat)} (h : fiR l = .inr es) (hT : OkT l) : es.length ≤ 2000 ∧ (∀ e ∈ es, (rowL e).length ≤ 2000) ∧ Gd 5000 3 (firstD es) := by
  have hl := hT.1
  have key : sumR es ≤ 2000 ∧ ∀ e ∈ es, OkC e.1 ∧ OkC e.2 := by
    rcases fiR_rows h with ⟨rfl, _⟩ | ⟨_, h2, _, _⟩
    · exact ⟨Nat.zero_le _, fun e he => by cases he⟩
    · have hj := join_ge es
      have hlen := congrArg List.length h2
      rw [List.length_append] at hlen
      refine ⟨by omega, fun e he => ?_⟩
      have hm : ∀ c ∈ rowL e, c < 1114112 := fun c hc => hT.2 c (by rw [h2]; exact List.mem_append_right _ (join_mem es e c he hc))
      exact ⟨fun c hc => hm c (List.mem_append_left _ hc), fun c hc => hm c (List.mem_append_right _ (List.mem_append_right _ hc))⟩
  obtain ⟨k1, k2⟩ := key
  obtain ⟨e1, e2⟩ := es_le es
  refine ⟨by omega, fun e he => by have := e2 e he; omega, ?_⟩
  refine (Gd.tup (.cons (Gd.str (l := wBench) (by unfold OkC; decide)) (.cons (Gd.tup (ents_gd es k2)) .nil))).mono ?_ (by omega)
  have : wBench.length = 5 := rfl
  omega
/-! ### the first fault of lines -/
def fa (o : Bool) (l : List Nat) : Option Nat := if o = true then (match fiR l with | .inl k => some k | .inr _ => none) else (match evR l with | .inl k => some k | .inr _ => none)
def ff (ls : List (List Nat)) : Nat → Option (Nat × Nat)
  | 0 => none
  | i + 1 => match ff ls i with
    | some x => some x
    | none => match ls[i]? with
      | some l => (fa (decide (i = 0)) l).map fun k => (i, k)
      | none => none
theorem flt_fa (o : Bool) (l : List Nat) : flt o l = match fa o l with | some k => (k : Int) | none => -1 := by
  unfold flt fa fltF fltE
  cases o with
  | true => simp only [if_true]; cases fiR l <;> rfl
  | false => simp only [Bool.false_eq_true, if_false]; cases evR l <;> rfl
theorem ff_some {ls : List (List Nat)} {i : Nat} {x : Nat × Nat} (h : ff ls i = some x) : ∀ j, ff ls (i + j) = some x
  | 0 => h
  | j + 1 => by
    show (match ff ls (i + j) with | some x => some x | none => _) = _
    rw [ff_some h j]
def AllEv : List (List Nat) → List (List (List Nat)) → Prop
  | [], [] => True
  | l :: ls, ws :: r => evR l = .inr ws ∧ AllEv ls r
  | _, _ => False
theorem evs_ff (ls : List (List Nat)) : ∀ (rest : List (List Nat)) (i : Nat), 1 ≤ i → ff ls i = none → ls.drop i = rest → match evsR i rest with
    | .inl x => ff ls ls.length = some x
    | .inr r => ff ls ls.length = none ∧ AllEv rest r
  | [], i, h1, hn, hd => by
    have hle : ls.length ≤ i := by simpa using hd
    unfold evsR
    refine ⟨?_, trivial⟩
    cases h : ff ls ls.length with
    | none => rfl
    | some x =>
      have := ff_some h (i - ls.length)
      rw [show ls.length + (i - ls.length) = i by omega, hn] at this
      cases this
  | l :: rest, i, h1, hn, hd => by
    have hlt : i < ls.length := by
      have := congrArg List.length hd
      rw [List.length_drop, List.length_cons] at this
      omega
    have hget : ls[i]? = some l := by
      have := congrArg (fun z => z[0]?) hd
      simpa using this
    have hstep : ff ls (i + 1) = (fa false l).map fun k => (i, k) := by
      show (match ff ls i with | some x => some x | none => match ls[i]? with | some l => (fa (decide (i = 0)) l).map fun k => (i, k) | none => none) = _
      rw [hn, hget, decide_eq_false (by omega)]
    have hd2 : ls.drop (i + 1) = rest := by rw [← List.drop_drop, hd]; rfl
    unfold evsR
    cases he : evR l with
    | inl k =>
      have : ff ls (i + 1) = some (i, k) := by
        rw [hstep]
        unfold fa
        rw [he]
        rfl
      have z := ff_some this (ls.length - (i + 1))
      rw [show i + 1 + (ls.length - (i + 1)) = ls.length by omega] at z
      exact z
    | inr ws =>
      have : ff ls (i + 1) = none := by
        rw [hstep]
        unfold fa
        rw [he]
        rfl
      have ih := evs_ff ls rest (i + 1) (by omega) this hd2
      cases hr : evsR (i + 1) rest with
      | inl x => rw [hr] at ih; exact ih
      | inr r => rw [hr] at ih; exact ⟨ih.1, he, ih.2⟩
theorem lo_ff (l0 : List Nat) (rest : List (List Nat)) : match loR (l0 :: rest) with
    | .inl x => ff (l0 :: rest) (l0 :: rest).length = some x
    | .inr r => ff (l0 :: rest) (l0 :: rest).length = none ∧ fiR l0 = .inr r.1 ∧ AllEv rest r.2 := by
  have hstep : ff (l0 :: rest) 1 = (fa true l0).map fun k => (0, k) := rfl
  cases hf : fiR l0 with
  | inl k =>
    have h1 : ff (l0 :: rest) 1 = some (0, k) := by
      rw [hstep]
      unfold fa
      rw [hf]
      rfl
    have z := ff_some h1 rest.length
    simp only [loR, hf]
    rw [show 1 + rest.length = (l0 :: rest).length by simp; omega] at z
    exact z
  | inr es =>
    have h1 : ff (l0 :: rest) 1 = none := by
      rw [hstep]
      unfold fa
      rw [hf]
      rfl
    have ih := evs_ff (l0 :: rest) rest 1 (Nat.le_refl _) h1 rfl
    simp only [loR, hf]
    cases hr : evsR 1 rest with
    | inl x => rw [hr] at ih; exact ih
    | inr r => rw [hr] at ih; exact ⟨ih.1, rfl, ih.2⟩
theorem fS_le : ∀ (n : Nat) (r b : List Nat), (fS n r b).1 ≤ r.length
  | 0, r, b => Nat.zero_le _
  | n + 1, r, b => by
    have h1 := eS_le r b
    unfold fS
    split
    · exact h1
    · have h2 := (cp_le (r.drop (eS r b).1) [44, 32])
      rw [List.length_drop] at h2
      split
      · show (eS r b).1 + _ ≤ _
        omega
      · rename_i h3
        have ih := fS_le n (r.drop ((eS r b).1 + 2)) (wd 58 (r.take (eS r b).1))
        rw [List.length_drop] at ih
        show (eS r b).1 + 2 + _ ≤ _
        omega
theorem ff_line {ls : List (List Nat)} : ∀ {i j c : Nat}, ff ls i = some (j, c) → j < i ∧ ∃ l, ls[j]? = some l ∧ fa (decide (j = 0)) l = some c
  | 0, j, c, h => by cases h
  | i + 1, j, c, h => by
    have h : (match ff ls i with | some x => some x | none => match ls[i]? with | some l => (fa (decide (i = 0)) l).map fun k => (i, k) | none => none) = some (j, c) := h
    cases hi : ff ls i with
    | some x =>
      rw [hi] at h
      cases h
      obtain ⟨a, b⟩ := ff_line hi
      exact ⟨by omega, b⟩
    | none =>
      rw [hi] at h
      cases hl : ls[i]? with
      | none => rw [hl] at h; cases h
      | some l =>
        rw [hl] at h
        obtain ⟨k, hk, e⟩ := Option.map_eq_some_iff.mp h
        cases e
        exact ⟨by omega, l, hl, hk⟩
theorem fiR_le {l : List Nat} {c : Nat} (h : fiR l = .inl c) : c ≤ l.length + 7 := by
  unfold fiR at h
  by_cases hp : pre BEN l = false
  · rw [if_pos hp] at h
    cases h
    have := cw_le l [BEN]
    omega
  · rw [if_neg hp] at h
    split at h
    · cases h
    · split at h
      · cases h; omega
      · have hlen : (l.drop 6).length = l.length - 6 := List.length_drop
        have key := fS_esR ((l.drop 6).length + 1) ((l.drop 6).length + 1) (l.drop 6) [] 6 (by omega) (by omega)
        rw [h] at key
        have hp' : pre BEN l = true := by cases q : pre BEN l with | true => rfl | false => exact absurd q hp
        have := fS_le ((l.drop 6).length + 1) (l.drop 6) []
        have := key.1
        omega
theorem fa_le {o : Bool} {l : List Nat} {c : Nat} (h : fa o l = some c) : c ≤ l.length + 7 := by
  unfold fa at h
  cases o with
  | true =>
    simp only [if_true] at h
    cases hf : fiR l with
    | inl k => rw [hf] at h; cases h; exact fiR_le hf
    | inr _ => rw [hf] at h; cases h
  | false =>
    simp only [Bool.false_eq_true, if_false] at h
    cases hf : evR l with
    | inl k => rw [hf] at h; cases h; have := evR_le hf; omega
    | inr _ => rw [hf] at h; cases h
end Og
set_option Elab.async false
set_option linter.all false
set_option maxRecDepth 100000
set_option maxHeartbeats 4000000
namespace Og
open PySem PySem.Spec PyProof.Rows L2 TL
variable {P : Program} {w : World} {K : PySem.W.Frag} {mg : Str → Option Value} {base : Heap} {A : Str → Addr} {B : Str → FuncData}
theorem GdAll.up {n k k' : Nat} {ds : List PyData} (g : GdAll n k ds) (h : k ≤ k') : GdAll n k' ds := ⟨g.lay, Nat.le_trans g.dp h, g.wt, g.sh, g.hd, g.sw⟩
def linesD (ls : List (List Nat)) : PyData := .list (ls.map fun h => PyData.str (S h))
theorem lines_shaped {ls : List (List Nat)} (h : ∀ l ∈ ls, OkT l) : SeqAt.shaped (linesD ls) = true := by
  have g := strs_gd (k := 0) (m := 2000) ls fun x hx => ⟨(h x hx).1, (h x hx).2⟩
  unfold linesD SeqAt.shaped
  rw [PyData.canLay0, g.lay, PyData.depth]
  have := g.dp
  rw [decide_eq_true (by omega)]
  rfl
theorem lines_eqv (ls : List (List Nat)) : PyData.eqv (linesD ls) (linesD ls) = true := by
  unfold linesD
  rw [PyData.eqv]
  induction ls with
  | nil => rfl
  | cons l ls ih =>
    show PyData.eqvAll (PyData.str (S l) :: ls.map fun h => PyData.str (S h)) (PyData.str (S l) :: ls.map fun h => PyData.str (S h)) = true
    rw [PyData.eqvAll, ih, PyData.eqv]
    simp
def spLogRight (Ts : List (Addr × Str)) : Sp := fun vs H Q _ => ∃ (a : Addr) (ls : List (List Nat)), vs = [.ref a] ∧ H a = some (.lst (ls.map fun h => V.str (S h))) ∧ ls.length ≤ 4 ∧ (∀ l ∈ ls, OkT l) ∧ LamX.Tabs Ts H ∧ ∀ H', LamX.ExtN H H' → LamX.Tabs Ts H' → Q (.bl true) H'
abbrev N__law_log_right : List Str := ["lines", "due", "kept", "k", "column", "line"]
abbrev P__law_log_right : List Str := ["lines"]
theorem sc__law_log_right : FnScope N__law_log_right P__law_log_right (defScope s__law_log_right) := ⟨rfl, rfl, rfl, by decide +kernel, rfl, by decide +kernel, by decide +kernel⟩
theorem ok__law_log_right {cL PE PL : Addr} (T : Facts P K mg A B) (hcL : (B "_law_log_right").code = .ref cL) (TB : LamX.TabB base mg cL PL) (hne : PE ≠ PL) : FnOkG P w K mg base CX0 13 (A "_law_log_right") (B "_law_log_right") ["lines"] (spLogRight (Tt PE PL)) := by
  obtain ⟨ocS, odS, kVS, docS, pmS, anS, cdS, ctS, oslS, hfS, lkS, hcS⟩ := T._law_said.fn.ex
  have hbS := T._law_said.bi
  rw [hfS] at lkS hbS
  have hu : ∀ p ∈ Tt PE PL, p.1 = PL → p.2 = "_law_log_right.<locals>.<lambda>" := fun p hp he => by
    unfold Tt at hp
    simp only [List.mem_cons, List.not_mem_nil, or_false] at hp
    rcases hp with rfl | rfl
    · exact absurd he hne
    · rfl
  refine okGc T._law_log_right.fn hcL sc__law_log_right (fun vs H Q E h => ?_) (fun Ar outer s H vs Q E hg hr h => ?_)
  · obtain ⟨a, ls, rfl, _⟩ := h
    rfl
  · obtain ⟨a, ls, rfl, ha, h4, hT, htab, k⟩ := h
    refine ⟨_, ((pss_cons (ps_par (by rfl) sc__law_log_right.nd (i := 1) (j := 2) rfl rfl (by decide) rfl rfl (pa_cons pe_non (pa_cons (pe_callTy call_list_of (by rfl) T.b_list (by decide +kernel) (pa_cons (pv 0) pa_nil)) pa_nil)) (by rfl))
      (pss_cons (ps_for PassesOwn.leaving rfl (pi_range1 rfl T.b_range (pa_cons (pe_callB call_len_seq (by rfl) T.b_len PySem.boot_len (pa_cons (pv 0) pa_nil)) pa_nil)) (pg_name (i := 3) sc__law_log_right.nd rfl (Or.inl rfl)) (pss_cons (ps_set (i := 4) sc__law_log_right.nd rfl (Or.inl rfl) (pe_call (ok__law_line_fault T) (hr.mono (by decide)) rfl T._law_line_fault.mg T._law_line_fault.kp T._law_line_fault.bi .nil pass0 (pa_cons (pe_ix (r := rIxL K) ix_list (pv 0) (pv 3) (fun _ _ => rfl)) (pa_cons (pe_cmpR op_eq (pv 3) pe_int (nomark _)) pa_nil))))
      (pss_one (ps_if (PW.pt (pw_and (pt_cmpR op_ge (pv 4) pe_int (nomark _)) (pw_and1 (pt_cmpR op_isN (pv 1) pe_non (nomark _))))) (pss_one (ps_set (i := 1) sc__law_log_right.nd rfl (Or.inl rfl) (pe_tup (pa_cons pe_str (pa_cons pe_str (pa_cons (pv 3) (pa_cons (pv 4) pa_nil))))))) pss_nil))))
      (pss_cons (ps_if (pt_cmpR (op_eqD hr.units) (pv 0) (pe_lst pa_nil) (nomark _)) (pss_one (ps_set (i := 1) sc__law_log_right.nd rfl (Or.inl rfl) (pe_tup (pa_cons pe_str (pa_cons pe_str (pa_cons pe_int (pa_cons pe_int pa_nil))))))) pss_nil)
      (pss_cons (ps_if (pt_cmpR op_isN (pv 1) pe_non (nomark _)) (pss_one (ps_set (i := 1) sc__law_log_right.nd rfl (Or.inl rfl) (pe_tup (pa_cons pe_str (pa_cons (pe_callTy call_tuple_of (by rfl) T.b_tuple (by decide +kernel) (pa_cons (pe_op op_cat (pe_lst (pa_cons (pe_call (ok__law_first_of T) (hr.mono (by decide)) rfl T._law_first_of.mg T._law_first_of.kp T._law_first_of.bi .nil pass0 (pa_cons (pe_ix (r := rIxL K) ix_list (pv 0) pe_int (fun _ _ => rfl)) pa_nil)) pa_nil)) (pe_lc (own := [("line", 5)]) (g := gName 5) (tt := tYes) rfl sc__law_log_right.nd (pi_list (pe_slice sl_list (pv 0) (po_some pe_int) po_none)) (blkOk_by (own := [("line", 5)]) (N := N__law_log_right) (sc := defScope s__law_log_right) (by decide +kernel)) (fun _ _ _ _ _ => (pg_name (i := 5) sc__law_log_right.nd rfl (Or.inl rfl))) (fun _ _ _ _ _ => pts_nil) (fun _ _ _ _ _ => (pe_call (ok__law_event_of T) (hr.mono (by decide)) rfl T._law_event_of.mg T._law_event_of.kp T._law_event_of.bi .nil pass0 (pa_cons (pv 5) pa_nil))))) pa_nil)) pa_nil))))) pss_nil)
      (pss_one (ps_ret (pe_and (pe_cmpR op_eq (pe_callB (id := "repr") (r := rRepr K) (call_repr hg hr) (by rfl) T.b_repr (by decide +kernel) (pa_cons (LamX.pe_lamcall (k := 10) (T := Tt PE PL) (TT := TTSaid K A) rfl T._law_said.mg T._law_said.kp lkS hcS hbS sc__law_said rfl (Or.inl rfl) (said_gives (k := 10) T hr) TB rfl (by exact List.mem_cons_of_mem _ List.mem_cons_self) hu hr (LamX.lamS_by (sc := defScope s__law_log_right) (by decide +kernel)) rfl (fun _ _ _ _ _ => rfl) (fun A2 outer2 s2 H2 E2 f2 c2 hr2 => pe_call (ok_read_log T) hr2 rfl T.read_log.mg T.read_log.kp T.read_log.bi .nil (passes_call (takes_of rfl rfl rfl rfl) fun _ _ _ _ h => h) (pa_cons (pv 0) pa_nil))) pa_nil)) (pe_callB (id := "repr") (r := rRepr K) (call_repr hg hr) (by rfl) T.b_repr (by decide +kernel) (pa_cons (pv 1) pa_nil)) (nomark _)) (pe_one (pe_cmpR (op_eqD hr.units) (pv 0) (pv 2) (nomark _))))))))))), ?_⟩
    refine ⟨_, rfl, a, _, rfl, .inl (SqL.of ha), fun b hb => ⟨_, _, rfl, ?_⟩⟩
    have x1 : Ext H (upd H b (.lst (ls.map fun h => V.str (S h)))) := Ext.new hb
    have hbl : upd H b (.lst (ls.map fun h => V.str (S h))) b = some (.lst (ls.map fun h => V.str (S h))) := upd_same
    generalize upd H b (.lst (ls.map fun h => V.str (S h))) = H1 at x1 hbl
    have ha1 := x1 _ _ ha
    have z4 : 4 ≤ sizeLine := by rw [sizeLine_eq]; decide
    refine ⟨_, rfl, a, _, rfl, .inl (SqL.of ha1), ls.length, by rw [List.length_map], by omega, by omega, ?_⟩
    refine for_range (lo := 0) (n := ls.length) (fun i σ H2 => ∃ due v3 v4, Ext H1 H2 ∧ σ = [some (.ref a), some due, some (.ref b), v3, v4, none] ∧ match ff ls i with
      | none => due = V.non
      | some (j, c) => ∃ u, due = V.ref u ∧ H2 u = some (.tup [.str "no", .str "text", .int (j : Nat), .int (c : Nat)])) ⟨V.non, none, none, Ext.refl _, rfl, rfl⟩ (fun i σ H2 hi p => ?_) (fun σ H2 p => ?_)
    · obtain ⟨due, v3, v4, x2, rfl, hm⟩ := p
      have hl : ls[i]? = some ls[i] := List.getElem?_eq_getElem hi
      generalize ls[i] = l at hl
      have hTl := hT l (List.mem_of_getElem? hl)
      have ho : decide (V.int ((0 : Int) + (i : Nat)) = V.int 0) = decide (i = 0) := by
        rw [decide_eq_decide]
        exact ⟨fun q => by have := V.int.inj q; omega, fun q => by rw [q]; rfl⟩
      refine ⟨_, rfl, _, rfl, a, _, _, V.str (S l), rfl, rfl, SqL.of (x2 _ _ ha1), by rw [Int.zero_add]; exact atI_nat (by rw [List.getElem?_map, hl]; rfl), _, rfl, rfl, l, _, rfl, okT_lim hTl, fun H3 x3 => ?_⟩
      rw [ho]
      dsimp only [gName]
      have hff : ff ls (i + 1) = match ff ls i with | some x => some x | none => (fa (decide (i = 0)) l).map fun k => (i, k) := by
        show (match ff ls i with | some x => some x | none => match ls[i]? with | some l => (fa (decide (i = 0)) l).map fun k => (i, k) | none => none) = _
        rw [hl]
      refine and_b (decide (0 ≤ flt (decide (i = 0)) l)) (decide (due = V.non)) (fun R r => ⟨_, rfl, _, _, rfl, rfl, _, rfl, r⟩) (fun _ R r => ⟨_, rfl, rfl, _, rfl, r⟩) ?_
      cases hfi : ff ls i with
      | some x =>
        obtain ⟨j, c⟩ := x
        rw [hfi] at hm
        obtain ⟨u, rfl, hu1⟩ := hm
        refine iteBF (by rw [decide_eq_false (show ¬ V.ref u = V.non from fun z => by cases z)]; simp) ⟨V.ref u, _, _, x2.trans x3, rfl, ?_⟩
        rw [hff, hfi]
        exact ⟨u, rfl, x3 _ _ hu1⟩
      | none =>
        rw [hfi] at hm
        subst hm
        rw [hfi] at hff
        cases hfa : fa (decide (i = 0)) l with
        | none =>
          have hneg : flt (decide (i = 0)) l = -1 := by rw [flt_fa, hfa]
          refine iteBF (by rw [hneg]; rfl) ⟨V.non, _, _, x2.trans x3, rfl, ?_⟩
          rw [hff, hfa]
          rfl
        | some c =>
          have hpos : flt (decide (i = 0)) l = (c : Nat) := by rw [flt_fa, hfa]
          refine iteB (by rw [hpos, decide_eq_true (by omega), decide_eq_true rfl]; rfl) ⟨_, rfl, _, rfl, z4, fun u hu2 => ⟨V.ref u, _, _, (x2.trans x3).trans (Ext.new hu2), rfl, ?_⟩⟩
          rw [hff, hfa]
          refine ⟨u, rfl, ?_⟩
          rw [upd_same, hpos, Int.zero_add]
    obtain ⟨due, v3, v4, x2, rfl, hm⟩ := p
    have ha2 := x2 _ _ ha1
    have hb2 := x2 _ _ hbl
    dsimp only
    refine seqZ (fun σ3 H3 => ∃ (due : V) , Ext H2 H3 ∧ σ3 = [some (.ref a), some due, some (.ref b), v3, v4, none] ∧ match loR ls with
      | .inl x => ∃ u, due = V.ref u ∧ H3 u = some (.tup [.str "no", .str "text", .int (x.1 : Nat), .int (x.2 : Nat)])
      | .inr _ => due = V.non) ?_ ?_
    rotate_left
    · intro ez
      refine ⟨_, rfl, Nat.zero_le _, fun t ht => ?_⟩
      have xt := Ext.new (o := .lst []) ht
      refine ⟨linesD ls, .list [], .lst (SqL.of (xt _ _ ha2)) (dpAll_strs ls), .lst (SqL.of upd_same) .nil, lines_shaped hT, rfl, _, rfl, ?_⟩
      cases ls with
      | nil =>
        refine iteT ⟨z4, fun u hu2 => ez _ _ ⟨V.ref u, xt.trans (Ext.new hu2), rfl, u, rfl, upd_same⟩⟩
      | cons l0 rest =>
        have he : PyData.eqv (linesD (l0 :: rest)) (.list []) = false := rfl
        rw [he]
        refine iteF (ez _ _ ⟨due, xt, rfl, ?_⟩)
        have hlo := lo_ff l0 rest
        cases hr : loR (l0 :: rest) with
        | inl x =>
          rw [hr] at hlo
          obtain ⟨j, c⟩ := x
          rw [hlo] at hm
          obtain ⟨u, e, hu2⟩ := hm
          exact ⟨u, e, xt _ _ hu2⟩
        | inr r =>
          rw [hr] at hlo
          rw [hlo.1] at hm
          exact hm
    rintro σ3 H3 ⟨due, x3, rfl, hm3⟩
    have ha3 := x3 _ _ ha2
    have hb3 := x3 _ _ hb2
    have x03 := (x1.trans x2).trans x3
    try dsimp only
    refine seqZ (fun σ5 H5 => ∃ (u : Addr) (d : PyData), Ext H3 H5 ∧ σ5 = [some (.ref a), some (.ref u), some (.ref b), v3, v4, none] ∧ Dp K H5 (.ref u) d ∧ seqD d = true ∧ Gd 100000 5 d ∧ match loR ls with
      | .inl x => d = noD x.1 x.2
      | .inr r => d = toldD (loD r)) ?_ ?_
    rotate_left
    · intro ez
      refine ⟨_, rfl, rfl, _, rfl, ?_⟩
      cases hr : loR ls with
      | inl x =>
        rw [hr] at hm3
        obtain ⟨u, rfl, hu2⟩ := hm3
        refine iteDF (by intro z; cases z) (ez _ _ ⟨u, noD x.1 x.2, Ext.refl _, rfl, .tup (SqT.of hu2) (.cons (.str _) (.cons (.str _) (.cons (.int _) (.cons (.int _) .nil)))), rfl, ?_, by rw [hr]⟩)
        have hb1 : x.1 < 10000000 ∧ x.2 < 10000000 := by
          cases ls with
          | nil => cases hr; exact ⟨by decide, by decide⟩
          | cons l0 rest =>
            have hlo := lo_ff l0 rest
            rw [hr] at hlo
            obtain ⟨j, c⟩ := x
            obtain ⟨q1, l, q2, q3⟩ := ff_line hlo
            have q4 := fa_le q3
            have q5 := (hT l (List.mem_of_getElem? q2)).1
            have : (l0 :: rest).length ≤ 4 := h4
            exact ⟨by show j < _; omega, by show c < _; omega⟩
        exact (no_gd hb1.1 hb1.2).mono (by omega) (by omega)
      | inr r =>
        rw [hr] at hm3
        subst hm3
        cases ls with
        | nil => cases hr
        | cons l0 rest =>
          obtain ⟨es, wss⟩ := r
          have hlo := lo_ff l0 rest
          rw [hr] at hlo
          obtain ⟨_, hfi, hall⟩ := hlo
          have hT0 := hT l0 List.mem_cons_self
          obtain ⟨f1, f2, f3⟩ := fi_facts hfi hT0
          have f1' : es.length ≤ 2000 := f1
          have f2' : ∀ e ∈ es, (rowL e).length ≤ 2000 := fun e he => f2 e he
          refine iteD rfl ⟨_, rfl, a, _, _, V.str (S l0), rfl, rfl, SqL.of ha3, atI_nat (j := 0) rfl, l0, es, rfl, okT_lim hT0, by unfold LIM; omega, hfi, fun e he => by have := f2' e he; unfold LIM; omega, fun p H4 x4 hp => ?_⟩
          refine ⟨by rw [sizeLine_eq]; simp, fun t1 ht1 => ?_⟩
          have x5 := x4.trans (Ext.new (o := .lst [V.ref p]) ht1)
          have ht1' : upd H4 t1 (.lst [V.ref p]) t1 = some (.lst [V.ref p]) := upd_same
          have hdp := dp_ext (Ext.new (o := .lst [V.ref p]) ht1) _ _ hp
          generalize upd H4 t1 (.lst [V.ref p]) = H5 at x5 ht1' hdp
          refine ⟨_, rfl, _, rfl, a, _, rfl, SqL.of (x5 _ _ ha3), fun t2 ht2 => ?_⟩
          have x6 := Ext.new (o := .lst (cutV ((l0 :: rest).map fun h => V.str (S h)) (some 1) none)) ht2
          have ht2' : upd H5 t2 (.lst (cutV ((l0 :: rest).map fun h => V.str (S h)) (some 1) none)) t2 = some (.lst (rest.map fun h => V.str (S h))) := by
            rw [upd_same]
            have : cutV ((l0 :: rest).map fun h => V.str (S h)) (some 1) none = rest.map fun h => V.str (S h) := by
              unfold cutV
              have e1 : HT.sIx ((l0 :: rest).map fun h => V.str (S h)).length 0 (some 1) = 1 := by
                rw [show (1 : Int) = ((1 : Nat) : Int) from rfl, HT.sIx_nat]
                simp
              rw [e1]
              simp only [HT.sIx_none, List.length_map, List.length_cons, Nat.add_sub_cancel, List.map_cons, List.drop_succ_cons, List.drop_zero]
              exact List.take_of_length_le (by rw [List.length_map]; exact Nat.le_refl _)
            exact congrArg (fun z => some (HO.lst z)) this
          have ht1'' := x6 _ _ ht1'
          have hdp2 := dp_ext x6 _ _ hdp
          generalize upd H5 t2 (.lst (cutV ((l0 :: rest).map fun h => V.str (S h)) (some 1) none)) = H6 at x6 ht2' ht1'' hdp2
          refine ⟨t2, rfl, ⟨_, SqL.of ht2'⟩, fun D hD => lc_list (xs := rest.map fun h => V.str (S h)) (fun i H7 => Ext H6 H7 ∧ ∃ refs, H7 D = some (.lst (refs.map V.ref)) ∧ RefsE H7 refs (wss.take i)) ⟨Ext.new hD, [], by rw [upd_same]; rfl, trivial⟩ (fun i H7 _ p => SqL.of (p.1 _ _ ht2')) (fun i y H7 hy p => ?_) (fun H7 p => ?_)⟩
          · rw [List.getElem?_map] at hy
            obtain ⟨l, hlx, rfl⟩ := Option.map_eq_some_iff.mp hy
            obtain ⟨x7, refs, hD7, hR7⟩ := p
            have hget : ∀ (ls : List (List Nat)) (ws : List (List (List Nat))) (i : Nat) (l : List Nat), AllEv ls ws → ls[i]? = some l → ∃ v, ws[i]? = some v ∧ evR l = .inr v := by
              intro ls
              induction ls with
              | nil => intro ws i l h hx; simp at hx
              | cons y ls ih =>
                intro ws i l h hx
                cases ws with
                | nil => exact h.elim
                | cons v ws =>
                  cases i with
                  | zero => simp at hx; subst hx; exact ⟨v, rfl, h.1⟩
                  | succ i => exact ih ws i l h.2 hx
            obtain ⟨v, hv, hev⟩ := hget rest wss i l hall hlx
            have hTl := hT l (List.mem_cons_of_mem _ (List.mem_of_getElem? hlx))
            refine ⟨rfl, ?_⟩
            unfold tYes
            refine iteT ⟨_, rfl, l, v, rfl, okT_lim hTl, hev, fun q H8 x8 hq => ?_⟩
            have hD8 := x8 _ _ hD7
            have hqD : q ≠ D := fun z => by rw [z, hD8] at hq; cases hq
            have hlen := hR7.len
            refine ⟨_, hD8, ?_, (x7.trans x8).upd hD, refs ++ [q], by rw [upd_same]; simp, ?_⟩
            · rw [List.length_map, hlen, List.length_take, sizeLine_eq]
              have hir : i < rest.length := (List.getElem?_eq_some_iff.mp hlx).1
              have : (l0 :: rest).length ≤ 4 := h4
              rw [List.length_cons] at this
              omega
            · rw [List.take_succ, hv]
              refine RefsE.snoc (by rw [upd_ne hqD]; exact hq) (hR7.mono fun b xs hb => ?_)
              have : b ≠ D := fun z => by rw [z, hD7] at hb; cases hb
              rw [upd_ne this]
              exact x8 _ _ hb
          · obtain ⟨x7, refs, hD7, hR7⟩ := p
            have hlenAll : ∀ (ls : List (List Nat)) (ws : List (List (List Nat))), AllEv ls ws → ls.length = ws.length := by
              intro ls
              induction ls with
              | nil => intro ws h; cases ws with | nil => rfl | cons _ _ => exact h.elim
              | cons y ls ih =>
                intro ws h
                cases ws with
                | nil => exact h.elim
                | cons v ws => simp [ih ws h.2]
            have hla := hlenAll rest wss hall
            rw [List.length_map, hla, List.take_length] at hR7
            have hlr := hR7.len
            have h4' : (l0 :: rest).length ≤ 4 := h4
            rw [List.length_cons] at h4'
            have ht17 := x7 _ _ ht1''
            refine ⟨t1, D, _, _, rfl, rfl, ht17, hD7, by rw [List.length_map, sizeLine_eq]; simp; omega, fun t3 ht3 => ?_⟩
            refine ⟨t3, _, rfl, .inl ⟨SqL.of upd_same, fun t4 ht4 => ⟨two_line, fun u hu2 => ?_⟩⟩⟩
            have xx := (Ext.new (o := .lst ([V.ref p] ++ refs.map V.ref)) ht3).trans (Ext.new (o := .tup ([V.ref p] ++ refs.map V.ref)) ht4)
            have x9 := xx.trans (Ext.new (o := .tup [V.str "told", V.ref t4]) hu2)
            have gev : ∀ (ls : List (List Nat)) (ws : List (List (List Nat))), AllEv ls ws → (∀ l ∈ ls, OkT l) → GdAll (ws.length * 6004) 1 (ws.map evD) := by
              intro ls
              induction ls with
              | nil => intro ws h _; cases ws with | nil => exact GdAll.nil.mono (Nat.zero_le _) | cons _ _ => exact h.elim
              | cons y ls ih =>
                intro ws h hT
                cases ws with
                | nil => exact h.elim
                | cons v ws =>
                  have hy := hT y List.mem_cons_self
                  refine (GdAll.cons (ev_gd h.1 hy.1 hy.2) (ih ws h.2 fun l hl => hT l (List.mem_cons_of_mem _ hl))).mono ?_
                  rw [List.length_cons, Nat.succ_mul]
                  omega
            have g := gev rest wss hall fun l hl => hT l (List.mem_cons_of_mem _ hl)
            refine ez _ _ ⟨u, toldD (loD (es, wss)), ((x5.trans x6).trans x7).trans x9, rfl, ?_, rfl, ?_, by rw [hr]⟩
            · refine .tup (SqT.of upd_same) (.cons (.str _) (.cons (.tup (sqT_ext (Ext.new hu2) (SqT.of upd_same)) (.cons (dp_ext (x7.trans x9) _ _ hdp2) ?_)) .nil))
              exact dpAll_ext x9 _ _ hR7.dp
            · have hw4 : wss.length * 6004 ≤ 4 * 6004 := Nat.mul_le_mul_right _ (by omega)
              refine (told_gd (Gd.tup (.cons f3 (g.up (by omega))))).mono (by omega) (by omega)
    rintro σ5 H5 ⟨u, d, x5, rfl, hd, hsd, hgd, hmatch⟩
    have ha5 := x5 _ _ ha3
    have hb5 := x5 _ _ hb3
    have x05 := x03.trans x5
    have fin : ∀ (p : Addr) (H6 : Hp), LamX.ExtN H5 H6 → LamX.Tabs (Tt PE PL) H6 → Dp K H6 (.ref p) d → rRepr K [.ref p] H6 (fun x H7 => tCB (rRepr K) (tCons (tVar 1) tNil) [some (.ref a), some (.ref u), some (.ref b), v3, v4, none] H7 fun y H8 => rEq x y H8 fun x H9 => ∃ c, x = .bl c ∧ if c = true then tOp (rEqD K) (tVar 0) (tVar 2) [some (.ref a), some (.ref u), some (.ref b), v3, v4, none] H9 Q else Q (.bl false) H9) := fun p H6 e6 t6 hp => by
      refine repr_ok hp hsd hgd (by omega) (by omega) ?_
      refine ⟨_, rfl, ?_⟩
      show rRepr K [V.ref u] H6 (fun y H8 => rEq (V.str d.shown) y H8 fun x H9 => ∃ c, x = .bl c ∧ if c = true then tOp (rEqD K) (tVar 0) (tVar 2) [some (.ref a), some (.ref u), some (.ref b), v3, v4, none] H9 Q else Q (.bl false) H9)
      refine repr_ok (dp_extN e6 _ _ hd) hsd hgd (by omega) (by omega) ?_
      refine ⟨rfl, _, rfl, ?_⟩
      refine iteD rfl ⟨_, rfl, _, rfl, linesD ls, linesD ls, .lst (sqL_extN e6 (SqL.of ha5)) (dpAll_strs ls), .lst (sqL_extN e6 (SqL.of hb5)) (dpAll_strs ls), lines_shaped hT, lines_shaped hT, ?_⟩
      rw [lines_eqv]
      exact k H6 ((ExtN_of x05).trans e6) t6
    refine ⟨Tabs_ext htab x05, fun H6 e6 t6 => ?_⟩
    have ha6 : H6 a = some (.lst (ls.map fun h => V.str (S h))) := e6 _ _ ha5 fun ps z => by cases z
    refine ⟨_, rfl, a, ls, rfl, ha6, by omega, fun l hl => okT_lim (hT l hl), fun r hr p H7 x7 hp => ?_, fun i c hr d2 H7 x7 hd2 => ?_⟩
    · rw [hr] at hmatch
      refine ⟨two_line, fun p2 hp2 => fin p2 _ ((e6.trans (ExtN_of x7)).trans (ExtN_of (Ext.new hp2))) (Tabs_ext (Tabs_ext t6 x7) (Ext.new hp2)) ?_⟩
      rw [hmatch]
      exact .tup (SqT.of upd_same) (.cons (.str _) (.cons (dp_ext (Ext.new hp2) _ _ hp) .nil))
    · rw [hr] at hmatch
      refine ⟨T.teGE, fun a2 na => ?_⟩
      have hda : d2 ≠ a2 := fun z => by rw [z, na] at hd2; cases hd2
      have xa : Ext H7 (upd H7 a2 (kex a2 (.ref (A "InvalidText")) (some d2))) := Ext.new na
      refine ⟨a2, d2, .int (i : Nat), .int (c : Nat), rfl, upd_same, by rw [upd_ne hda]; exact hd2, fun p H8 x8 hp => ?_⟩
      have x78 := (x7.trans xa).trans x8
      refine fin p H8 (e6.trans (ExtN_of x78)) (Tabs_ext t6 x78) ?_
      rw [hmatch]
      exact .tup (SqT.of hp) (.cons (.str _) (.cons (.str _) (.cons (.int _) (.cons (.int _) .nil))))
end Og
set_option Elab.async false
set_option linter.all false
set_option maxRecDepth 100000
set_option maxHeartbeats 4000000
namespace Og
open PySem PySem.Spec PyProof.Rows L2 TL
variable {P : Program} {w : World} {K : PySem.W.Frag} {mg : Str → Option Value} {base : Heap} {A : Str → Addr} {B : Str → FuncData}
/-! ### the feed: a dict that the draws change -/
def fdK (p : Addr) (i r t : Int) : List (Key × V) := [(.inr "cells", .ref p), (.inr "at", .int i), (.inr "rest", .int r), (.inr "turn", .int t)]
def FeedAt (t : Nat) (a : Addr) (H : Hp) : Prop := ∃ (p : Addr) (cs : List Int) (i u : Nat) (r : Int), H a = some (.dK (fdK p i r u)) ∧ H p = some (.lst (cs.map V.int)) ∧ cs.length ≤ 63 ∧ u ≤ t ∧ i ≤ u
/-- all but the object at a stays -/
def ExtF (a : Addr) (H H' : Hp) : Prop := ∀ b o, H b = some o → b ≠ a → H' b = some o
theorem ExtF.refl (a : Addr) (H : Hp) : ExtF a H H := fun _ _ h _ => h
theorem ExtF.of {a : Addr} {H H' : Hp} (e : Ext H H') : ExtF a H H' := fun b o h _ => e b o h
theorem ExtF.trans {a : Addr} {H H1 H2 : Hp} (x : ExtF a H H1) (y : ExtF a H1 H2) : ExtF a H H2 := fun b o h n => y b o (x b o h n) n
theorem ExtF.put {a : Addr} {H : Hp} {o : HO} : ExtF a H (upd H a o) := fun b u h n => by rw [upd_ne n]; exact h
theorem rd_extF {a b : Addr} {H H' : Hp} {kvs : List (Key × V)} {o : HO} (e : ExtF a H H') (ha : H a = some (.dK kvs)) (ho : ∀ k, o ≠ .dK k) (h : Rd H b o) : Rd H' b o := by
  have hb : ∀ u, H b = some u → (∀ k, u ≠ .dK k) → H' b = some u := fun u hu hn => e _ _ hu fun z => by
    rw [z, ha] at hu
    exact hn _ (Option.some.inj hu).symm
  rcases h with h | ⟨ob, h⟩
  · exact .inl (hb _ h ho)
  · exact .inr ⟨ob, hb _ h fun k z => by cases z⟩
theorem sqL_extF {a b : Addr} {H H' : Hp} {kvs : List (Key × V)} {xs : List V} (e : ExtF a H H') (ha : H a = some (.dK kvs)) (h : SqL K H b xs) : SqL K H' b xs := h.imp (rd_extF e ha fun k z => by cases z) id
theorem sqT_extF {a b : Addr} {H H' : Hp} {kvs : List (Key × V)} {xs : List V} (e : ExtF a H H') (ha : H a = some (.dK kvs)) (h : SqT K H b xs) : SqT K H' b xs := h.imp (rd_extF e ha fun k z => by cases z) id
theorem at_extF {a b : Addr} {H H' : Hp} {kvs : List (Key × V)} {o : HO} (e : ExtF a H H') (ha : H a = some (.dK kvs)) (ho : ∀ k, o ≠ .dK k) (h : H b = some o) : H' b = some o := e _ _ h fun z => by
  rw [z, ha] at h
  exact ho _ (Option.some.inj h).symm
theorem tabs_extF {Ts : List (Addr × Str)} {a : Addr} {H H' : Hp} {kvs : List (Key × V)} (e : ExtF a H H') (ha : H a = some (.dK kvs)) (t : LamX.Tabs Ts H) : LamX.Tabs Ts H' := fun p hp => by
  obtain ⟨ps, h1, h2, h3⟩ := t p hp
  refine ⟨ps, at_extF e ha (fun k z => by cases z) h1, h2, fun pos cv hc => ?_⟩
  obtain ⟨c, e1, e2⟩ := h3 pos cv hc
  exact ⟨c, e1, at_extF e ha (fun k z => by cases z) e2⟩
theorem FeedAt.dk {t : Nat} {a : Addr} {H : Hp} (h : FeedAt t a H) : ∃ kvs, H a = some (.dK kvs) := let ⟨_, _, _, _, _, h, _⟩ := h; ⟨_, h⟩
theorem FeedAt.ext {t : Nat} {a : Addr} {H H' : Hp} (h : FeedAt t a H) (e : Ext H H') : FeedAt t a H' := let ⟨p, cs, i, u, r, h1, h2, h3⟩ := h; ⟨p, cs, i, u, r, e _ _ h1, e _ _ h2, h3⟩
theorem FeedAt.extN {t : Nat} {a : Addr} {H H' : Hp} (h : FeedAt t a H) (e : LamX.ExtN H H') : FeedAt t a H' := let ⟨p, cs, i, u, r, h1, h2, h3⟩ := h; ⟨p, cs, i, u, r, e _ _ h1 (fun _ z => by cases z), e _ _ h2 (fun _ z => by cases z), h3⟩
theorem FeedAt.mono {t t' : Nat} {a : Addr} {H : Hp} (h : FeedAt t a H) (e : t ≤ t') : FeedAt t' a H := let ⟨p, cs, i, u, r, h1, h2, h3, h4, h5⟩ := h; ⟨p, cs, i, u, r, h1, h2, h3, Nat.le_trans h4 e, h5⟩
theorem fd_cells {p : Addr} {i r t : Int} : valV (fdK p i r t) (.inr "cells") = some (.ref p) := rfl
theorem fd_at {p : Addr} {i r t : Int} : valV (fdK p i r t) (.inr "at") = some (.int i) := rfl
theorem fd_rest {p : Addr} {i r t : Int} : valV (fdK p i r t) (.inr "rest") = some (.int r) := rfl
theorem fd_turn {p : Addr} {i r t : Int} : valV (fdK p i r t) (.inr "turn") = some (.int t) := rfl
theorem fp_at {p : Addr} {i r t x : Int} : putK (fdK p i r t) (.inr "at") (.int x) = fdK p x r t := rfl
theorem fp_rest {p : Addr} {i r t x : Int} : putK (fdK p i r t) (.inr "rest") (.int x) = fdK p i x t := rfl
theorem fp_turn {p : Addr} {i r t x : Int} : putK (fdK p i r t) (.inr "turn") (.int x) = fdK p i r x := rfl
theorem dg {H : Hp} {a : Addr} {kvs : List (Key × V)} {k : Str} {v : V} (e : H a = some (.dK kvs)) (h : valV kvs (.inr k) = some v) : DGet H a (.str k) (some v) := .inl ⟨kvs, .inr k, .inl e, rfl, h.symm⟩
theorem dp {H : Hp} {a : Addr} {kvs : List (Key × V)} {k : Str} {v : V} {ks : List (Key × V)} (e : H a = some (.dK kvs)) (hl : kvs.length ≤ 4) (h : putK kvs (.inr k) v = ks) : DPut H a (.str k) v (upd H a (.dK ks)) := .inl ⟨kvs, .inr k, e, rfl, by rw [sizeLine_eq]; omega, by rw [h]⟩
/-! ### the making of the feed -/
def spFeed (K : PySem.W.Frag) : Sp := fun vs H Q _ => ∃ (b : Addr) (ns : List Int), vs = [.ref b] ∧ SqL K H b (ns.map V.int) ∧ ∀ a H', H a = none → Ext H H' → FeedAt 0 a H' → Q (.ref a) H'
abbrev N__law_feed : List Str := ["script"]
abbrev P__law_feed : List Str := ["script"]
theorem sc__law_feed : FnScope N__law_feed P__law_feed (defScope s__law_feed) := ⟨rfl, rfl, rfl, by decide +kernel, rfl, by decide +kernel, by decide +kernel⟩
theorem ok__law_feed (T : Facts P K mg A B) : FnOk P w K mg base CX0 1 (A "_law_feed") (B "_law_feed") ["script"] (spFeed K) := by
  refine T._law_feed.fn.ok sc__law_feed (fun vs H Q E h => ?_) (fun cdv Ar outer s H vs Q E hr h => ?_)
  · obtain ⟨l, ns, rfl, _⟩ := h
    rfl
  · obtain ⟨b, ns, rfl, hb, k⟩ := h
    refine ⟨_, ((pss_one (ps_ret (pe_disp (pps_cons pe_str (pe_callTy call_list_of (by rfl) T.b_list (by decide +kernel) (pa_cons (pe_slice sl_list (pv 0) po_none (po_some pe_int)) pa_nil)) (pps_cons pe_str pe_int (pps_cons pe_str pe_int (pps_cons pe_str pe_int pps_nil)))) (by rfl) (by rfl) (fun z => by cases z) (by decide))))), ?_⟩
    intro a ha
    refine ⟨_, rfl, _, rfl, b, ns.map V.int, rfl, sqL_ext (Ext.new ha) hb, fun q hq => ?_⟩
    have hqa : q ≠ a := fun z => by rw [z, upd_same] at hq; cases hq
    have hcut : cutV (ns.map V.int) none (some 63) = (ns.take 63).map V.int := by
      unfold cutV
      have e1 : HT.sIx (ns.map V.int).length (ns.map V.int).length (some 63) = min 63 (ns.map V.int).length := HT.sIx_nat ..
      rw [e1, HT.sIx_none, List.map_take]
      show (List.map V.int ns).take _ = _
      apply List.take_eq_take_iff.mpr
      omega
    rw [hcut]
    refine ⟨q, _, rfl, .inl (SqL.of upd_same), fun l hl => ?_⟩
    have hla : l ≠ a := fun z => by rw [z, upd_ne (Ne.symm hqa), upd_same] at hl; cases hl
    refine ⟨by rw [upd_ne (Ne.symm hla), upd_ne (Ne.symm hqa), upd_same], fdK l 0 0 0, rfl, by exact (by decide : 4 ≤ 15), ?_⟩
    refine k a _ ha (fun c o hc => ?_) ⟨l, ns.take 63, 0, 0, 0, upd_same, by rw [upd_ne hla]; exact upd_same, by rw [List.length_take]; omega, Nat.le_refl _, Nat.le_refl _⟩
    have hca : c ≠ a := fun z => by rw [z, ha] at hc; cases hc
    rw [upd_ne hca]
    exact Ext.new hl _ _ (Ext.new hq _ _ (Ext.new ha _ _ hc))
/-! ### a draw -/
theorem dpAll_ints {H : Hp} : ∀ ns : List Int, DpAll K H (ns.map V.int) (ns.map PyData.int)
  | [] => .nil
  | n :: ns => .cons (.int n) (dpAll_ints ns)
theorem mod_nat (x : Int) {n : Nat} (h : 0 < n) : ∃ d : Nat, d < n ∧ x % (n : Int) = d := by
  have h1 := Int.emod_nonneg x (show (n : Int) ≠ 0 by omega)
  have h2 := Int.emod_lt_of_pos x (show (0 : Int) < n by omega)
  exact ⟨(x % (n : Int)).toNat, by omega, by omega⟩
def spDraw : Sp := fun vs H Q _ => ∃ (a : Addr) (n t : Nat), vs = [.ref a, .int n] ∧ 0 < n ∧ n < 1000000 ∧ t ≤ 1000 ∧ FeedAt t a H ∧ ∀ (d : Nat) H', d < n → ExtF a H H' → FeedAt (t + 1) a H' → Q (.int d) H'
abbrev N__law_draw : List Str := ["feed", "size", "digit", "cells", "at", "turn", "cell", "seed"]
abbrev P__law_draw : List Str := ["feed", "size"]
theorem sc__law_draw : FnScope N__law_draw P__law_draw (defScope s__law_draw) := ⟨rfl, rfl, rfl, by decide +kernel, rfl, by decide +kernel, by decide +kernel⟩
theorem ok__law_draw (T : Facts P K mg A B) : FnOk P w K mg base CX0 1 (A "_law_draw") (B "_law_draw") ["feed", "size"] spDraw := by
  refine T._law_draw.fn.ok sc__law_draw (fun vs H Q E h => ?_) (fun cdv Ar outer s H vs Q E hr h => ?_)
  · obtain ⟨a, n, t, rfl, _⟩ := h
    rfl
  · obtain ⟨a, n, t, rfl, hn, hN, ht, ⟨p, cs, i, u, r, ha, hp, hc, hu2, hi⟩, k⟩ := h
    have hu : (Ar.deeper (envOfC "_law_draw" (defScope s__law_draw) s.heap.objs.size (A "_law_draw") cdv)).units + 1 < cLine := by have := hr.units; omega
    refine ⟨_, ((pss_cons (ps_dput hu (pv 0) pe_str (pe_op op_add (pe_dget hu (pv 0) pe_str (fun _ _ => rfl)) pe_int) rfl)
      (pss_cons (ps_if (pt_cmpR op_gt (pe_dget hu (pv 0) pe_str (fun _ _ => rfl)) pe_int (nomark _)) (pss_cons (ps_set (i := 2) sc__law_draw.nd rfl (Or.inl rfl) (pe_op op_mod (pe_callTy call_int1 (by rfl) T.b_int (by decide +kernel) (pa_cons (pe_dget hu (pv 0) pe_str (fun _ _ => rfl)) pa_nil)) (pv 1)))
      (pss_cons (ps_dput hu (pv 0) pe_str (pe_op op_fdiv (pe_dget hu (pv 0) pe_str (fun _ _ => rfl)) (pv 1)) rfl)
      (pss_one (ps_ret (pv 2))))) pss_nil)
      (pss_cons (ps_par3 (by rfl) sc__law_draw.nd (i := 3) (j := 4) (l := 5) rfl rfl rfl (by decide) (by decide) (by decide) rfl rfl rfl (pa_cons (pe_dget hu (pv 0) pe_str (fun _ _ => rfl)) (pa_cons (pe_dget hu (pv 0) pe_str (fun _ _ => rfl)) (pa_cons (pe_dget hu (pv 0) pe_str (fun _ _ => rfl)) pa_nil))) (by rfl))
      (pss_cons (ps_dput hu (pv 0) pe_str (pe_op op_add (pv 4) pe_int) rfl)
      (pss_cons (ps_if (PW.pt (pw_and (pt_cmpR op_lt (pv 4) (pe_callB call_len_seq (by rfl) T.b_len PySem.boot_len (pa_cons (pv 3) pa_nil)) (nomark _)) (pw_and1 (pt_cmpR op_ge (pe_ix (r := rIxL K) ix_list (pv 3) (pv 4) (fun _ _ => rfl)) (pe_op op_pow pe_int pe_int) (nomark _))))) (pss_cons (ps_dput hu (pv 0) pe_str (pe_op op_fdiv (pe_ix (r := rIxL K) ix_list (pv 3) (pv 4) (fun _ _ => rfl)) (pv 1)) rfl)
      (pss_one (ps_ret (pe_op op_mod (pe_callTy call_int1 (by rfl) T.b_int (by decide +kernel) (pa_cons (pe_ix (r := rIxL K) ix_list (pv 3) (pv 4) (fun _ _ => rfl)) pa_nil)) (pv 1))))) pss_nil)
      (pss_cons (ps_set (i := 6) sc__law_draw.nd rfl (Or.inl rfl) (pe_ifExp (pt_cmpR (op_neD hr.units) (pv 3) (pe_lst pa_nil) (nomark _)) (pe_ix (r := rIxL K) ix_list (pv 3) (pe_op op_mod (pe_callTy call_int1 (by rfl) T.b_int (by decide +kernel) (pa_cons (pv 4) pa_nil)) (pe_callB call_len_seq (by rfl) T.b_len PySem.boot_len (pa_cons (pv 3) pa_nil))) (fun _ _ => rfl)) pe_int))
      (pss_cons (ps_set (i := 7) sc__law_draw.nd rfl (Or.inl rfl) (pe_op op_add (pe_op op_add (pe_op op_add (pe_op op_mod (pe_callTy call_int1 (by rfl) T.b_int (by decide +kernel) (pa_cons (pv 6) pa_nil)) pe_int) (pe_op op_mul (pe_op op_mul pe_int (pv 5)) (pv 5))) (pe_op op_mul pe_int (pv 5))) pe_int))
      (pss_cons (ps_set (i := 7) sc__law_draw.nd rfl (Or.inl rfl) (pe_op op_mod (pe_callTy call_int1 (by rfl) T.b_int (by decide +kernel) (pa_cons (pe_op op_add (pe_op op_add (pe_op op_mul (pv 7) (pv 7)) (pe_op op_mul pe_int (pv 5))) pe_int) pa_nil)) pe_int))
      (pss_one (ps_ret (pe_op op_mod (pe_callTy call_int1 (by rfl) T.b_int (by decide +kernel) (pa_cons (pe_op op_fdiv (pe_op op_mod (pe_callTy call_int1 (by rfl) T.b_int (by decide +kernel) (pa_cons (pe_op op_add (pe_op op_add (pe_op op_mul (pv 7) (pv 7)) (pe_op op_mul pe_int (pv 7))) pe_int) pa_nil)) pe_int) pe_int) pa_nil)) (pv 1))))))))))))), ?_⟩
    have hpa : p ≠ a := fun z => by rw [z, ha] at hp; cases hp
    refine ⟨_, rfl, a, _, rfl, dg ha fd_turn, _, _, rfl, rfl, _, rfl, a, _, rfl, dp ha (by exact Nat.le_refl 4) fp_turn, ?_⟩
    have x1 : ExtF a H (upd H a (.dK (fdK p i r (u + 1)))) := ExtF.put
    have ha1 : upd H a (.dK (fdK p i r (u + 1))) a = some (.dK (fdK p i r ((u + 1 : Nat) : Int))) := upd_same
    have hp1 : upd H a (.dK (fdK p i r (u + 1))) p = some (.lst (cs.map V.int)) := by rw [upd_ne hpa]; exact hp
    generalize upd H a (.dK (fdK p i r (u + 1))) = H1 at x1 ha1 hp1
    have hF : ∀ (i2 : Nat) (r2 : Int) H2, i2 ≤ u + 1 → H2 a = some (.dK (fdK p i2 r2 ((u + 1 : Nat) : Int))) → H2 p = some (.lst (cs.map V.int)) → FeedAt (t + 1) a H2 := fun i2 r2 H2 h1 h2 h3 => ⟨p, cs, i2, u + 1, r2, h2, h3, hc, by omega, h1⟩
    refine ⟨_, rfl, a, _, rfl, dg ha1 fd_rest, _, _, rfl, rfl, _, rfl, ?_⟩
    by_cases hr0 : 0 < r
    · refine iteD hr0 ⟨_, rfl, a, _, rfl, dg ha1 fd_rest, .inl ⟨_, rfl, _, rfl, _, _, rfl, rfl, by omega, ?_⟩⟩
      refine ⟨_, rfl, a, _, rfl, dg ha1 fd_rest, _, rfl, _, _, rfl, rfl, ⟨by omega, by omega⟩, _, rfl, a, _, rfl, dp ha1 (by exact Nat.le_refl 4) fp_rest, ?_⟩
      obtain ⟨d, hd, he⟩ := mod_nat r hn
      have e1 : Q (.int (r % (n : Int))) (upd H1 a (.dK (fdK p i (r / (n : Int)) ((u + 1 : Nat) : Int)))) := by
        rw [he]
        exact k d _ hd (x1.trans ExtF.put) (hF i _ _ (by omega) upd_same (by rw [upd_ne hpa]; exact hp1))
      exact ⟨_, rfl, e1⟩
    refine iteDF hr0 ?_
    refine ⟨_, rfl, a, _, rfl, dg ha1 fd_cells, _, rfl, a, _, rfl, dg ha1 fd_at, _, rfl, a, _, rfl, dg ha1 fd_turn, _, _, _, rfl, ?_⟩
    refine ⟨_, rfl, _, _, rfl, rfl, _, rfl, a, _, rfl, dp ha1 (by exact Nat.le_refl 4) fp_at, ?_⟩
    have x2 := x1.trans (ExtF.put (a := a) (H := H1) (o := .dK (fdK p (i + 1) r ((u + 1 : Nat) : Int))))
    have ha2 : upd H1 a (.dK (fdK p (i + 1) r ((u + 1 : Nat) : Int))) a = some (.dK (fdK p ((i + 1 : Nat) : Int) r ((u + 1 : Nat) : Int))) := upd_same
    have hp2 : upd H1 a (.dK (fdK p (i + 1) r ((u + 1 : Nat) : Int))) p = some (.lst (cs.map V.int)) := by rw [upd_ne hpa]; exact hp1
    generalize upd H1 a (.dK (fdK p (i + 1) r ((u + 1 : Nat) : Int))) = H2 at x2 ha2 hp2
    have hlen : (cs.map V.int).length = cs.length := List.length_map _
    dsimp only [gName]
    refine tseqIf ?_
    refine and_b (decide ((i : Int) < ((cs.map V.int).length : Int))) (decide ((1000000000000000000 : Int) ≤ (cs[i]?).getD 0)) (fun R q => ?_) (fun hb R q => ?_) ?_
    · exact ⟨_, rfl, _, rfl, p, _, rfl, .inl (SqL.of hp2), _, _, rfl, rfl, _, rfl, q⟩
    · have hi2 : i < cs.length := by have := of_decide_eq_true hb; rw [hlen] at this; omega
      exact ⟨_, rfl, _, rfl, p, _, _, .int ((cs[i]?).getD 0), rfl, rfl, SqL.of hp2, atI_nat (by rw [List.getElem?_map, List.getElem?_eq_getElem hi2]; rfl), _, _, rfl, rfl, ⟨by decide, by decide, by decide⟩, _, _, rfl, rfl, _, rfl, q⟩
    by_cases hb : i < cs.length ∧ (1000000000000000000 : Int) ≤ (cs[i]?).getD 0
    · have hi2 := hb.1
      have hat : atI (cs.map V.int) (i : Int) = some (.int ((cs[i]?).getD 0)) := atI_nat (by rw [List.getElem?_map, List.getElem?_eq_getElem hi2]; rfl)
      refine iteB (by rw [decide_eq_true (by rw [hlen]; omega), decide_eq_true hb.2]; rfl) ?_
      generalize (cs[i]?).getD 0 = c at hat hb
      refine ⟨_, rfl, _, rfl, p, _, _, .int c, rfl, rfl, SqL.of hp2, hat, _, rfl, _, _, rfl, rfl, ⟨by omega, by omega⟩, _, rfl, a, _, rfl, dp ha2 (by exact Nat.le_refl 4) fp_rest, ?_⟩
      obtain ⟨d, hd, he⟩ := mod_nat c hn
      have hp3 : upd H2 a (.dK (fdK p ((i + 1 : Nat) : Int) (c / (n : Int)) ((u + 1 : Nat) : Int))) p = some (.lst (cs.map V.int)) := by rw [upd_ne hpa]; exact hp2
      have e1 : Q (.int (c % (n : Int))) (upd H2 a (.dK (fdK p ((i + 1 : Nat) : Int) (c / (n : Int)) ((u + 1 : Nat) : Int)))) := by
        rw [he]
        exact k d _ hd (x2.trans ExtF.put) (hF (i + 1) _ _ (by omega) upd_same hp3)
      exact ⟨_, rfl, _, rfl, p, _, _, .int c, rfl, rfl, SqL.of hp3, hat, .inl ⟨_, rfl, _, rfl, _, _, rfl, rfl, by omega, e1⟩⟩
    refine iteBF (by
      rw [hlen]
      rcases Classical.em (i < cs.length) with h | h
      · rw [decide_eq_false (show ¬ (1000000000000000000 : Int) ≤ (cs[i]?).getD 0 from fun z => hb ⟨h, z⟩), Bool.and_false]
      · rw [decide_eq_false (show ¬ ((i : Int) < (cs.length : Int)) from fun z => h (by omega)), Bool.false_and]) ?_
    have hT : (0 : Int) ≤ ((u + 1 : Nat) : Int) ∧ ((u + 1 : Nat) : Int) ≤ 1001 := by omega
    have hTT : (0 : Int) ≤ 8887 * ((u + 1 : Nat) : Int) * ((u + 1 : Nat) : Int) ∧ 8887 * ((u + 1 : Nat) : Int) * ((u + 1 : Nat) : Int) ≤ 8887 * 1001 * 1001 := by
      constructor
      · exact Int.mul_nonneg (by omega) hT.1
      · exact Int.mul_le_mul (by omega) hT.2 hT.1 (by omega)
    dsimp only [tNext]
    refine seqZ (fun σ3 H3 => ∃ c : Int, ExtF a H H3 ∧ FeedAt (t + 1) a H3 ∧ σ3 = [some (.ref a), some (.int n), none, some (.ref p), some (.int i), some (.int ((u + 1 : Nat) : Int)), some (.int c), none]) ?_ ?_
    rotate_left
    · intro ez
      refine ⟨_, rfl, Nat.zero_le _, fun z hz => ⟨_, _, .lst (SqL.of (by rw [upd_ne (fun q => by rw [q, hz] at hp2; cases hp2)]; exact hp2)) (dpAll_ints cs), .lst (SqL.of upd_same) .nil, PySem.W.shaped_ints cs, by decide, _, rfl, ?_⟩⟩
      have e3 := Ext.new (o := .lst []) hz
      have x3 := x2.trans (ExtF.of (a := a) e3)
      have ha3 := e3 _ _ ha2
      have hp3 := e3 _ _ hp2
      generalize upd H2 z (.lst []) = H3 at x3 e3 ha3 hp3
      cases cs with
      | nil => exact iteBF (by decide) (ez _ _ ⟨97, x3, hF (i + 1) _ _ (by omega) ha3 hp3, rfl⟩)
      | cons c0 cs =>
        refine iteB (by rfl) ?_
        obtain ⟨j, hj, hje⟩ := mod_nat (i : Int) (n := (List.map V.int (c0 :: cs)).length) (by simp)
        have hj2 : j < (c0 :: cs).length := by rw [hlen] at hj; exact hj
        refine ⟨_, rfl, _, rfl, .inl ⟨_, rfl, _, rfl, p, _, rfl, .inl (SqL.of hp3), _, _, rfl, rfl, by simp, p, _, _, .int (c0 :: cs)[j], rfl, rfl, SqL.of hp3, by rw [hje]; exact atI_nat (by rw [List.getElem?_map, List.getElem?_eq_getElem hj2]; rfl), ?_⟩⟩
        exact ez _ _ ⟨(c0 :: cs)[j], x3, hF (i + 1) _ _ (by omega) ha3 hp3, rfl⟩
    rintro σ3 H3 ⟨c, x3, f3, rfl⟩
    generalize ((u + 1 : Nat) : Int) = T at *
    have c1 : (0 : Int) ≤ c % 2147481173 ∧ c % 2147481173 < 2147481173 := ⟨Int.emod_nonneg _ (by decide), Int.emod_lt_of_pos _ (by decide)⟩
    refine ⟨_, rfl, .inl ⟨_, rfl, _, _, rfl, rfl, (by decide : (0 : Int) < 2147481173), ?_⟩⟩
    refine ⟨_, rfl, _, _, rfl, rfl, .inl ⟨by omega, by omega⟩, _, rfl, _, _, rfl, rfl, .inl ⟨by omega, by omega⟩, _, _, rfl, rfl, _, rfl, _, _, rfl, rfl, .inl ⟨by omega, by omega⟩, _, _, rfl, rfl, _, _, rfl, rfl, ?_⟩
    refine ⟨_, rfl, _, rfl, _, _, rfl, rfl, .inl ⟨by omega, by omega⟩, _, rfl, _, _, rfl, rfl, .inl ⟨by omega, by omega⟩, _, _, rfl, rfl, _, _, rfl, rfl, .inl ⟨_, rfl, _, _, rfl, rfl, (by decide : (0 : Int) < 2147481901), ?_⟩⟩
    refine ⟨_, rfl, _, rfl, _, _, rfl, rfl, .inl ⟨by omega, by omega⟩, _, rfl, _, _, rfl, rfl, .inl ⟨by omega, by omega⟩, _, _, rfl, rfl, _, _, rfl, rfl, .inl ⟨_, rfl, _, _, rfl, rfl, (by decide : (0 : Int) < 2147480197), _, _, rfl, rfl, ⟨by decide, by decide⟩, .inl ⟨_, rfl, _, rfl, _, _, rfl, rfl, by omega, ?_⟩⟩⟩
    have key : ∀ x : Int, Q (.int (x % (n : Int))) H3 := fun x => by
      obtain ⟨d, hd, he⟩ := mod_nat x hn
      rw [he]
      exact k d _ hd x3 f3
    exact key _
/-! ### a pick -/
def spPick (K : PySem.W.Frag) : Sp := fun vs H Q _ => ∃ (a q : Addr) (xs : List V) (t : Nat), vs = [.ref a, .ref q] ∧ SqL K H q xs ∧ xs ≠ [] ∧ xs.length < 1000000 ∧ t ≤ 1000 ∧ FeedAt t a H ∧ ∀ (x : V) H', x ∈ xs → ExtF a H H' → FeedAt (t + 1) a H' → Q x H'
abbrev N__law_pick : List Str := ["feed", "some"]
abbrev P__law_pick : List Str := ["feed", "some"]
theorem sc__law_pick : FnScope N__law_pick P__law_pick (defScope s__law_pick) := ⟨rfl, rfl, rfl, by decide +kernel, rfl, by decide +kernel, by decide +kernel⟩
theorem ok__law_pick (T : Facts P K mg A B) : FnOk P w K mg base CX0 2 (A "_law_pick") (B "_law_pick") ["feed", "some"] (spPick K) := by
  refine T._law_pick.fn.ok sc__law_pick (fun vs H Q E h => ?_) (fun cdv Ar outer s H vs Q E hr h => ?_)
  · obtain ⟨a, q, xs, t, rfl, _⟩ := h
    rfl
  · obtain ⟨a, q, xs, t, rfl, hq, h0, hl, ht, hf, k⟩ := h
    refine ⟨_, ((pss_one (ps_ret (pe_ix (r := rIxL K) ix_list (pv 1) (pe_call (ok__law_draw T) (hr.mono (by decide)) rfl T._law_draw.mg T._law_draw.kp T._law_draw.bi .nil pass0 (pa_cons (pv 0) (pa_cons (pe_callB call_len_seq (by rfl) T.b_len PySem.boot_len (pa_cons (pv 1) pa_nil)) pa_nil))) (fun _ _ => rfl))))), ?_⟩
    obtain ⟨kvs, hk⟩ := hf.dk
    refine ⟨_, rfl, _, rfl, _, rfl, q, _, rfl, .inl hq, a, xs.length, t, rfl, List.length_pos_iff.mpr h0, hl, ht, hf, fun d H1 hd x1 f1 => ?_⟩
    exact ⟨q, xs, _, xs[d], rfl, rfl, sqL_extF x1 hk hq, atI_nat (List.getElem?_eq_getElem hd), k _ _ (List.getElem_mem hd) x1 f1⟩
end Og
set_option Elab.async false
set_option linter.all false
set_option maxRecDepth 100000
set_option maxHeartbeats 4000000
namespace Og
open PySem PySem.Spec PyProof.Rows L2 TL
variable {P : Program} {w : World} {K : PySem.W.Frag} {mg : Str → Option Value} {base : Heap} {A : Str → Addr} {B : Str → FuncData}
/-! ### texts of a length -/
def TxS (n : Nat) (z : Str) : Prop := z.length ≤ n ∧ OkC (tl z)
theorem S_tl (z : Str) : S (tl z) = z := ext_tl (tl_S _)
theorem TxS.okT {n : Nat} {z : Str} (h : TxS n z) (hn : n ≤ 2000) : ∃ l, z = S l ∧ OkT l := ⟨tl z, (S_tl z).symm, by
  have e := S_len (tl z)
  rw [S_tl] at e
  exact ⟨by have := h.1; omega, h.2⟩⟩
theorem TxS.mono {n m : Nat} {z : Str} (h : TxS n z) (e : n ≤ m) : TxS m z := ⟨Nat.le_trans h.1 e, h.2⟩
theorem len_tl (z : Str) : z.length = (tl z).length := by
  have e := S_len (tl z)
  rw [S_tl] at e
  exact e
theorem TxS.app {n m : Nat} {a b : Str} (h : TxS n a) (g : TxS m b) : TxS (n + m) (a ++ b) := by
  refine ⟨?_, fun c hc => ?_⟩
  · have h1 := h.1
    have h2 := g.1
    rw [len_tl] at h1 h2 ⊢
    rw [tl_append, List.length_append]
    omega
  · rw [tl_append, List.mem_append] at hc
    rcases hc with hc | hc
    · exact h.2 c hc
    · exact g.2 c hc
theorem TxS.cut {n : Nat} {z : Str} (h : TxS n z) (i j : Option Int) : TxS n (cutS z i j) := by
  have e : ∃ a b, tl (cutS z i j) = ((tl z).drop a).take b := ⟨_, _, by unfold cutS; rfl⟩
  obtain ⟨a, b, e⟩ := e
  refine ⟨?_, fun c hc => ?_⟩
  · have h1 := h.1
    rw [len_tl] at h1 ⊢
    rw [e, List.length_take, List.length_drop]
    omega
  · rw [e] at hc
    exact h.2 c (List.mem_of_mem_drop (List.mem_of_mem_take hc))
theorem TxS.line {n : Nat} {z : Str} (h : TxS n z) (hn : n ≤ 10000) : z.length ≤ sizeLine := by
  have := h.1
  rw [sizeLine_eq]
  omega
theorem TxS.app_line {n m : Nat} {a b : Str} (h : TxS n a) (g : TxS m b) (e : n + m ≤ 10000) : a.length + b.length ≤ sizeLine := by
  have := h.1
  have := g.1
  rw [sizeLine_eq]
  omega
/-- a written text -/
theorem txS {n : Nat} {z : Str} (h : (decide (z.cps.size ≤ n) && z.cps.all (· < 1114112)) = true) : TxS n z := by
  rw [Bool.and_eq_true] at h
  refine ⟨of_decide_eq_true h.1, fun c hc => ?_⟩
  have h2 := h.2
  simp only [Array.all_eq_true_iff_forall_mem, decide_eq_true_eq] at h2
  exact h2 c (Array.mem_toList_iff.mp hc)
/-! ### a line from its pieces -/
def spLine (K : PySem.W.Frag) : Sp := fun vs H Q _ => ∃ (e : Addr) (a b : Str), vs = [.ref e] ∧ TxS 8 a ∧ TxS 200 b ∧ (SqT K H e [.str a, .str b] ∨ ∃ c, TxS 200 c ∧ SqT K H e [.str a, .str b, .str c]) ∧ ∀ z, TxS 500 z → Q (.str z) H
abbrev N__law_line : List Str := ["event"]
abbrev P__law_line : List Str := ["event"]
theorem sc__law_line : FnScope N__law_line P__law_line (defScope s__law_line) := ⟨rfl, rfl, rfl, by decide +kernel, rfl, by decide +kernel, by decide +kernel⟩
theorem ok__law_line (T : Facts P K mg A B) : FnOk P w K mg base CX0 1 (A "_law_line") (B "_law_line") ["event"] (spLine K) := by
  refine T._law_line.fn.ok sc__law_line (fun vs H Q E h => ?_) (fun cdv Ar outer s H vs Q E hr h => ?_)
  · obtain ⟨e, a, b, rfl, _⟩ := h
    rfl
  · obtain ⟨e, a, b, rfl, ha, hb, hs, k⟩ := h
    refine ⟨_, ((pss_one (ps_ret (pe_op op_add_str (pe_op op_add_str (pe_op op_add_str (pe_ix (r := rIxT K) ix_tup (pv 0) pe_int (fun _ _ => rfl)) pe_str) (pe_ix (r := rIxT K) ix_tup (pv 0) pe_int (fun _ _ => rfl))) (pe_ifExp (pt_cmpR op_eq (pe_callB call_len_seq (by rfl) T.b_len PySem.boot_len (pa_cons (pv 0) pa_nil)) pe_int (nomark _)) (pe_op op_add_str pe_str (pe_ix (r := rIxT K) ix_tup (pv 0) pe_int (fun _ _ => rfl))) pe_str))))), ?_⟩
    have t1 : TxS 1 " " := txS (by decide +kernel)
    have t2 : TxS 2 ": " := txS (by decide +kernel)
    have t0 : TxS 0 "" := txS (by decide +kernel)
    rcases hs with hs | ⟨c, hc, hs⟩
    · refine ⟨_, rfl, e, _, _, .str a, rfl, rfl, hs, rfl, a, _, rfl, rfl, ha.app_line t1 (by omega), _, rfl, e, _, _, .str b, rfl, rfl, hs, rfl, _, _, rfl, rfl, (ha.app t1).app_line hb (by omega), _, rfl, e, _, rfl, .inr hs, rfl, _, rfl, ?_⟩
      refine iteDF (fun z => by cases z) ⟨_, _, rfl, rfl, ((ha.app t1).app hb).app_line t0 (by omega), k _ ((((ha.app t1).app hb).app t0).mono (by omega))⟩
    · refine ⟨_, rfl, e, _, _, .str a, rfl, rfl, hs, rfl, a, _, rfl, rfl, ha.app_line t1 (by omega), _, rfl, e, _, _, .str b, rfl, rfl, hs, rfl, _, _, rfl, rfl, (ha.app t1).app_line hb (by omega), _, rfl, e, _, rfl, .inr hs, rfl, _, rfl, ?_⟩
      refine iteD rfl ⟨_, rfl, e, _, _, .str c, rfl, rfl, hs, rfl, _, _, rfl, rfl, t2.app_line hc (by omega), _, _, rfl, rfl, ((ha.app t1).app hb).app_line (t2.app hc) (by omega), k _ ((((ha.app t1).app hb).app (t2.app hc)).mono (by omega))⟩
/-! ### a spoilt line -/
def spSpoilt : Sp := fun vs H Q _ => ∃ (a : Addr) (z : Str) (n t : Nat), vs = [.ref a, .str z] ∧ TxS n z ∧ n ≤ 1900 ∧ t + 3 ≤ 1000 ∧ FeedAt t a H ∧ ∀ (z' : Str) H', TxS (n + 4) z' → ExtF a H H' → FeedAt (t + 3) a H' → Q (.str z') H'
abbrev N__law_spoilt : List Str := ["feed", "line", "at", "way", "sign"]
abbrev P__law_spoilt : List Str := ["feed", "line"]
theorem sc__law_spoilt : FnScope N__law_spoilt P__law_spoilt (defScope s__law_spoilt) := ⟨rfl, rfl, rfl, by decide +kernel, rfl, by decide +kernel, by decide +kernel⟩
theorem ok__law_spoilt (T : Facts P K mg A B) : FnOk P w K mg base CX0 3 (A "_law_spoilt") (B "_law_spoilt") ["feed", "line"] spSpoilt := by
  refine T._law_spoilt.fn.ok sc__law_spoilt (fun vs H Q E h => ?_) (fun cdv Ar outer s H vs Q E hr h => ?_)
  · obtain ⟨a, z, n, t, rfl, _⟩ := h
    rfl
  · obtain ⟨a, z, n, t, rfl, hz, hn, ht, hf, k⟩ := h
    refine ⟨_, ((pss_cons (ps_par (by rfl) sc__law_spoilt.nd (i := 2) (j := 3) rfl rfl (by decide) rfl rfl (pa_cons (pe_call (ok__law_draw T) (hr.mono (by decide)) rfl T._law_draw.mg T._law_draw.kp T._law_draw.bi .nil pass0 (pa_cons (pv 0) (pa_cons (pe_op op_add (pe_callB call_len_str (by rfl) T.b_len PySem.boot_len (pa_cons (pv 1) pa_nil)) pe_int) pa_nil))) (pa_cons (pe_call (ok__law_draw T) (hr.mono (by decide)) rfl T._law_draw.mg T._law_draw.kp T._law_draw.bi .nil pass0 (pa_cons (pv 0) (pa_cons pe_int pa_nil))) pa_nil)) (by rfl))
      (pss_cons (ps_set (i := 4) sc__law_spoilt.nd rfl (Or.inl rfl) (pe_call (ok__law_pick T) (hr.mono (by decide)) rfl T._law_pick.mg T._law_pick.kp T._law_pick.bi .nil pass0 (pa_cons (pv 0) (pa_cons (pe_lst (pa_cons pe_str (pa_cons pe_str (pa_cons pe_str (pa_cons pe_str (pa_cons pe_str (pa_cons pe_str (pa_cons pe_str (pa_cons pe_str (pa_cons pe_str (pa_cons pe_str (pa_cons pe_str (pa_cons pe_str (pa_cons pe_str (pa_cons pe_str (pa_cons pe_str pa_nil)))))))))))))))) pa_nil))))
      (pss_cons (ps_if (pt_cmpR op_lt (pv 3) pe_int (nomark _)) (pss_one (ps_ret (pe_op op_add_str (pe_op op_add_str (pe_slice sl_str (pv 1) po_none (po_some (pv 2))) (pv 4)) (pe_slice sl_str (pv 1) (po_some (pv 2)) po_none)))) pss_nil)
      (pss_cons (ps_if (pt_cmpR op_lt (pv 3) pe_int (nomark _)) (pss_one (ps_ret (pe_op op_add_str (pe_slice sl_str (pv 1) po_none (po_some (pv 2))) (pe_slice sl_str (pv 1) (po_some (pe_op op_add (pv 2) pe_int)) po_none)))) pss_nil)
      (pss_cons (ps_if (pt_cmpR op_eq (pv 3) pe_int (nomark _)) (pss_one (ps_ret (pe_op op_add_str (pe_op op_add_str (pe_slice sl_str (pv 1) po_none (po_some (pv 2))) (pv 4)) (pe_slice sl_str (pv 1) (po_some (pe_op op_add (pv 2) pe_int)) po_none)))) pss_nil)
      (pss_cons (ps_if (pt_cmpR op_eq (pv 3) pe_int (nomark _)) (pss_one (ps_ret (pe_slice sl_str (pv 1) po_none (po_some (pv 2))))) pss_nil)
      (pss_cons (ps_if (pt_cmpR op_eq (pv 3) pe_int (nomark _)) (pss_one (ps_ret (pe_op op_add_str (pe_slice sl_str (pv 1) po_none (po_some (pv 2))) (pe_slice sl_str (pv 1) (po_some (pe_callB (call_max2 rfl) (by rfl) T.b_max (by decide +kernel) (pa_cons pe_int (pa_cons (pe_op op_sub (pv 2) pe_int) pa_nil)))) po_none)))) pss_nil)
      (pss_one (ps_ret (pe_op op_add_str (pv 1) (pv 4)))))))))))), ?_⟩
    have hzl := hz.line (by omega)
    have hz1 := hz.1
    refine ⟨_, rfl, _, rfl, _, rfl, hzl, _, _, rfl, rfl, a, z.length + 1, t, by push_cast; rfl, by omega, by omega, by omega, hf, fun at1 H1 hat x1 f1 => ?_⟩
    obtain ⟨l, rfl⟩ : ∃ l, z = S l := ⟨tl z, (S_tl z).symm⟩
    rw [S_len] at hat hzl hz1
    have hc := hz.2
    rw [tl_S] at hc
    refine ⟨_, rfl, a, 8, t + 1, rfl, by omega, by omega, by omega, f1, fun way H2 hway x2 f2 => ⟨_, _, rfl, ?_⟩⟩
    refine ⟨_, rfl, (by rw [sizeLine_eq]; decide : 15 ≤ sizeLine), fun q hq => ⟨a, q, _, t + 1 + 1, rfl, SqL.of upd_same, (fun z => by cases z), (by decide), by omega, f2.ext (Ext.new hq), fun x H3 hx x3 f3 => ?_⟩⟩
    have hx2 : ∃ g, x = .str (S g) ∧ g.length ≤ 4 ∧ OkC g := by
      have : ∃ z, x = .str z ∧ TxS 4 z := by
        simp only [List.mem_cons, List.not_mem_nil, or_false] at hx
        rcases hx with rfl | rfl | rfl | rfl | rfl | rfl | rfl | rfl | rfl | rfl | rfl | rfl | rfl | rfl | rfl <;> exact ⟨_, rfl, txS (by decide +kernel)⟩
      obtain ⟨z, rfl, h1, h2⟩ := this
      exact ⟨tl z, by rw [S_tl], by rw [← len_tl]; exact h1, h2⟩
    obtain ⟨g, rfl, hg4, hgc⟩ := hx2
    have xx : ExtF a H H3 := ((x1.trans x2).trans (ExtF.of (Ext.new hq))).trans x3
    have fin : ∀ m : List Nat, m.length ≤ n + 4 → (∀ c ∈ m, c ∈ l ∨ c ∈ g) → Q (.str (S m)) H3 := fun m h1 h2 => k _ _ ⟨by rw [S_len]; exact h1, by rw [tl_S]; exact fun c hm => (h2 c hm).elim (hc c) (hgc c)⟩ xx f3
    have line : ∀ m : Nat, m ≤ 4000 → m ≤ sizeLine := fun m h => by rw [sizeLine_eq]; omega
    have pre1 : cutS (S l) none (some (at1 : Int)) = S (l.take at1) := cut0N l at1 rfl
    have suf1 : cutS (S l) (some (at1 : Int)) none = S (l.drop at1) := cutN l at1 rfl
    have suf2 : cutS (S l) (some ((at1 : Int) + 1)) none = S (l.drop (at1 + 1)) := cutN l (at1 + 1) rfl
    dsimp only [gName]
    have h4 := List.length_take (i := at1) (l := l)
    have h5 := List.length_drop (i := at1) (l := l)
    have h6 := List.length_drop (i := at1 + 1) (l := l)
    have mt : ∀ {c i}, c ∈ l.take i → c ∈ l := fun h => List.mem_of_mem_take h
    have md : ∀ {c i}, c ∈ l.drop i → c ∈ l := fun h => List.mem_of_mem_drop h
    refine tseqIf ⟨_, rfl, _, _, rfl, rfl, _, rfl, ?_⟩
    by_cases w2 : ((way : Nat) : Int) < 2
    · refine iteD w2 ⟨_, rfl, _, rfl, _, rfl, S l, rfl, line _ (by rw [S_len]; omega), _, rfl, ?_⟩
      rw [pre1]
      refine ⟨_, _, rfl, rfl, line _ (by rw [S_len, S_len]; omega), _, rfl, _, rfl, _, rfl, S l, rfl, line _ (by rw [S_len]; omega), ?_⟩
      rw [suf1, S_app]
      refine ⟨_, _, rfl, rfl, line _ (by rw [S_len, S_len, List.length_append]; omega), ?_⟩
      rw [S_app]
      refine fin _ (by rw [List.length_append, List.length_append]; omega) fun c hm => ?_
      rw [List.mem_append, List.mem_append] at hm
      exact hm.elim (fun h => h.elim (fun h => .inl (mt h)) .inr) fun h => .inl (md h)
    refine iteDF w2 ?_
    dsimp only [tNext]
    refine tseqIf ⟨_, rfl, _, _, rfl, rfl, _, rfl, ?_⟩
    by_cases w4 : ((way : Nat) : Int) < 4
    · refine iteD w4 ⟨_, rfl, _, rfl, _, rfl, S l, rfl, line _ (by rw [S_len]; omega), _, rfl, _, rfl, _, _, rfl, rfl, _, rfl, S l, rfl, line _ (by rw [S_len]; omega), ?_⟩
      rw [pre1, suf2]
      refine ⟨_, _, rfl, rfl, line _ (by rw [S_len, S_len]; omega), ?_⟩
      rw [S_app]
      refine fin _ (by rw [List.length_append]; omega) fun c hm => ?_
      rw [List.mem_append] at hm
      exact hm.elim (fun h => .inl (mt h)) fun h => .inl (md h)
    refine iteDF w4 ?_
    dsimp only [tNext]
    refine tseqIf ⟨_, rfl, rfl, _, rfl, ?_⟩
    by_cases e4 : V.int ((way : Nat) : Int) = V.int 4
    · refine iteD e4 ⟨_, rfl, _, rfl, _, rfl, S l, rfl, line _ (by rw [S_len]; omega), _, rfl, ?_⟩
      rw [pre1]
      refine ⟨_, _, rfl, rfl, line _ (by rw [S_len, S_len]; omega), _, rfl, _, rfl, _, _, rfl, rfl, _, rfl, S l, rfl, line _ (by rw [S_len]; omega), ?_⟩
      rw [suf2, S_app]
      refine ⟨_, _, rfl, rfl, line _ (by rw [S_len, S_len, List.length_append]; omega), ?_⟩
      rw [S_app]
      refine fin _ (by rw [List.length_append, List.length_append]; omega) fun c hm => ?_
      rw [List.mem_append, List.mem_append] at hm
      exact hm.elim (fun h => h.elim (fun h => .inl (mt h)) .inr) fun h => .inl (md h)
    refine iteDF e4 ?_
    dsimp only [tNext]
    refine tseqIf ⟨_, rfl, rfl, _, rfl, ?_⟩
    by_cases e5 : V.int ((way : Nat) : Int) = V.int 5
    · refine iteD e5 ⟨_, rfl, _, rfl, _, rfl, S l, rfl, line _ (by rw [S_len]; omega), ?_⟩
      rw [pre1]
      exact fin _ (by omega) fun c hm => .inl (mt hm)
    refine iteDF e5 ?_
    dsimp only [tNext]
    refine tseqIf ⟨_, rfl, rfl, _, rfl, ?_⟩
    by_cases e6 : V.int ((way : Nat) : Int) = V.int 6
    · obtain ⟨m, hm, hmle⟩ : ∃ m : Nat, (if ((at1 : Int) - 3) > 0 then ((at1 : Int) - 3) else 0) = (m : Int) ∧ at1 ≤ m + 3 := by
        split
        · exact ⟨at1 - 3, by omega, by omega⟩
        · exact ⟨0, by omega, by omega⟩
      refine iteD e6 ⟨_, rfl, _, rfl, _, rfl, S l, rfl, line _ (by rw [S_len]; omega), _, rfl, _, rfl, _, _, rfl, rfl, _, _, rfl, _, rfl, S l, rfl, line _ (by rw [S_len]; omega), ?_⟩
      rw [pre1, hm, cutN l m rfl]
      have h7 := List.length_drop (i := m) (l := l)
      refine ⟨_, _, rfl, rfl, line _ (by rw [S_len, S_len]; omega), ?_⟩
      rw [S_app]
      refine fin _ (by rw [List.length_append]; omega) fun c hm => ?_
      rw [List.mem_append] at hm
      exact hm.elim (fun h => .inl (mt h)) fun h => .inl (md h)
    refine iteDF e6 ?_
    dsimp only [tNext]
    refine ⟨_, rfl, _, rfl, _, _, rfl, rfl, line _ (by rw [S_len, S_len]; omega), ?_⟩
    rw [S_app]
    refine fin _ (by rw [List.length_append]; omega) fun c hm => ?_
    rw [List.mem_append] at hm
    exact hm
end Og
set_option Elab.async false
set_option linter.all false
set_option maxRecDepth 100000
set_option maxHeartbeats 4000000
namespace Og
open PySem PySem.Spec PyProof.Rows L2 TL
variable {P : Program} {w : World} {K : PySem.W.Frag} {mg : Str → Option Value} {base : Heap} {A : Str → Addr} {B : Str → FuncData}
/-! ### the book: a tuple of pairs of texts -/
def RowAt (K : PySem.W.Frag) (H : Hp) (r : Addr) : Prop := ∃ a b, SqT K H r [.str a, .str b] ∧ TxS 8 a ∧ TxS 150 b
def BookAt (K : PySem.W.Frag) (H : Hp) (b : Addr) : Prop := ∃ rs : List Addr, SqT K H b (rs.map V.ref) ∧ rs.length ≤ 5 ∧ ∀ r ∈ rs, RowAt K H r
theorem RowAt.ext {H H' : Hp} {r : Addr} (e : Ext H H') (h : RowAt K H r) : RowAt K H' r := let ⟨a, b, h1, h2⟩ := h; ⟨a, b, sqT_ext e h1, h2⟩
theorem RowAt.extF {H H' : Hp} {r a : Addr} {kvs : List (Key × V)} (e : ExtF a H H') (ha : H a = some (.dK kvs)) (h : RowAt K H r) : RowAt K H' r := let ⟨x, y, h1, h2⟩ := h; ⟨x, y, sqT_extF e ha h1, h2⟩
theorem RowAt.extN {H H' : Hp} {r : Addr} (e : LamX.ExtN H H') (h : RowAt K H r) : RowAt K H' r := let ⟨x, y, h1, h2⟩ := h; ⟨x, y, sqT_extN e h1, h2⟩
theorem BookAt.ext {H H' : Hp} {b : Addr} (e : Ext H H') (h : BookAt K H b) : BookAt K H' b := let ⟨rs, h1, h2, h3⟩ := h; ⟨rs, sqT_ext e h1, h2, fun r hr => (h3 r hr).ext e⟩
theorem BookAt.extF {H H' : Hp} {b a : Addr} {kvs : List (Key × V)} (e : ExtF a H H') (ha : H a = some (.dK kvs)) (h : BookAt K H b) : BookAt K H' b := let ⟨rs, h1, h2, h3⟩ := h; ⟨rs, sqT_extF e ha h1, h2, fun r hr => (h3 r hr).extF e ha⟩
theorem BookAt.extN {H H' : Hp} {b : Addr} (e : LamX.ExtN H H') (h : BookAt K H b) : BookAt K H' b := let ⟨rs, h1, h2, h3⟩ := h; ⟨rs, sqT_extN e h1, h2, fun r hr => (h3 r hr).extN e⟩
theorem TxS.ok {n : Nat} {z : Str} (h : TxS n z) : PyData.strOk z = true := by
  have g := (Gd.str (k := 0) h.2).lay
  rw [S_tl, PyData.canLay0] at g
  exact g
theorem joinL_txs {sep : List Nat} {n : Nat} (hs : sep.length ≤ 2) (ho : OkC sep) : ∀ ps : List (List Nat), (∀ p ∈ ps, p.length ≤ n ∧ OkC p) → (joinL sep ps).length ≤ ps.length * (n + 2) ∧ OkC (joinL sep ps)
  | [], _ => ⟨Nat.zero_le _, fun c h => nomatch h⟩
  | [p], h => by
    have := h p List.mem_cons_self
    exact ⟨by show p.length ≤ 1 * (n + 2); omega, this.2⟩
  | p :: q :: r, h => by
    obtain ⟨h1, h2⟩ := joinL_txs hs ho (q :: r) fun x hx => h x (List.mem_cons_of_mem _ hx)
    obtain ⟨h3, h4⟩ := h p List.mem_cons_self
    constructor
    · show (p ++ (sep ++ joinL sep (q :: r))).length ≤ _
      rw [List.length_append, List.length_append, List.length_cons, Nat.succ_mul]
      omega
    · intro c hc
      have hc : c ∈ p ++ (sep ++ joinL sep (q :: r)) := hc
      rw [List.mem_append, List.mem_append] at hc
      exact hc.elim (h4 c) fun hc => hc.elim (ho c) (h2 c)
theorem join_txs {sep : Str} {n : Nat} (hs : TxS 2 sep) (ys : List Str) (h : ∀ y ∈ ys, TxS n y) : TxS (ys.length * (n + 2)) (Txt.join sep ys) := by
  have := joinL_txs (n := n) (by rw [← len_tl]; exact hs.1) hs.2 (ys.map tl) fun p hp => by
    obtain ⟨y, hy, rfl⟩ := List.mem_map.mp hp
    exact ⟨by rw [← len_tl]; exact (h y hy).1, (h y hy).2⟩
  rw [List.length_map] at this
  unfold TxS
  rw [len_tl, join_eq, tl_join]
  exact this
theorem sum_txs {n : Nat} : ∀ ys : List Str, (∀ y ∈ ys, TxS n y) → (ys.map (·.length)).sum ≤ ys.length * n
  | [], _ => Nat.zero_le _
  | y :: ys, h => by
    have h1 := sum_txs ys fun x hx => h x (List.mem_cons_of_mem _ hx)
    have h2 := (h y List.mem_cons_self).1
    rw [List.map_cons, List.sum_cons, List.length_cons, Nat.succ_mul]
    omega
/-- as data -/
def PairsD : List PyData → Prop := fun ds => ∀ d ∈ ds, ∃ a b, d = .tuple [.str a, .str b] ∧ PyData.strOk a = true ∧ PyData.strOk b = true
theorem rows_dp {H : Hp} : ∀ {rs : List Addr}, (∀ r ∈ rs, RowAt K H r) → ∃ ds, DpAll K H (rs.map V.ref) ds ∧ PairsD ds ∧ ds.length = rs.length
  | [], _ => ⟨[], .nil, (fun d h => nomatch h), rfl⟩
  | r :: rs, h => by
    obtain ⟨ds, h1, h2, h3⟩ := rows_dp fun x hx => h x (List.mem_cons_of_mem _ hx)
    obtain ⟨a, b, h4, h5, h6⟩ := h r List.mem_cons_self
    refine ⟨.tuple [.str a, .str b] :: ds, .cons (.tup h4 (.cons (.str a) (.cons (.str b) .nil))) h1, fun d hd => ?_, by simp [h3]⟩
    rcases List.mem_cons.mp hd with rfl | hd
    · exact ⟨a, b, rfl, h5.ok, h6.ok⟩
    · exact h2 d hd
theorem pairs_shaped {ds : List PyData} (h : PairsD ds) : SeqAt.shaped (.tuple ds) = true := by
  have hl : ∀ ds : List PyData, PairsD ds → PyData.canLayAll0 ds = true ∧ PyData.depthAll ds ≤ 3 := by
    intro ds
    induction ds with
    | nil => intro _; simp [PyData.canLayAll0, PyData.depthAll]
    | cons d ds ih =>
      intro h
      obtain ⟨a, b, rfl, h5, h6⟩ := h d List.mem_cons_self
      obtain ⟨h1, h2⟩ := ih fun x hx => h x (List.mem_cons_of_mem _ hx)
      constructor
      · simp [PyData.canLayAll0, PyData.canLay0, h1, h5, h6]
      · simp [PyData.depthAll, PyData.depth]; omega
  obtain ⟨h1, h2⟩ := hl ds h
  unfold SeqAt.shaped
  have e1 : (PyData.tuple ds).canLay0 = true := by simp [PyData.canLay0, h1]
  have e2 : (PyData.tuple ds).depth ≤ 64 := by simp [PyData.depth]; omega
  rw [e1, decide_eq_true e2]
  rfl
/-! ### the opening's entries -/
def spEntries (K : PySem.W.Frag) : Sp := fun vs H Q _ => ∃ b : Addr, vs = [.ref b] ∧ BookAt K H b ∧ ∀ z H', Ext H H' → TxS 900 z → Q (.str z) H'
abbrev N__law_entries : List Str := ["book", "row"]
abbrev P__law_entries : List Str := ["book"]
theorem sc__law_entries : FnScope N__law_entries P__law_entries (defScope s__law_entries) := ⟨rfl, rfl, rfl, by decide +kernel, rfl, by decide +kernel, by decide +kernel⟩
theorem ok__law_entries (T : Facts P K mg A B) : FnOk P w K mg base CX0 1 (A "_law_entries") (B "_law_entries") ["book"] (spEntries K) := by
  refine T._law_entries.fn.ok sc__law_entries (fun vs H Q E h => ?_) (fun cdv Ar outer s H vs Q E hr h => ?_)
  · obtain ⟨b, rfl, _⟩ := h
    rfl
  · obtain ⟨b, rfl, hb, k⟩ := h
    refine ⟨_, ((pss_one (ps_ret (pe_ifExp (pt_cmpR (op_neD hr.units) (pv 0) (pe_tup pa_nil) (nomark _)) (pe_join pe_str (pe_lc (own := [("row", 1)]) (g := gName 1) (tt := tYes) rfl sc__law_entries.nd (pi_tup (pv 0)) (blkOk_by (own := [("row", 1)]) (N := N__law_entries) (sc := defScope s__law_entries) (by decide +kernel)) (fun _ _ _ _ _ => (pg_name (i := 1) sc__law_entries.nd rfl (Or.inl rfl))) (fun _ _ _ _ _ => pts_nil) (fun _ _ _ _ _ => (pe_op op_add_str (pe_op op_add_str (pe_ix (r := rIxT K) ix_tup (pv 1) pe_int (fun _ _ => rfl)) pe_str) (pe_ix (r := rIxT K) ix_tup (pv 1) pe_int (fun _ _ => rfl)))))) pe_str)))), ?_⟩
    obtain ⟨rs, hs, hl, hrs⟩ := hb
    obtain ⟨ds, hd1, hd2, hd3⟩ := rows_dp hrs
    have t2 : TxS 2 ": " := txS (by decide +kernel)
    refine ⟨_, rfl, Nat.zero_le _, fun p hp => ?_⟩
    have x1 : Ext H (upd H p (.tup [])) := Ext.new hp
    have ht : upd H p (.tup []) p = some (.tup []) := upd_same
    generalize upd H p (.tup []) = H1 at x1 ht
    have hs1 := sqT_ext x1 hs
    refine ⟨_, _, .tup hs1 (dpAll_ext x1 _ _ hd1), .tup (SqT.of ht) .nil, pairs_shaped hd2, by decide, _, rfl, ?_⟩
    cases hb : !PyData.eqv (.tuple ds) (.tuple []) with
    | false => exact iteF (k _ _ x1 (txS (by decide +kernel)))
    | true =>
      refine iteB rfl ⟨⟨_, rfl⟩, _, rfl, b, rfl, ⟨_, hs1⟩, fun D hD => lc_tup (xs := rs.map V.ref) (fun i H7 => Ext H1 H7 ∧ ∃ ys : List Str, H7 D = some (.lst (ys.map V.str)) ∧ ys.length = i ∧ ∀ y ∈ ys, TxS 160 y) ⟨Ext.new hD, [], upd_same, rfl, (fun y h => nomatch h)⟩ (fun i H7 _ p => sqT_ext p.1 hs1) (fun i x H7 hx p => ?_) (fun H7 p => ?_)⟩
      · rw [List.getElem?_map] at hx
        obtain ⟨r, hr, rfl⟩ := Option.map_eq_some_iff.mp hx
        obtain ⟨x7, ys, hD7, hyl, hys⟩ := p
        obtain ⟨u, v, hr1, hu, hv⟩ := ((hrs r (List.mem_of_getElem? hr)).ext x1).ext x7
        refine ⟨rfl, ?_⟩
        unfold tYes
        refine iteT ⟨_, rfl, r, _, _, .str u, rfl, rfl, hr1, rfl, _, _, rfl, rfl, hu.app_line t2 (by omega), _, rfl, r, _, _, .str v, rfl, rfl, hr1, rfl, _, _, rfl, rfl, (hu.app t2).app_line hv (by omega), _, hD7, ?_, x7.upd hD, ys ++ [(u ++ ": ") ++ v], ?_, by rw [List.length_append, hyl]; rfl, fun y hy => ?_⟩
        · rw [List.length_map, hyl, sizeLine_eq]
          have := (List.getElem?_eq_some_iff.mp hr).1
          omega
        · rw [upd_same, List.map_append]; rfl
        · rcases List.mem_append.mp hy with hy | hy
          · exact hys y hy
          · rw [List.mem_singleton.mp hy]
            exact ((hu.app t2).app hv).mono (by omega)
      · obtain ⟨x7, ys, hD7, hyl, hys⟩ := p
        rw [List.length_map] at hyl
        have hsum := sum_txs ys hys
        refine ⟨_, D, ys, rfl, rfl, .inl (SqL.of hD7), ?_, k _ _ (x1.trans x7) ((join_txs (txS (by decide +kernel)) ys hys).mono ?_)⟩
        · have : (", " : Str).length = 2 := by decide +kernel
          rw [this]
          omega
        · omega
end Og
set_option Elab.async false
set_option linter.all false
set_option maxRecDepth 100000
set_option maxHeartbeats 4000000
namespace Og
open PySem PySem.Spec PyProof.Rows L2 TL
variable {P : Program} {w : World} {K : PySem.W.Frag} {mg : Str → Option Value} {base : Heap} {A : Str → Addr} {B : Str → FuncData}
/-! ### some line -/
def TxVs (n : Nat) (xs : List V) : Prop := ∀ x ∈ xs, ∃ z, x = .str z ∧ TxS n z
theorem TxVs.app {n : Nat} {xs ys : List V} (h : TxVs n xs) (g : TxVs n ys) : TxVs n (xs ++ ys) := fun x hx => (List.mem_append.mp hx).elim (h x) (g x)
theorem TxVs.strs {n : Nat} {ys : List Str} (h : ∀ y ∈ ys, TxS n y) : TxVs n (ys.map V.str) := fun x hx => by
  obtain ⟨y, hy, rfl⟩ := List.mem_map.mp hx
  exact ⟨y, rfl, h y hy⟩
def spSomeLine (K : PySem.W.Frag) : Sp := fun vs H Q _ => ∃ (a b : Addr) (wish : Str) (t : Nat), vs = [.ref a, .ref b, .str wish] ∧ BookAt K H b ∧ TxS 150 wish ∧ t + 3 ≤ 1000 ∧ FeedAt t a H ∧ ∀ z H', TxS 500 z → ExtF a H H' → FeedAt (t + 3) a H' → Q (.str z) H'
abbrev N__law_some_line : List Str := ["feed", "book", "wish", "names", "word", "name", "kinds", "kind", "row"]
abbrev P__law_some_line : List Str := ["feed", "book", "wish"]
theorem sc__law_some_line : FnScope N__law_some_line P__law_some_line (defScope s__law_some_line) := ⟨rfl, rfl, rfl, by decide +kernel, rfl, by decide +kernel, by decide +kernel⟩
theorem ok__law_some_line (T : Facts P K mg A B) : FnOk P w K mg base CX0 4 (A "_law_some_line") (B "_law_some_line") ["feed", "book", "wish"] (spSomeLine K) := by
  refine T._law_some_line.fn.ok sc__law_some_line (fun vs H Q E h => ?_) (fun cdv Ar outer s H vs Q E hr h => ?_)
  · obtain ⟨a, b, wish, t, rfl, _⟩ := h
    rfl
  · obtain ⟨a, b, wish, t, rfl, hb, hw, ht, hf, k⟩ := h
    refine ⟨_, ((pss_cons (ps_set (i := 3) sc__law_some_line.nd rfl (Or.inl rfl) (pe_op op_cat (pe_lc (own := [("row", 8)]) (g := gName 8) (tt := tYes) rfl sc__law_some_line.nd (pi_tup (pv 1)) (blkOk_by (own := [("row", 8)]) (N := N__law_some_line) (sc := defScope s__law_some_line) (by decide +kernel)) (fun _ _ _ _ _ => (pg_name (i := 8) sc__law_some_line.nd rfl (Or.inl rfl))) (fun _ _ _ _ _ => pts_nil) (fun _ _ _ _ _ => (pe_ix (r := rIxT K) ix_tup (pv 8) pe_int (fun _ _ => rfl)))) (pe_lst (pa_cons pe_str (pa_cons pe_str pa_nil)))))
      (pss_cons (ps_set (i := 4) sc__law_some_line.nd rfl (Or.inl rfl) (pe_call (ok__law_pick T) (hr.mono (by decide)) rfl T._law_pick.mg T._law_pick.kp T._law_pick.bi .nil pass0 (pa_cons (pv 0) (pa_cons (pe_lst (pa_cons pe_str (pa_cons pe_str (pa_cons pe_str (pa_cons pe_str (pa_cons pe_str (pa_cons pe_str pa_nil))))))) pa_nil))))
      (pss_cons (ps_set (i := 5) sc__law_some_line.nd rfl (Or.inl rfl) (pe_call (ok__law_pick T) (hr.mono (by decide)) rfl T._law_pick.mg T._law_pick.kp T._law_pick.bi .nil pass0 (pa_cons (pv 0) (pa_cons (pv 3) pa_nil))))
      (pss_cons (ps_set (i := 6) sc__law_some_line.nd rfl (Or.inl rfl) (pe_op op_cat (pe_lc (own := [("row", 8)]) (g := gName 8) (tt := tYes) rfl sc__law_some_line.nd (pi_tup (pv 1)) (blkOk_by (own := [("row", 8)]) (N := N__law_some_line) (sc := defScope s__law_some_line) (by decide +kernel)) (fun _ _ _ _ _ => (pg_name (i := 8) sc__law_some_line.nd rfl (Or.inl rfl))) (fun _ _ _ _ _ => pts_nil) (fun _ _ _ _ _ => (pe_ix (r := rIxT K) ix_tup (pv 8) pe_int (fun _ _ => rfl)))) (pe_lst (pa_cons (pv 2) (pa_cons pe_str (pa_cons pe_str (pa_cons pe_str pa_nil)))))))
      (pss_cons (ps_set (i := 7) sc__law_some_line.nd rfl (Or.inl rfl) (pe_call (ok__law_pick T) (hr.mono (by decide)) rfl T._law_pick.mg T._law_pick.kp T._law_pick.bi .nil pass0 (pa_cons (pv 0) (pa_cons (pv 6) pa_nil))))
      (pss_cons (ps_if (pt_cmpR op_in_seq (pv 4) (pe_tup (pa_cons pe_str (pa_cons pe_str pa_nil))) (by rfl)) (pss_one (ps_ret (pe_call (ok__law_line T) (hr.mono (by decide)) rfl T._law_line.mg T._law_line.kp T._law_line.bi .nil pass0 (pa_cons (pe_tup (pa_cons (pv 4) (pa_cons (pv 5) (pa_cons (pv 7) pa_nil)))) pa_nil)))) pss_nil)
      (pss_one (ps_ret (pe_ifExp (pt_cmpR op_eq (pv 4) pe_str (nomark _)) (pe_call (ok__law_line T) (hr.mono (by decide)) rfl T._law_line.mg T._law_line.kp T._law_line.bi .nil pass0 (pa_cons (pe_tup (pa_cons (pv 4) (pa_cons (pv 5) pa_nil))) pa_nil)) (pe_call (ok__law_line T) (hr.mono (by decide)) rfl T._law_line.mg T._law_line.kp T._law_line.bi .nil pass0 (pa_cons (pe_tup (pa_cons (pv 4) (pa_cons (pv 7) pa_nil))) pa_nil)))))))))))), ?_⟩
    have line : ∀ m : Nat, m ≤ 4000 → m ≤ sizeLine := fun m h => by rw [sizeLine_eq]; omega
    obtain ⟨kvs, hk⟩ := hf.dk
    obtain ⟨rs, hs, hl, hrs⟩ := hb
    -- the names
    refine ⟨_, rfl, b, rfl, ⟨_, hs⟩, fun D hD => lc_tup (xs := rs.map V.ref) (fun i H7 => Ext H H7 ∧ ∃ ys : List Str, H7 D = some (.lst (ys.map V.str)) ∧ ys.length = i ∧ ∀ y ∈ ys, TxS 8 y) ⟨Ext.new hD, [], upd_same, rfl, (fun y h => nomatch h)⟩ (fun i H7 _ p => sqT_ext p.1 hs) (fun i x H7 hx p => ?_) (fun H7 p => ?_)⟩
    · rw [List.getElem?_map] at hx
      obtain ⟨r, hr1, rfl⟩ := Option.map_eq_some_iff.mp hx
      obtain ⟨x7, ys, hD7, hyl, hys⟩ := p
      obtain ⟨u, v, hr2, hu, hv⟩ := (hrs r (List.mem_of_getElem? hr1)).ext x7
      refine ⟨rfl, ?_⟩
      unfold tYes
      refine iteT ⟨_, rfl, r, _, _, .str u, rfl, rfl, hr2, rfl, _, hD7, ?_, x7.upd hD, ys ++ [u], ?_, by rw [List.length_append, hyl]; rfl, fun y hy => ?_⟩
      · rw [List.length_map, hyl]
        have := (List.getElem?_eq_some_iff.mp hr1).1
        exact (Nat.lt_of_lt_of_le (by omega : i < 4000) (line 4000 (by omega)))
      · rw [upd_same, List.map_append]; rfl
      · rcases List.mem_append.mp hy with hy | hy
        · exact hys y hy
        · rw [List.mem_singleton.mp hy]
          exact hu
    obtain ⟨x7, ys, hD7, hyl, hys⟩ := p
    rw [List.length_map] at hyl
    refine ⟨line 2 (by omega), fun q hq => ?_⟩
    have e1 := Ext.new (o := .lst [V.str "a", V.str "abcdefgh"]) hq
    refine ⟨D, q, _, _, rfl, rfl, e1 _ _ hD7, upd_same, line _ (by rw [List.length_map]; show _ + 2 ≤ _; omega), fun n hn => ?_⟩
    have hN : upd (upd H7 q (.lst [V.str "a", V.str "abcdefgh"])) n (.lst (ys.map V.str ++ [V.str "a", V.str "abcdefgh"])) n = some (.lst (ys.map V.str ++ [V.str "a", V.str "abcdefgh"])) := upd_same
    have x1 := (x7.trans e1).trans (Ext.new (o := .lst (ys.map V.str ++ [V.str "a", V.str "abcdefgh"])) hn)
    generalize upd (upd H7 q (.lst [V.str "a", V.str "abcdefgh"])) n (.lst (ys.map V.str ++ [V.str "a", V.str "abcdefgh"])) = H1 at x1 hN
    have tN : TxVs 8 (ys.map V.str ++ [V.str "a", V.str "abcdefgh"]) := TxVs.app (TxVs.strs hys) (by
      show TxVs 8 ((["a", "abcdefgh"] : List Str).map V.str)
      exact TxVs.strs (by simp only [List.mem_cons, List.not_mem_nil, or_false]; rintro y (rfl | rfl) <;> exact txS (by decide +kernel)))
    have lN : (ys.map V.str ++ [V.str "a", V.str "abcdefgh"]).length < 1000000 := by rw [List.length_append, List.length_map]; show _ + 2 < _; omega
    have nN : ys.map V.str ++ [V.str "a", V.str "abcdefgh"] ≠ [] := by simp
    generalize ys.map V.str ++ [V.str "a", V.str "abcdefgh"] = Ns at *
    clear hD7
    -- the word
    have f1 := hf.ext x1
    have hk1 := x1 _ _ hk
    refine ⟨_, rfl, line 6 (by omega), fun q2 hq2 => ⟨a, q2, _, t, rfl, SqL.of upd_same, (fun z => by cases z), (by decide), by omega, f1.ext (Ext.new hq2), fun word H2 hword x2' f2 => ?_⟩⟩
    have x2 : ExtF a H1 H2 := (ExtF.of (Ext.new hq2)).trans x2'
    obtain ⟨wd, rfl, hwd⟩ : ∃ z, word = .str z ∧ TxS 8 z := by
      simp only [List.mem_cons, List.not_mem_nil, or_false] at hword
      rcases hword with rfl | rfl | rfl | rfl | rfl | rfl <;> exact ⟨_, rfl, txS (by decide +kernel)⟩
    have hk2 := hf
    obtain ⟨kvs2, hk2⟩ := f2.dk
    refine ⟨_, rfl, _, rfl, a, n, Ns, t + 1, rfl, SqL.of (at_extF x2 hk1 (fun k z => by cases z) hN), nN, lN, by omega, f2, fun name H3 hname x3 f3 => ?_⟩
    obtain ⟨nm, rfl, hnm⟩ := tN name hname
    have x13 := x2.trans x3
    have hs3 : SqT K H3 b (rs.map V.ref) := sqT_extF x13 hk1 (sqT_ext x1 hs)
    have hrs3 : ∀ r ∈ rs, RowAt K H3 r := fun r h => ((hrs r h).ext x1).extF x13 hk1
    -- the kinds
    refine ⟨_, rfl, b, rfl, ⟨_, hs3⟩, fun D hD => lc_tup (xs := rs.map V.ref) (fun i H7 => Ext H3 H7 ∧ ∃ ys : List Str, H7 D = some (.lst (ys.map V.str)) ∧ ys.length = i ∧ ∀ y ∈ ys, TxS 150 y) ⟨Ext.new hD, [], upd_same, rfl, (fun y h => nomatch h)⟩ (fun i H7 _ p => sqT_ext p.1 hs3) (fun i x H7 hx p => ?_) (fun H7 p => ?_)⟩
    · rw [List.getElem?_map] at hx
      obtain ⟨r, hr1, rfl⟩ := Option.map_eq_some_iff.mp hx
      obtain ⟨x7, ys, hD7, hyl, hys⟩ := p
      obtain ⟨u, v, hr2, hu, hv⟩ := (hrs3 r (List.mem_of_getElem? hr1)).ext x7
      refine ⟨rfl, ?_⟩
      unfold tYes
      refine iteT ⟨_, rfl, r, _, _, .str v, rfl, rfl, hr2, rfl, _, hD7, ?_, x7.upd hD, ys ++ [v], ?_, by rw [List.length_append, hyl]; rfl, fun y hy => ?_⟩
      · rw [List.length_map, hyl]
        have := (List.getElem?_eq_some_iff.mp hr1).1
        exact (Nat.lt_of_lt_of_le (by omega : i < 4000) (line 4000 (by omega)))
      · rw [upd_same, List.map_append]; rfl
      · rcases List.mem_append.mp hy with hy | hy
        · exact hys y hy
        · rw [List.mem_singleton.mp hy]
          exact hv
    obtain ⟨x7, ys, hD7, hyl, hys⟩ := p
    rw [List.length_map] at hyl
    refine ⟨_, rfl, line 4 (by omega), fun q hq => ?_⟩
    have hwq : TxS 150 wish := hw
    have e3 := Ext.new (o := .lst [V.str wish, V.str "p", V.str "(p -> q) -> r -> s", V.str "((p -> q) -> p) -> abcdefgh"]) hq
    refine ⟨D, q, _, _, rfl, rfl, e3 _ _ hD7, upd_same, line _ (by rw [List.length_map]; show _ + 4 ≤ _; omega), fun m hm => ?_⟩
    have hM : upd (upd H7 q (.lst [V.str wish, V.str "p", V.str "(p -> q) -> r -> s", V.str "((p -> q) -> p) -> abcdefgh"])) m (.lst (ys.map V.str ++ [V.str wish, V.str "p", V.str "(p -> q) -> r -> s", V.str "((p -> q) -> p) -> abcdefgh"])) m = some (.lst (ys.map V.str ++ [V.str wish, V.str "p", V.str "(p -> q) -> r -> s", V.str "((p -> q) -> p) -> abcdefgh"])) := upd_same
    have x4 := (x7.trans e3).trans (Ext.new (o := .lst (ys.map V.str ++ [V.str wish, V.str "p", V.str "(p -> q) -> r -> s", V.str "((p -> q) -> p) -> abcdefgh"])) hm)
    generalize upd (upd H7 q (.lst [V.str wish, V.str "p", V.str "(p -> q) -> r -> s", V.str "((p -> q) -> p) -> abcdefgh"])) m (.lst (ys.map V.str ++ [V.str wish, V.str "p", V.str "(p -> q) -> r -> s", V.str "((p -> q) -> p) -> abcdefgh"])) = H4 at x4 hM
    have tM : TxVs 150 (ys.map V.str ++ [V.str wish, V.str "p", V.str "(p -> q) -> r -> s", V.str "((p -> q) -> p) -> abcdefgh"]) := TxVs.app (TxVs.strs hys) (by
      show TxVs 150 (([wish, "p", "(p -> q) -> r -> s", "((p -> q) -> p) -> abcdefgh"] : List Str).map V.str)
      exact TxVs.strs (by simp only [List.mem_cons, List.not_mem_nil, or_false]; rintro y (rfl | rfl | rfl | rfl); exact hw; all_goals exact txS (by decide +kernel)))
    have lM : (ys.map V.str ++ [V.str wish, V.str "p", V.str "(p -> q) -> r -> s", V.str "((p -> q) -> p) -> abcdefgh"]).length < 1000000 := by rw [List.length_append, List.length_map]; show _ + 4 < _; omega
    have nM : ys.map V.str ++ [V.str wish, V.str "p", V.str "(p -> q) -> r -> s", V.str "((p -> q) -> p) -> abcdefgh"] ≠ [] := by simp
    generalize ys.map V.str ++ [V.str wish, V.str "p", V.str "(p -> q) -> r -> s", V.str "((p -> q) -> p) -> abcdefgh"] = Ms at *
    refine ⟨_, rfl, _, rfl, a, m, Ms, t + 1 + 1, rfl, SqL.of hM, nM, lM, by omega, f3.ext x4, fun kind H5 hkind x5 f5 => ?_⟩
    obtain ⟨kd, rfl, hkd⟩ := tM kind hkind
    have xx : ExtF a H H5 := (((ExtF.of x1).trans x13).trans (ExtF.of x4)).trans x5
    dsimp only [gName]
    refine tseqIf ⟨_, rfl, line 2 (by omega), fun u hu => ⟨u, _, rfl, .inr (SqT.of upd_same), rfl, rfl, _, rfl, ?_⟩⟩
    have x6 := xx.trans (ExtF.of (Ext.new (o := .tup [V.str "name", V.str "kind"]) hu))
    have f6 := f5.ext (Ext.new (o := .tup [V.str "name", V.str "kind"]) hu)
    generalize upd H5 u (.tup [V.str "name", V.str "kind"]) = H6 at x6 f6
    cases hin : inV (V.str wd) [V.str "name", V.str "kind"] with
    | true =>
      refine iteB rfl ⟨_, rfl, _, rfl, _, rfl, line 3 (by omega), fun v hv => ⟨v, wd, nm, rfl, hwd, hnm.mono (by omega), .inr ⟨kd, hkd.mono (by omega), SqT.of upd_same⟩, fun z hz => k z _ hz (x6.trans (ExtF.of (Ext.new hv))) (f6.ext (Ext.new hv))⟩⟩
    | false =>
      refine iteBF rfl ?_
      dsimp only [tNext]
      refine ⟨_, rfl, rfl, _, rfl, ?_⟩
      by_cases hd : V.str wd = V.str "drop"
      · exact iteD hd ⟨_, rfl, _, rfl, line 2 (by omega), fun v hv => ⟨v, wd, nm, rfl, hwd, hnm.mono (by omega), .inl (SqT.of upd_same), fun z hz => k z _ hz (x6.trans (ExtF.of (Ext.new hv))) (f6.ext (Ext.new hv))⟩⟩
      · exact iteDF hd ⟨_, rfl, _, rfl, line 2 (by omega), fun v hv => ⟨v, wd, kd, rfl, hwd, hkd.mono (by omega), .inl (SqT.of upd_same), fun z hz => k z _ hz (x6.trans (ExtF.of (Ext.new hv))) (f6.ext (Ext.new hv))⟩⟩
end Og
set_option Elab.async false
set_option linter.all false
set_option maxRecDepth 100000
set_option maxHeartbeats 4000000
namespace Og
open PySem PySem.Spec PyProof.Rows L2 TL
variable {P : Program} {w : World} {K : PySem.W.Frag} {mg : Str → Option Value} {base : Heap} {A : Str → Addr} {B : Str → FuncData}
/-! ### the written texts -/
theorem spl_all {sep : List Nat} : ∀ (r : List Nat) (k : Nat) (acc : List Nat), (spl sep k acc r).length ≤ r.length + 1 ∧ ∀ p ∈ spl sep k acc r, p.length ≤ acc.length + r.length ∧ ∀ c ∈ p, c ∈ acc ∨ c ∈ r
  | [], k, acc => by
    rw [spl_nil]
    refine ⟨Nat.le_refl _, fun p hp => ?_⟩
    rw [List.mem_singleton.mp hp]
    exact ⟨Nat.le_add_right _ _, fun c hc => .inl hc⟩
  | d :: r, 0, acc => by
    by_cases h : pre sep (d :: r) = true
    · rw [spl_hit h]
      obtain ⟨h1, h2⟩ := spl_all (sep := sep) r (sep.length - 1) []
      refine ⟨by rw [List.length_cons, List.length_cons]; omega, fun p hp => ?_⟩
      rcases List.mem_cons.mp hp with rfl | hp
      · exact ⟨Nat.le_add_right _ _, fun c hc => .inl hc⟩
      · obtain ⟨h3, h4⟩ := h2 p hp
        rw [List.length_nil] at h3
        exact ⟨by rw [List.length_cons]; omega, fun c hc => .inr (List.mem_cons_of_mem _ ((h4 c hc).elim (fun z => nomatch z) id))⟩
    · rw [spl_miss (by simpa using h)]
      obtain ⟨h1, h2⟩ := spl_all (sep := sep) r 0 (acc ++ [d])
      refine ⟨by rw [List.length_cons]; omega, fun p hp => ?_⟩
      obtain ⟨h3, h4⟩ := h2 p hp
      rw [List.length_append, List.length_singleton] at h3
      refine ⟨by rw [List.length_cons]; omega, fun c hc => ?_⟩
      rcases h4 c hc with z | z
      · rcases List.mem_append.mp z with z | z
        · exact .inl z
        · rw [List.mem_singleton.mp z]; exact .inr List.mem_cons_self
      · exact .inr (List.mem_cons_of_mem _ z)
  | d :: r, k + 1, acc => by
    show (spl sep k acc r).length ≤ _ ∧ ∀ p ∈ spl sep k acc r, _
    obtain ⟨h1, h2⟩ := spl_all (sep := sep) r k acc
    refine ⟨by rw [List.length_cons]; omega, fun p hp => ?_⟩
    obtain ⟨h3, h4⟩ := h2 p hp
    exact ⟨by rw [List.length_cons]; omega, fun c hc => (h4 c hc).imp id (List.mem_cons_of_mem _)⟩
theorem split_txs {n : Nat} {z y : Str} (h : TxS n z) (hy : tl y ≠ []) (h256 : y.cps.all (· < 256) = true) : (Txt.split z y).length ≤ n + 1 ∧ ∀ p ∈ Txt.split z y, TxS n p := by
  have e := split_spl z y hy (kind_ok h256)
  obtain ⟨h1, h2⟩ := spl_all (sep := tl y) (tl z) 0 []
  rw [← e] at h1 h2
  rw [List.length_map, ← len_tl] at h1
  have h3 := h.1
  refine ⟨by omega, fun p hp => ?_⟩
  obtain ⟨h4, h5⟩ := h2 (tl p) (List.mem_map_of_mem hp)
  rw [List.length_nil, ← len_tl, ← len_tl] at h4
  exact ⟨by omega, fun c hc => h.2 c ((h5 c hc).elim (fun z => nomatch z) id)⟩
def spTexts : Sp := fun vs H Q _ => vs = [] ∧ ∀ (p : Addr) (ys : List Str) H', Ext H H' → H' p = some (.lst (ys.map V.str)) → ys.length ≤ 1801 → (∀ y ∈ ys, TxS 1800 y) → Q (.ref p) H'
abbrev N__law_hands : List Str := ["some"]
abbrev P__law_hands : List Str := []
theorem sc__law_hands : FnScope N__law_hands P__law_hands (defScope s__law_hands) := ⟨rfl, rfl, rfl, by decide +kernel, rfl, by decide +kernel, by decide +kernel⟩
theorem ok__law_hands (T : Facts P K mg A B) : FnOk P w K mg base CX0 1 (A "_law_hands") (B "_law_hands") [] spTexts := by
  refine T._law_hands.fn.ok sc__law_hands (fun vs H Q E h => ?_) (fun cdv Ar outer s H vs Q E hr h => ?_)
  · rw [h.1]; rfl
  · obtain ⟨rfl, k⟩ := h
    refine ⟨_, ((pss_cons (ps_set (i := 0) sc__law_hands.nd rfl (Or.inl rfl) pe_str)
      (pss_cons (ps_set (i := 0) sc__law_hands.nd rfl (Or.inl rfl) (pe_op op_add_str (pv 0) pe_str))
      (pss_cons (ps_set (i := 0) sc__law_hands.nd rfl (Or.inl rfl) (pe_op op_add_str (pv 0) pe_str))
      (pss_cons (ps_set (i := 0) sc__law_hands.nd rfl (Or.inl rfl) (pe_op op_add_str (pv 0) pe_str))
      (pss_cons (ps_set (i := 0) sc__law_hands.nd rfl (Or.inl rfl) (pe_op op_add_str (pv 0) pe_str))
      (pss_cons (ps_set (i := 0) sc__law_hands.nd rfl (Or.inl rfl) (pe_op op_add_str (pv 0) pe_str))
      (pss_cons (ps_set (i := 0) sc__law_hands.nd rfl (Or.inl rfl) (pe_op op_add_str (pv 0) pe_str))
      (pss_cons (ps_set (i := 0) sc__law_hands.nd rfl (Or.inl rfl) (pe_op op_add_str (pv 0) pe_str))
      (pss_one (ps_ret (pe_split (pv 0) pe_str)))))))))))), ?_⟩
    have line : ∀ m : Nat, m ≤ 4000 → m ≤ sizeLine := fun m h => by rw [sizeLine_eq]; omega
    have fin : ∀ z : Str, TxS 1800 z → ∀ H0, Ext H H0 → (∃ a b, V.str z = .str a ∧ [V.str "/"] = [V.str b] ∧ (b.length == 0) = false ∧ a.length + 2 ≤ sizeLine ∧ rNewStrs (Txt.split a b) H0 Q) := fun z hz H0 x0 => by
      have h1 := hz.1
      obtain ⟨h2, h3⟩ := split_txs (y := "/") hz (by decide +kernel) (by decide +kernel)
      exact ⟨z, "/", rfl, rfl, by decide +kernel, line _ (by omega), fun p hp => k p _ _ (x0.trans (Ext.new hp)) upd_same (by omega) h3⟩
    have t0 : TxS 68 "/ /l/let/let /let p/let p /let p -/let p -> /let p -> q/let (p) -> q" := txS (by decide +kernel)
    have t1 : TxS 38 "/let (p -> q)/let (p -> q) -> /let p q" := txS (by decide +kernel)
    have t2 : TxS 72 "/let abcdefgh/let abcdefghi/let ((p -> q) -> r) -> s/let ((p -> q)) -> s" := txS (by decide +kernel)
    have t3 : TxS 30 "/let p)/let (p -> q -> /lets p" := txS (by decide +kernel)
    have t4 : TxS 73 "/drop/drop /drop a/drop a b/drop abcdefghi/drop A/name a/name a:/name a: " := txS (by decide +kernel)
    have t5 : TxS 26 "/name a: p/name a: p, b: q" := txS (by decide +kernel)
    have t6 : TxS 70 "/name a : p/name : p/name abcdefghi: p/kind a: p -> p/kinds a/bar p->q" := txS (by decide +kernel)
    have t7 : TxS 35 "/free -> p/bench -/atom a: p/ let p" := txS (by decide +kernel)
    exact ⟨_, rfl, _, _, rfl, rfl, t0.app_line t1 (by omega), _, rfl, _, _, rfl, rfl, (t0.app t1).app_line t2 (by omega), _, rfl, _, _, rfl, rfl, ((t0.app t1).app t2).app_line t3 (by omega), _, rfl, _, _, rfl, rfl, (((t0.app t1).app t2).app t3).app_line t4 (by omega), _, rfl, _, _, rfl, rfl, ((((t0.app t1).app t2).app t3).app t4).app_line t5 (by omega), _, rfl, _, _, rfl, rfl, (((((t0.app t1).app t2).app t3).app t4).app t5).app_line t6 (by omega), _, rfl, _, _, rfl, rfl, ((((((t0.app t1).app t2).app t3).app t4).app t5).app t6).app_line t7 (by omega), _, rfl, ⟨_, rfl⟩, fin _ ((((((((t0.app t1).app t2).app t3).app t4).app t5).app t6).app t7).mono (by omega)) _ (Ext.refl H)⟩
abbrev N__law_firsts : List Str := ["some"]
abbrev P__law_firsts : List Str := []
theorem sc__law_firsts : FnScope N__law_firsts P__law_firsts (defScope s__law_firsts) := ⟨rfl, rfl, rfl, by decide +kernel, rfl, by decide +kernel, by decide +kernel⟩
theorem ok__law_firsts (T : Facts P K mg A B) : FnOk P w K mg base CX0 1 (A "_law_firsts") (B "_law_firsts") [] spTexts := by
  refine T._law_firsts.fn.ok sc__law_firsts (fun vs H Q E h => ?_) (fun cdv Ar outer s H vs Q E hr h => ?_)
  · rw [h.1]; rfl
  · obtain ⟨rfl, k⟩ := h
    refine ⟨_, ((pss_cons (ps_set (i := 0) sc__law_firsts.nd rfl (Or.inl rfl) pe_str)
      (pss_cons (ps_set (i := 0) sc__law_firsts.nd rfl (Or.inl rfl) (pe_op op_add_str (pv 0) pe_str))
      (pss_cons (ps_set (i := 0) sc__law_firsts.nd rfl (Or.inl rfl) (pe_op op_add_str (pv 0) pe_str))
      (pss_cons (ps_set (i := 0) sc__law_firsts.nd rfl (Or.inl rfl) (pe_op op_add_str (pv 0) pe_str))
      (pss_cons (ps_set (i := 0) sc__law_firsts.nd rfl (Or.inl rfl) (pe_op op_add_str (pv 0) pe_str))
      (pss_cons (ps_set (i := 0) sc__law_firsts.nd rfl (Or.inl rfl) (pe_op op_add_str (pv 0) pe_str))
      (pss_cons (ps_set (i := 0) sc__law_firsts.nd rfl (Or.inl rfl) (pe_op op_add_str (pv 0) pe_str))
      (pss_cons (ps_set (i := 0) sc__law_firsts.nd rfl (Or.inl rfl) (pe_op op_add_str (pv 0) pe_str))
      (pss_one (ps_ret (pe_split (pv 0) pe_str)))))))))))), ?_⟩
    have line : ∀ m : Nat, m ≤ 4000 → m ≤ sizeLine := fun m h => by rw [sizeLine_eq]; omega
    have fin : ∀ z : Str, TxS 1800 z → ∀ H0, Ext H H0 → (∃ a b, V.str z = .str a ∧ [V.str "/"] = [V.str b] ∧ (b.length == 0) = false ∧ a.length + 2 ≤ sizeLine ∧ rNewStrs (Txt.split a b) H0 Q) := fun z hz H0 x0 => by
      have h1 := hz.1
      obtain ⟨h2, h3⟩ := split_txs (y := "/") hz (by decide +kernel) (by decide +kernel)
      exact ⟨z, "/", rfl, rfl, by decide +kernel, line _ (by omega), fun p hp => k p _ _ (x0.trans (Ext.new hp)) upd_same (by omega) h3⟩
    have t0 : TxS 72 "/b/bench/bench /bench -/bench --/bench - /bench a/bench a: p/bench a: p," := txS (by decide +kernel)
    have t1 : TxS 27 "/bench a: p, /bench a: p, a" := txS (by decide +kernel)
    have t2 : TxS 67 "/bench a: p, a: q/bench a: p, ab: q/bench b: p, a: q/bench ba: p, b" := txS (by decide +kernel)
    have t3 : TxS 37 "/bench ba: p, b: q/bench ba: p, bb: q" := txS (by decide +kernel)
    have t4 : TxS 67 "/bench a: p, b: q, c/bench a: p , b: q/bench a: (p -> q) -> p, b: q" := txS (by decide +kernel)
    have t5 : TxS 38 "/bench zzzzzzzz: p/bench zzzzzzzz: p, " := txS (by decide +kernel)
    have t6 : TxS 73 "/bench zzzzzzzy: p, zzzzzzzz: p/bench zzzzzzzy: p, zzzzzzzy/bench z: p, z" := txS (by decide +kernel)
    have t7 : TxS 30 "/bench z: p, y/bench a:p/let p" := txS (by decide +kernel)
    exact ⟨_, rfl, _, _, rfl, rfl, t0.app_line t1 (by omega), _, rfl, _, _, rfl, rfl, (t0.app t1).app_line t2 (by omega), _, rfl, _, _, rfl, rfl, ((t0.app t1).app t2).app_line t3 (by omega), _, rfl, _, _, rfl, rfl, (((t0.app t1).app t2).app t3).app_line t4 (by omega), _, rfl, _, _, rfl, rfl, ((((t0.app t1).app t2).app t3).app t4).app_line t5 (by omega), _, rfl, _, _, rfl, rfl, (((((t0.app t1).app t2).app t3).app t4).app t5).app_line t6 (by omega), _, rfl, _, _, rfl, rfl, ((((((t0.app t1).app t2).app t3).app t4).app t5).app t6).app_line t7 (by omega), _, rfl, ⟨_, rfl⟩, fin _ ((((((((t0.app t1).app t2).app t3).app t4).app t5).app t6).app t7).mono (by omega)) _ (Ext.refl H)⟩
end Og
set_option Elab.async false
set_option linter.all false
set_option maxRecDepth 100000
set_option maxHeartbeats 4000000
namespace Og
open PySem PySem.Spec PyProof.Rows L2 TL
variable {P : Program} {w : World} {K : PySem.W.Frag} {mg : Str → Option Value} {base : Heap} {A : Str → Addr} {B : Str → FuncData}
/-! ### a comprehension over the signs of a text -/
theorem lc_str {z : Str} {g : TG} {tt : TT} {te : TE} {vs : List Nat} {σ : L2.St} {H1 : Hp} {D : Addr} {Qd : Hp → Prop} (Pv : Nat → Hp → Prop) (h0 : Pv 0 (upd H1 D (.lst [])))
    (hs : ∀ i c H, (tl z)[i]? = some c → Pv i H → g (.str (S [c])) (wipe σ vs) H fun σ2 H2 => wipe σ2 vs = wipe σ vs ∧ tt σ2 H2 fun b H3 =>
      if b = true then te σ2 H3 fun y H4 => ∃ acc, H4 D = some (.lst acc) ∧ acc.length < sizeLine ∧ Pv (i + 1) (upd H4 D (.lst (acc ++ [y]))) else Pv (i + 1) H3) (hd : ∀ H, Pv (tl z).length H → Qd H) :
    ∃ W : Nat → Nat → Hp → Prop, (∃ m, W 0 m (upd H1 D (.lst []))) ∧ ∀ i m H, W i m H →
      ((Its z).stop i H ∧ Qd H) ∨ ((Its z).go i H ∧ ∃ Nx : Hp → Prop, (∀ H', Nx H' → ∃ m', m' < m ∧ W (i + 1) m' H') ∧ ∀ x H', (Its z).yld i H x H' → g x (wipe σ vs) H' fun σ2 H2 => wipe σ2 vs = wipe σ vs ∧ tt σ2 H2 fun b H3 =>
        if b = true then te σ2 H3 fun y H4 => ∃ acc, H4 D = some (.lst acc) ∧ acc.length < sizeLine ∧ Nx (upd H4 D (.lst (acc ++ [y]))) else Nx H3) := by
  have hz : z.cps.size = (tl z).length := by
    have := len_tl z
    exact this
  refine ⟨fun i m H => m = (tl z).length - i ∧ i ≤ (tl z).length ∧ Pv i H, ⟨(tl z).length, by simp, Nat.zero_le _, h0⟩, ?_⟩
  rintro i m H ⟨rfl, hi, p⟩
  by_cases hlt : i < (tl z).length
  · refine .inr ⟨by show i < z.cps.size; omega, Pv (i + 1), fun H' p' => ⟨(tl z).length - (i + 1), by omega, rfl, hlt, p'⟩, fun x H' y => ?_⟩
    obtain ⟨e, c, hc, rfl⟩ := y
    subst e
    exact hs i c _ (by rw [← hc]; show z.cps.toList[i]? = _; rw [Array.getElem?_toList]) p
  · have e : i = (tl z).length := by omega
    subst e
    exact .inl ⟨by show z.cps.size ≤ _; omega, hd H p⟩
/-! ### the turned texts -/
def TabOk (kvs : List (Key × V)) : Prop := ∀ k v, valV kvs k = some v → ∃ y, v = .str y ∧ TxS 5 y
def spTurned : Sp := fun vs H Q _ => ∃ (z : Str) (d : Addr) (kvs : List (Key × V)), vs = [.str z, .ref d] ∧ TxS 30 z ∧ H d = some (.dK kvs) ∧ TabOk kvs ∧ ∀ y H', Ext H H' → TxS 150 y → Q (.str y) H'
abbrev N__law_turned : List Str := ["text", "table", "sign"]
abbrev P__law_turned : List Str := ["text", "table"]
theorem sc__law_turned : FnScope N__law_turned P__law_turned (defScope s__law_turned) := ⟨rfl, rfl, rfl, by decide +kernel, rfl, by decide +kernel, by decide +kernel⟩
theorem ok__law_turned (T : Facts P K mg A B) : FnOk P w K mg base CX0 1 (A "_law_turned") (B "_law_turned") ["text", "table"] spTurned := by
  refine T._law_turned.fn.ok sc__law_turned (fun vs H Q E h => ?_) (fun cdv Ar outer s H vs Q E hr h => ?_)
  · obtain ⟨z, d, kvs, rfl, _⟩ := h
    rfl
  · obtain ⟨z, d, kvs, rfl, hz, hd, ht, k⟩ := h
    have hu : (Ar.deeper (envOfC "_law_turned" (defScope s__law_turned) s.heap.objs.size (A "_law_turned") cdv)).units + 1 < cLine := by have := hr.units; omega
    refine ⟨_, ((pss_one (ps_ret (pe_join pe_str (pe_lc (own := [("sign", 2)]) (g := gName 2) (tt := tYes) rfl sc__law_turned.nd (pi_str (pv 0)) (blkOk_by (own := [("sign", 2)]) (N := N__law_turned) (sc := defScope s__law_turned) (by decide +kernel)) (fun _ _ _ _ _ => (pg_name (i := 2) sc__law_turned.nd rfl (Or.inl rfl))) (fun _ _ _ _ _ => pts_nil) (fun _ _ _ _ _ => (pe_dget2 hu (pv 1) (pv 2) (pv 2) ⟨by rfl, by rfl, by rfl, by rfl⟩))))))), ?_⟩
    refine ⟨⟨_, rfl⟩, _, rfl, z, rfl, fun D hD => lc_str (z := z) (fun i H7 => Ext H H7 ∧ ∃ ys : List Str, H7 D = some (.lst (ys.map V.str)) ∧ ys.length = i ∧ ∀ y ∈ ys, TxS 5 y) ⟨Ext.new hD, [], upd_same, rfl, (fun y h => nomatch h)⟩ (fun i c H7 hc p => ?_) (fun H7 p => ?_)⟩
    · obtain ⟨x7, ys, hD7, hyl, hys⟩ := p
      have hd7 := x7 _ _ hd
      refine ⟨rfl, ?_⟩
      unfold tYes
      have hcz : TxS 5 (S [c]) := ⟨by rw [S_len]; exact (by decide : 1 ≤ 5), fun d hd => by rw [tl_S] at hd; rw [List.mem_singleton.mp hd]; exact hz.2 c (List.mem_of_getElem? hc)⟩
      obtain ⟨y, hy, hty⟩ : ∃ y, (valV kvs (.inr (S [c]))).getD (.str (S [c])) = .str y ∧ TxS 5 y := by
        cases hv : valV kvs (.inr (S [c])) with
        | none => exact ⟨_, rfl, hcz⟩
        | some v =>
          obtain ⟨y, rfl, h2⟩ := ht _ _ hv
          exact ⟨y, rfl, h2⟩
      refine iteT ⟨_, rfl, d, rfl, .inl ⟨kvs, .inl hd7⟩, _, rfl, _, rfl, valV kvs (.inr (S [c])), .inl ⟨kvs, .inr (S [c]), .inl hd7, rfl, rfl⟩, _, hD7, ?_, x7.upd hD, ys ++ [y], ?_, by rw [List.length_append, hyl]; rfl, fun u hu => ?_⟩
      · rw [List.length_map, hyl, sizeLine_eq]
        have h1 := (List.getElem?_eq_some_iff.mp hc).1
        have h2 := hz.1
        rw [len_tl] at h2
        omega
      · rw [upd_same, List.map_append, hy]; rfl
      · rcases List.mem_append.mp hu with hu | hu
        · exact hys u hu
        · rw [List.mem_singleton.mp hu]
          exact hty
    · obtain ⟨x7, ys, hD7, hyl, hys⟩ := p
      have h2 := hz.1
      rw [len_tl] at h2
      have hsum := sum_txs ys hys
      have hj := joinL_txs (sep := []) (n := 5) (Nat.zero_le _) (fun c h => nomatch h) (ys.map tl) fun p hp => by
        obtain ⟨y, hy, rfl⟩ := List.mem_map.mp hp
        exact ⟨by rw [← len_tl]; exact (hys y hy).1, (hys y hy).2⟩
      refine ⟨_, D, ys, rfl, rfl, .inl (SqL.of hD7), ?_, k _ _ x7 ⟨?_, ?_⟩⟩
      · have : ("" : Str).length = 0 := by decide +kernel
        rw [this]
        omega
      · rw [len_tl, join_eq, tl_join]
        have e0 : tl ("" : Str) = [] := by decide +kernel
        rw [e0]
        have hl0 : ∀ ps : List (List Nat), (∀ p ∈ ps, p.length ≤ 5) → (joinL [] ps).length ≤ ps.length * 5 := by
          intro ps
          induction ps with
          | nil => intro _; exact Nat.zero_le _
          | cons p r ih =>
            intro h
            have h1 := h p List.mem_cons_self
            have h2 := ih fun x hx => h x (List.mem_cons_of_mem _ hx)
            cases r with
            | nil => show p.length ≤ 1 * 5; omega
            | cons q r =>
              show (p ++ ([] ++ joinL [] (q :: r))).length ≤ _
              rw [List.nil_append, List.length_append, List.length_cons, Nat.succ_mul]
              omega
        have := hl0 (ys.map tl) fun p hp => by
          obtain ⟨y, hy, rfl⟩ := List.mem_map.mp hp
          rw [← len_tl]; exact (hys y hy).1
        rw [List.length_map] at this
        omega
      · rw [join_eq, tl_join]
        have e0 : tl ("" : Str) = [] := by decide +kernel
        rw [e0]
        exact hj.2
end Og
set_option Elab.async false
set_option linter.all false
set_option maxRecDepth 100000
set_option maxHeartbeats 4000000
namespace Og
open PySem PySem.Spec PyProof.Rows L2 TL
variable {P : Program} {w : World} {K : PySem.W.Frag} {mg : Str → Option Value} {base : Heap} {A : Str → Addr} {B : Str → FuncData}
/-! ### the scenes: lists of texts in a list -/
def tStrsA : List Str → TA
  | [] => tNil
  | z :: r => tCons (tC (.str z)) (tStrsA r)
def tScA : List (List Str) → TA
  | [] => tNil
  | ws :: r => tCons (tLst (tStrsA ws)) (tScA r)
theorem strs_read {σ : L2.St} {H : Hp} : ∀ {ws : List Str} {Q : List V → Hp → Prop}, Q (ws.map V.str) H → tStrsA ws σ H Q
  | [], _, h => h
  | z :: r, Q, h => strs_read (ws := r) (Q := fun xs H2 => Q (V.str z :: xs) H2) h
def ScG (good : List Str → Bool) (H : Hp) (r : Addr) : Prop := ∃ ws, H r = some (.lst (ws.map V.str)) ∧ good ws = true
theorem ScG.ext {good : List Str → Bool} {H H' : Hp} {r : Addr} (e : Ext H H') (h : ScG good H r) : ScG good H' r := let ⟨ws, h1, h2⟩ := h; ⟨ws, e _ _ h1, h2⟩
theorem sc_read {good : List Str → Bool} {σ : L2.St} : ∀ {ss : List (List Str)} {H : Hp} {Q : List V → Hp → Prop}, (ss.all fun ws => good ws && decide (ws.length ≤ 100)) = true →
    (∀ (rs : List Addr) H', Ext H H' → (∀ r ∈ rs, ScG good H' r) → rs.length = ss.length → Q (rs.map V.ref) H') → tScA ss σ H Q
  | [], H, Q, _, k => k [] H (Ext.refl H) (fun r h => nomatch h) rfl
  | ws :: ss, H, Q, hg, k => by
    rw [List.all_cons, Bool.and_eq_true, Bool.and_eq_true] at hg
    obtain ⟨⟨h1, h2⟩, h3⟩ := hg
    have h2 := of_decide_eq_true h2
    show tStrsA ws σ H fun xs H1 => xs.length ≤ sizeLine ∧ ∀ p, H1 p = none → tScA ss σ (upd H1 p (.lst xs)) fun ys H2 => Q (V.ref p :: ys) H2
    refine strs_read ⟨by rw [List.length_map, sizeLine_eq]; omega, fun p hp => sc_read h3 fun rs H' x hr hl => k (p :: rs) H' ((Ext.new hp).trans x) (fun r h => ?_) (by simp [hl])⟩
    rcases List.mem_cons.mp h with rfl | h
    · exact ⟨ws, x _ _ upd_same, h1⟩
    · exact hr r h
/-! ### the scenes -/
def goodRow (z : Str) : Bool := match z.cps.toList with
  | c :: r => ([97, 98, 99, 100, 101, 102, 103, 104, 107, 108, 109, 110] : List Nat).contains c
  | [] => false
def goodT (z : Str) : Bool := decide (z.cps.size ≤ 30) && z.cps.all (· < 1114112)
def goodS : List Str → Bool
  | [] => false
  | z :: r => goodT z && (decide (r.length ≤ 5) && r.all fun y => goodT y && goodRow y)
def ScsAt (H : Hp) (q : Addr) (n : Nat) : Prop := ∃ rs : List Addr, H q = some (.lst (rs.map V.ref)) ∧ rs.length = n ∧ ∀ r ∈ rs, ScG goodS H r
theorem ScsAt.ext {H H' : Hp} {q : Addr} {n : Nat} (e : Ext H H') (h : ScsAt H q n) : ScsAt H' q n := let ⟨rs, h1, h2, h3⟩ := h; ⟨rs, e _ _ h1, h2, fun r hr => (h3 r hr).ext e⟩
/-- a list of scenes is made -/
theorem scs_lst {σ : L2.St} {ss : List (List Str)} {H : Hp} {Q : VK} (hg : (ss.all fun ws => goodS ws && decide (ws.length ≤ 100)) = true) (hl : ss.length ≤ 1000) (k : ∀ q H', Ext H H' → ScsAt H' q ss.length → Q (.ref q) H') : tLst (tScA ss) σ H Q := by
  refine sc_read hg fun rs H1 x hr hn => ⟨by rw [List.length_map, sizeLine_eq]; omega, fun p hp => k p _ (x.trans (Ext.new hp)) ⟨rs, upd_same, hn, fun r h => (hr r h).ext (Ext.new hp)⟩⟩
/-- two lists of scenes in one -/
theorem scs_cat {H : Hp} {Q : VK} {p q : Addr} {n m : Nat} (h : ScsAt H p n) (g : ScsAt H q m) (hl : n + m ≤ 1000) (k : ∀ q H', Ext H H' → ScsAt H' q (n + m) → Q (.ref q) H') : rCat (.ref p) (.ref q) H Q := by
  obtain ⟨rs, h1, h2, h3⟩ := h
  obtain ⟨us, g1, g2, g3⟩ := g
  refine ⟨p, q, _, _, rfl, rfl, h1, g1, by rw [List.length_map, List.length_map, sizeLine_eq]; omega, fun l hl2 => ?_⟩
  refine k l _ (Ext.new hl2) ⟨rs ++ us, by rw [upd_same, List.map_append], by rw [List.length_append, h2, g2], fun r hr => ?_⟩
  rcases List.mem_append.mp hr with hr | hr
  · exact (h3 r hr).ext (Ext.new hl2)
  · exact (g3 r hr).ext (Ext.new hl2)
theorem asg1 {te : TE} {i : Nat} {u : TS} {D : Ends} {σ : L2.St} {H : Hp} (h : te σ H fun x H1 => u D (σ.set i (some x)) H1) : tSeq (tAsg te (gName i)) u D σ H := h
theorem op_var {tb : TE} {rd : R2} {σ : L2.St} {H : Hp} {Q : VK} {j : Nat} {v : V} (hv : σ[j]? = some (some v)) (h : tb σ H fun y H1 => rd v y H1 Q) : tOp rd (tVar j) tb σ H Q := ⟨v, hv, h⟩
theorem ret1 {te : TE} {D : Ends} {σ : L2.St} {H : Hp} (h : te σ H D.rt) : tRet te D σ H := h
def spScenes : Sp := fun vs H Q _ => vs = [] ∧ ∀ (q : Addr) (n : Nat) H', Ext H H' → ScsAt H' q n → 0 < n → n ≤ 1000 → Q (.ref q) H'
abbrev N__law_scenes : List Str := ["rows"]
abbrev P__law_scenes : List Str := []
theorem sc__law_scenes : FnScope N__law_scenes P__law_scenes (defScope s__law_scenes) := ⟨rfl, rfl, rfl, by decide +kernel, rfl, by decide +kernel, by decide +kernel⟩
theorem ok__law_scenes (T : Facts P K mg A B) : FnOk P w K mg base CX0 1 (A "_law_scenes") (B "_law_scenes") [] spScenes := by
  refine T._law_scenes.fn.ok sc__law_scenes (fun vs H Q E h => ?_) (fun cdv Ar outer s H vs Q E hr h => ?_)
  · rw [h.1]; rfl
  · obtain ⟨rfl, k⟩ := h
    refine ⟨_, ((pss_cons (ps_set (i := 0) sc__law_scenes.nd rfl (Or.inl rfl) (pe_lst (pa_cons (pe_lst (pa_cons pe_str pa_nil)) (pa_cons (pe_lst (pa_cons pe_str pa_nil)) (pa_cons (pe_lst (pa_cons pe_str pa_nil)) pa_nil)))))
      (pss_cons (ps_set (i := 0) sc__law_scenes.nd rfl (Or.inl rfl) (pe_op op_cat (pv 0) (pe_lst (pa_cons (pe_lst (pa_cons pe_str (pa_cons pe_str (pa_cons pe_str (pa_cons pe_str pa_nil))))) (pa_cons (pe_lst (pa_cons pe_str (pa_cons pe_str (pa_cons pe_str pa_nil)))) pa_nil)))))
      (pss_cons (ps_set (i := 0) sc__law_scenes.nd rfl (Or.inl rfl) (pe_op op_cat (pv 0) (pe_lst (pa_cons (pe_lst (pa_cons pe_str (pa_cons pe_str (pa_cons pe_str (pa_cons pe_str pa_nil))))) (pa_cons (pe_lst (pa_cons pe_str (pa_cons pe_str (pa_cons pe_str pa_nil)))) pa_nil)))))
      (pss_cons (ps_set (i := 0) sc__law_scenes.nd rfl (Or.inl rfl) (pe_op op_cat (pv 0) (pe_lst (pa_cons (pe_lst (pa_cons pe_str (pa_cons pe_str (pa_cons pe_str pa_nil)))) pa_nil))))
      (pss_cons (ps_set (i := 0) sc__law_scenes.nd rfl (Or.inl rfl) (pe_op op_cat (pv 0) (pe_lst (pa_cons (pe_lst (pa_cons pe_str (pa_cons pe_str (pa_cons pe_str (pa_cons pe_str (pa_cons pe_str pa_nil)))))) (pa_cons (pe_lst (pa_cons pe_str (pa_cons pe_str (pa_cons pe_str pa_nil)))) pa_nil)))))
      (pss_cons (ps_set (i := 0) sc__law_scenes.nd rfl (Or.inl rfl) (pe_op op_cat (pv 0) (pe_lst (pa_cons (pe_lst (pa_cons pe_str (pa_cons pe_str (pa_cons pe_str (pa_cons pe_str pa_nil))))) (pa_cons (pe_lst (pa_cons pe_str (pa_cons pe_str (pa_cons pe_str pa_nil)))) pa_nil)))))
      (pss_cons (ps_set (i := 0) sc__law_scenes.nd rfl (Or.inl rfl) (pe_op op_cat (pv 0) (pe_lst (pa_cons (pe_lst (pa_cons pe_str (pa_cons pe_str (pa_cons pe_str (pa_cons pe_str pa_nil))))) (pa_cons (pe_lst (pa_cons pe_str (pa_cons pe_str (pa_cons pe_str (pa_cons pe_str (pa_cons pe_str pa_nil)))))) pa_nil)))))
      (pss_cons (ps_set (i := 0) sc__law_scenes.nd rfl (Or.inl rfl) (pe_op op_cat (pv 0) (pe_lst (pa_cons (pe_lst (pa_cons pe_str (pa_cons pe_str (pa_cons pe_str (pa_cons pe_str (pa_cons pe_str pa_nil)))))) (pa_cons (pe_lst (pa_cons pe_str (pa_cons pe_str pa_nil))) pa_nil)))))
      (pss_one (ps_ret (pe_op op_cat (pv 0) (pe_lst (pa_cons (pe_lst (pa_cons pe_str (pa_cons pe_str (pa_cons pe_str pa_nil)))) (pa_cons (pe_lst (pa_cons pe_str pa_nil)) (pa_cons (pe_lst (pa_cons pe_str (pa_cons pe_str pa_nil))) pa_nil)))))))))))))))), ?_⟩
    refine asg1 (scs_lst (ss := [["((p -> q) -> p) -> p"], ["(p -> p) -> p -> p"], ["((p -> p) -> p) -> p"]]) (by decide +kernel) (by decide) fun q0 H0 x0 s0 => ?_)
    refine asg1 (op_var rfl (scs_lst (ss := [["q", "a: p", "b: p", "f: p -> p -> q"], ["p", "f: p -> q", "g: q -> p"]]) (by decide +kernel) (by decide) fun p1 G1 y1 u1 => scs_cat (s0.ext y1) u1 (by decide) fun q1 H1 z1 s1 => ?_))
    have x1 := (x0.trans y1).trans z1
    refine asg1 (op_var rfl (scs_lst (ss := [["p", "a: p", "f: p -> p", "h: r -> p"], ["p", "a: p", "h: r -> p"]]) (by decide +kernel) (by decide) fun p2 G2 y2 u2 => scs_cat (s1.ext y2) u2 (by decide) fun q2 H2 z2 s2 => ?_))
    have x2 := (x1.trans y2).trans z2
    refine asg1 (op_var rfl (scs_lst (ss := [["p -> s", "c: p -> s -> s", "n: s"]]) (by decide +kernel) (by decide) fun p3 G3 y3 u3 => scs_cat (s2.ext y3) u3 (by decide) fun q3 H3 z3 s3 => ?_))
    have x3 := (x2.trans y3).trans z3
    refine asg1 (op_var rfl (scs_lst (ss := [["r", "a: p", "b: q", "f: p -> r", "g: q -> r"], ["r", "c: q", "k: (p -> q) -> r"]]) (by decide +kernel) (by decide) fun p4 G4 y4 u4 => scs_cat (s3.ext y4) u4 (by decide) fun q4 H4 z4 s4 => ?_))
    have x4 := (x3.trans y4).trans z4
    refine asg1 (op_var rfl (scs_lst (ss := [["r", "c: q", "d: p -> q", "k: (p -> q) -> r"], ["p", "e: ((p -> q) -> p) -> p", "f: p -> q"]]) (by decide +kernel) (by decide) fun p5 G5 y5 u5 => scs_cat (s4.ext y5) u5 (by decide) fun q5 H5 z5 s5 => ?_))
    have x5 := (x4.trans y5).trans z5
    refine asg1 (op_var rfl (scs_lst (ss := [["q", "h: s", "k: s -> q", "l: s -> p"], ["p", "a: p", "b: s", "g: s -> s", "h: r -> s -> p"]]) (by decide +kernel) (by decide) fun p6 G6 y6 u6 => scs_cat (s5.ext y6) u6 (by decide) fun q6 H6 z6 s6 => ?_))
    have x6 := (x5.trans y6).trans z6
    refine asg1 (op_var rfl (scs_lst (ss := [["q", "a: s -> q", "b: t -> q", "c: s", "d: t"], ["(p -> q) -> r -> s", "m: ((p -> q) -> r) -> s"]]) (by decide +kernel) (by decide) fun p7 G7 y7 u7 => scs_cat (s6.ext y7) u7 (by decide) fun q7 H7 z7 s7 => ?_))
    have x7 := (x6.trans y7).trans z7
    refine ret1 (op_var rfl (scs_lst (ss := [["p", "a: p", "d: p -> p -> p"], ["q"], ["p -> p", "a: p"]]) (by decide +kernel) (by decide) fun p8 G8 y8 u8 => scs_cat (s7.ext y8) u8 (by decide) fun q8 H8 z8 s8 => ?_))
    have x8 := (x7.trans y8).trans z8
    exact k _ _ _ x8 s8 (by decide) (by decide)
end Og
set_option Elab.async false
set_option linter.all false
set_option maxRecDepth 100000
set_option maxHeartbeats 4000000
namespace Og
open PySem PySem.Spec PyProof.Rows L2 TL
variable {P : Program} {w : World} {K : PySem.W.Frag} {mg : Str → Option Value} {base : Heap} {A : Str → Addr} {B : Str → FuncData}
theorem sqT_lst {H : Hp} {r l : Addr} {xs ys zs : List V} (h : SqT K H r xs) (hl : H l = some (.lst ys)) : SqT K (upd H l (.lst zs)) r xs := by
  refine h.imp (fun h => ?_) id
  rcases h with h | ⟨ob, h⟩
  · exact .inl (by rw [upd_ne (fun z => by rw [z, hl] at h; cases h)]; exact h)
  · exact .inr ⟨ob, by rw [upd_ne (fun z => by rw [z, hl] at h; cases h)]; exact h⟩
theorem good_head {z : Str} (h : goodRow z = true) : ∃ c, (tl z)[0]? = some c ∧ ∃ i rest, Builtin.Str.occurrences ("abcdefghklmn" : Str) (⟨#[c]⟩ : Str) 0 ("abcdefghklmn" : Str).length 1 = i :: rest ∧ i < 12 := by
  unfold goodRow at h
  cases e : z.cps.toList with
  | nil => rw [e] at h; cases h
  | cons c r =>
    rw [e] at h
    have h2 : c ∈ ([97, 98, 99, 100, 101, 102, 103, 104, 107, 108, 109, 110] : List Nat) := List.contains_iff_mem.mp h
    refine ⟨c, by show z.cps.toList[0]? = _; rw [e]; rfl, ?_⟩
    have h3 : (Builtin.Str.occurrences ("abcdefghklmn" : Str) (⟨#[c]⟩ : Str) 0 ("abcdefghklmn" : Str).length 1).head?.any (· < 12) = true := by
      simp only [List.mem_cons, List.not_mem_nil, or_false] at h2
      rcases h2 with rfl | rfl | rfl | rfl | rfl | rfl | rfl | rfl | rfl | rfl | rfl | rfl <;> decide +kernel
    cases e2 : Builtin.Str.occurrences ("abcdefghklmn" : Str) (⟨#[c]⟩ : Str) 0 ("abcdefghklmn" : Str).length 1 with
    | nil => rw [e2] at h3; cases h3
    | cons i rest =>
      rw [e2] at h3
      exact ⟨i, rest, rfl, of_decide_eq_true h3⟩
theorem gl_lst {good : List Str → Bool} {σ : L2.St} {ss : List (List Str)} {H : Hp} {Q : VK} (hg : (ss.all fun ws => good ws && decide (ws.length ≤ 100)) = true) (hl : ss.length ≤ 1000)
    (k : ∀ q (rs : List Addr) H', Ext H H' → H' q = some (.lst (rs.map V.ref)) → rs.length = ss.length → (∀ r ∈ rs, ScG good H' r) → Q (.ref q) H') : tLst (tScA ss) σ H Q :=
  sc_read hg fun rs H1 x hr hn => ⟨by rw [List.length_map, sizeLine_eq]; omega, fun p hp => k p rs _ (x.trans (Ext.new hp)) upd_same hn fun r h => (hr r h).ext (Ext.new hp)⟩
theorem call2 {sp : Sp} {dvs : List V} {E : XK} {j : Nat} {v : V} {tb : TE} {σ : L2.St} {H : Hp} {Q : VK} (hv : σ[j]? = some (some v)) (h : tb σ H fun y H1 => sp ([v, y] ++ dvs) H1 Q E) : tCall sp dvs E (tCons (tVar j) (tCons tb tNil)) σ H Q := ⟨v, hv, h⟩
theorem cut_tail (x : V) (xs : List V) : cutV (x :: xs) (some 1) none = xs := by
  unfold cutV
  have e1 : HT.sIx (x :: xs).length 0 (some 1) = 1 := by
    rw [show (1 : Int) = ((1 : Nat) : Int) from rfl, HT.sIx_nat]
    simp
  rw [e1, HT.sIx_none]
  simp
theorem tabOk_of {kvs : List (Key × V)} (h : ∀ p ∈ kvs, ∃ y, p.2 = .str y ∧ TxS 5 y) : TabOk kvs := fun k v hv => by
  unfold valV at hv
  obtain ⟨p, hp, rfl⟩ := Option.map_eq_some_iff.mp hv
  exact h p (List.mem_of_find?_eq_some hp)
theorem txs_of {n : Nat} {z : Str} (h : (decide (z.cps.size ≤ n) && z.cps.all (· < 1114112)) = true) : TxS n z := txS h
theorem rows_bs {H : Hp} : ∀ {ls : List Addr}, (∀ r ∈ ls, RowAt K H r) → ∃ bs : List (V × PyData), bs.map (·.1) = ls.map V.ref ∧ (∀ b ∈ bs, Dp K H b.1 b.2) ∧ (∀ b ∈ bs, ∃ x y, b.2 = .tuple [.str x, .str y]) ∧ ∀ b ∈ bs, ∃ r, b.1 = .ref r ∧ r ∈ ls
  | [], _ => ⟨[], rfl, (fun b h => nomatch h), (fun b h => nomatch h), (fun b h => nomatch h)⟩
  | r :: ls, h => by
    obtain ⟨bs, h1, h2, h3, h4⟩ := rows_bs fun x hx => h x (List.mem_cons_of_mem _ hx)
    obtain ⟨x, y, h5, _⟩ := h r List.mem_cons_self
    refine ⟨(.ref r, .tuple [.str x, .str y]) :: bs, by rw [List.map_cons, h1]; rfl, fun b hb => ?_, fun b hb => ?_, fun b hb => ?_⟩
    · rcases List.mem_cons.mp hb with rfl | hb
      · exact .tup h5 (.cons (.str _) (.cons (.str _) .nil))
      · exact h2 b hb
    · rcases List.mem_cons.mp hb with rfl | hb
      · exact ⟨x, y, rfl⟩
      · exact h3 b hb
    · rcases List.mem_cons.mp hb with rfl | hb
      · exact ⟨r, rfl, List.mem_cons_self⟩
      · obtain ⟨r', e1, e2⟩ := h4 b hb
        exact ⟨r', e1, List.mem_cons_of_mem _ e2⟩
theorem refs_of {ls : List Addr} : ∀ {xs : List V}, (∀ x ∈ xs, ∃ r, x = .ref r ∧ r ∈ ls) → ∃ rs : List Addr, xs = rs.map V.ref ∧ ∀ r ∈ rs, r ∈ ls
  | [], _ => ⟨[], rfl, (fun r h => nomatch h)⟩
  | x :: xs, h => by
    obtain ⟨rs, h1, h2⟩ := refs_of fun y hy => h y (List.mem_cons_of_mem _ hy)
    obtain ⟨r, rfl, hr⟩ := h x List.mem_cons_self
    refine ⟨r :: rs, by rw [h1]; rfl, fun b hb => ?_⟩
    rcases List.mem_cons.mp hb with rfl | hb
    · exact hr
    · exact h2 b hb
def goodA (ws : List Str) : Bool := decide (ws.length = 5) && ws.all fun z => decide (z.cps.size ≤ 5) && z.cps.all (· < 1114112)
def spBook (K : PySem.W.Frag) : Sp := fun vs H Q _ => ∃ (a : Addr) (t : Nat), vs = [.ref a] ∧ t + 4 ≤ 1000 ∧ FeedAt t a H ∧ ∀ (u b m : Addr) (wish : Str) H', ExtF a H H' → FeedAt (t + 4) a H' → H' u = some (.tup [.ref b, .str wish, .ref m]) → BookAt K H' b → TxS 150 wish → Q (.ref u) H'
abbrev N__law_book : List Str := ["feed", "rows", "atoms", "table", "olds", "pools", "pool", "tail", "book", "row"]
abbrev P__law_book : List Str := ["feed"]
theorem sc__law_book : FnScope N__law_book P__law_book (defScope s__law_book) := ⟨rfl, rfl, rfl, by decide +kernel, rfl, by decide +kernel, by decide +kernel⟩
theorem ok__law_book (T : Facts P K mg A B) : FnOk P w K mg base CX0 4 (A "_law_book") (B "_law_book") ["feed"] (spBook K) := by
  refine T._law_book.fn.ok sc__law_book (fun vs H Q E h => ?_) (fun cdv Ar outer s H vs Q E hr h => ?_)
  · obtain ⟨a, t, rfl, _⟩ := h
    rfl
  · obtain ⟨a, t, rfl, ht, hf, k⟩ := h
    refine ⟨_, ((pss_cons (ps_set (i := 1) sc__law_book.nd rfl (Or.inl rfl) (pe_call (ok__law_pick T) (hr.mono (by decide)) rfl T._law_pick.mg T._law_pick.kp T._law_pick.bi .nil pass0 (pa_cons (pv 0) (pa_cons (pe_call0 (ok__law_scenes T) (hr.mono (by decide)) rfl T._law_scenes.mg T._law_scenes.kp T._law_scenes.bi .nil pass0) pa_nil))))
      (pss_cons (ps_set (i := 2) sc__law_book.nd rfl (Or.inl rfl) (pe_call (ok__law_pick T) (hr.mono (by decide)) rfl T._law_pick.mg T._law_pick.kp T._law_pick.bi .nil pass0 (pa_cons (pv 0) (pa_cons (pe_lst (pa_cons (pe_lst (pa_cons pe_str (pa_cons pe_str (pa_cons pe_str (pa_cons pe_str (pa_cons pe_str pa_nil)))))) (pa_cons (pe_lst (pa_cons pe_str (pa_cons pe_str (pa_cons pe_str (pa_cons pe_str (pa_cons pe_str pa_nil)))))) (pa_cons (pe_lst (pa_cons pe_str (pa_cons pe_str (pa_cons pe_str (pa_cons pe_str (pa_cons pe_str pa_nil)))))) pa_nil)))) pa_nil))))
      (pss_cons (ps_set (i := 3) sc__law_book.nd rfl (Or.inl rfl) (pe_disp (pps_cons pe_str (pe_ix (r := rIxL K) ix_list (pv 2) pe_int (fun _ _ => rfl)) (pps_cons pe_str (pe_ix (r := rIxL K) ix_list (pv 2) pe_int (fun _ _ => rfl)) (pps_cons pe_str (pe_ix (r := rIxL K) ix_list (pv 2) pe_int (fun _ _ => rfl)) (pps_cons pe_str (pe_ix (r := rIxL K) ix_list (pv 2) pe_int (fun _ _ => rfl)) (pps_cons pe_str (pe_ix (r := rIxL K) ix_list (pv 2) pe_int (fun _ _ => rfl)) pps_nil))))) (by rfl) (by rfl) (fun z => by cases z) (by decide)))
      (pss_cons (ps_par (by rfl) sc__law_book.nd (i := 4) (j := 5) rfl rfl (by decide) rfl rfl (pa_cons pe_str (pa_cons (pe_lst (pa_cons pe_str (pa_cons pe_str (pa_cons pe_str pa_nil)))) pa_nil)) (by rfl))
      (pss_cons (ps_par (by rfl) sc__law_book.nd (i := 6) (j := 7) rfl rfl (by decide) rfl rfl (pa_cons (pe_call (ok__law_pick T) (hr.mono (by decide)) rfl T._law_pick.mg T._law_pick.kp T._law_pick.bi .nil pass0 (pa_cons (pv 0) (pa_cons (pv 5) pa_nil))) (pa_cons (pe_call (ok__law_pick T) (hr.mono (by decide)) rfl T._law_pick.mg T._law_pick.kp T._law_pick.bi .nil pass0 (pa_cons (pv 0) (pa_cons (pe_lst (pa_cons pe_str (pa_cons pe_str (pa_cons pe_str pa_nil)))) pa_nil))) pa_nil)) (by rfl))
      (pss_cons (ps_set (i := 8) sc__law_book.nd rfl (Or.inl rfl) (pe_lst pa_nil))
      (pss_cons (ps_for PassesOwn.never rfl (pi_list (pe_slice sl_list (pv 1) (po_some pe_int) po_none)) (pg_name (i := 9) sc__law_book.nd rfl (Or.inl rfl)) (pss_one (ps_expr (pe_bm PySem.F.plainAttrs_list PySem.F.slot_list_append PySem.F.type_list_append mt_append (pv 8) (pa_cons (pe_tup (pa_cons (pe_op op_add_str (pe_ix ix_str (pv 6) (pe_m1 PySem.F.slot_str_index PySem.F.type_str_index mt_sindex (pv 4) (pe_ix ix_str (pv 9) pe_int (fun _ _ => rfl))) (fun _ _ => rfl)) (pv 7)) (pa_cons (pe_call (ok__law_turned T) (hr.mono (by decide)) rfl T._law_turned.mg T._law_turned.kp T._law_turned.bi .nil pass0 (pa_cons (pe_slice sl_str (pv 9) (po_some pe_int) po_none) (pa_cons (pv 3) pa_nil))) pa_nil))) pa_nil)))))
      (pss_one (ps_ret (pe_tup (pa_cons (pe_callTy call_tuple_of (by rfl) T.b_tuple (by decide +kernel) (pa_cons (pe_callB (call_sortedD hr) (by rfl) T.b_sorted (by decide +kernel) (pa_cons (pv 8) pa_nil)) pa_nil)) (pa_cons (pe_call (ok__law_turned T) (hr.mono (by decide)) rfl T._law_turned.mg T._law_turned.kp T._law_turned.bi .nil pass0 (pa_cons (pe_ix (r := rIxL K) ix_list (pv 1) pe_int (fun _ _ => rfl)) (pa_cons (pv 3) pa_nil))) (pa_cons (pv 2) pa_nil)))))))))))))), ?_⟩
    have line : ∀ m : Nat, m ≤ 4000 → m ≤ sizeLine := fun m h => by rw [sizeLine_eq]; omega
    -- the scene
    refine asg1 ⟨_, rfl, rfl, fun q0 n0 H1 x1 s1 hn0 hn1 => ?_⟩
    obtain ⟨rs, hq0, hrl, hrs⟩ := s1
    refine ⟨a, q0, rs.map V.ref, t, rfl, SqL.of hq0, (fun z => by have := congrArg List.length z; simp at this; rw [this] at hrl; exact absurd hrl.symm (by simp; omega)), by rw [List.length_map]; omega, by omega, hf.ext x1, fun x H2 hx x2 f2 => ?_⟩
    obtain ⟨r, hr0, rfl⟩ := List.mem_map.mp hx
    obtain ⟨ws, hws, hgood⟩ := hrs r hr0
    obtain ⟨kv1, hk1⟩ := (hf.ext x1).dk
    have hr2 : H2 r = some (.lst (ws.map V.str)) := at_extF x2 hk1 (fun k z => by cases z) hws
    have y2 : ExtF a H H2 := (ExtF.of x1).trans x2
    -- the atoms
    refine asg1 (call2 rfl (gl_lst (ss := [["p", "q", "r", "s", "t"], ["t", "s", "r", "q", "p"], ["num", "text", "a", "thing", "aa"]]) (good := goodA) (by decide +kernel) (by decide) fun q1 as H3 x3' hq1 hal has => ?_))
    have hal : as.length = 3 := hal
    refine ⟨a, q1, as.map V.ref, t + 1, rfl, SqL.of hq1, (fun z => by have := congrArg List.length z; simp [hal] at this), by rw [List.length_map, hal]; decide, by omega, f2.ext x3', fun y H4 hy x4 f4 => ?_⟩
    obtain ⟨m, hm0, rfl⟩ := List.mem_map.mp hy
    obtain ⟨vs, hvs, hga⟩ := has m hm0
    obtain ⟨kv3, hk3⟩ := (f2.ext x3').dk
    have hm4 : H4 m = some (.lst (vs.map V.str)) := at_extF x4 hk3 (fun k z => by cases z) hvs
    have hr4 : H4 r = some (.lst (ws.map V.str)) := at_extF x4 hk3 (fun k z => by cases z) (x3' _ _ hr2)
    have y4 : ExtF a H H4 := (y2.trans (ExtF.of x3')).trans x4
    clear hq1 has hm0 hy hal x4 x3' hk3 hvs
    -- the table
    unfold goodA at hga
    rw [Bool.and_eq_true] at hga
    obtain ⟨hv5, hvt⟩ := hga
    obtain ⟨v0, v1, v2, v3, v4, rfl⟩ : ∃ v0 v1 v2 v3 v4, vs = [v0, v1, v2, v3, v4] := by
      have := of_decide_eq_true hv5
      match vs, this with
      | [v0, v1, v2, v3, v4], _ => exact ⟨v0, v1, v2, v3, v4, rfl⟩
    refine asg1 fun d hd => ?_
    have xd : Ext H4 (upd H4 d (.dK [])) := Ext.new hd
    have hdd : upd H4 d (.dK []) d = some (.dK []) := upd_same
    have hm5 := xd _ _ hm4
    generalize upd H4 d (.dK []) = H5 at xd hdd hm5
    refine ⟨_, rfl, m, _, _, .str v0, rfl, rfl, SqL.of hm5, rfl, _, rfl, m, _, _, .str v1, rfl, rfl, SqL.of hm5, rfl, _, rfl, m, _, _, .str v2, rfl, rfl, SqL.of hm5, rfl, _, rfl, m, _, _, .str v3, rfl, rfl, SqL.of hm5, rfl, _, rfl, m, _, _, .str v4, rfl, rfl, SqL.of hm5, rfl, hdd, [(.inr "p", .str v0), (.inr "q", .str v1), (.inr "r", .str v2), (.inr "s", .str v3), (.inr "t", .str v4)], rfl, by exact (by decide : 5 ≤ 15), ?_⟩
    have x6 := xd.upd (o := .dK (mergeK [] [(.inr "p", .str v0), (.inr "q", .str v1), (.inr "r", .str v2), (.inr "s", .str v3), (.inr "t", .str v4)])) hd
    have hd6 : upd H5 d (.dK (mergeK [] [(.inr "p", .str v0), (.inr "q", .str v1), (.inr "r", .str v2), (.inr "s", .str v3), (.inr "t", .str v4)])) d = some (.dK [(.inr "p", .str v0), (.inr "q", .str v1), (.inr "r", .str v2), (.inr "s", .str v3), (.inr "t", .str v4)]) := upd_same
    generalize upd H5 d (.dK (mergeK [] [(.inr "p", .str v0), (.inr "q", .str v1), (.inr "r", .str v2), (.inr "s", .str v3), (.inr "t", .str v4)])) = H6 at x6 hd6
    have hv : ∀ z ∈ [v0, v1, v2, v3, v4], TxS 5 z := fun z hz => txS (List.all_eq_true.mp hvt z hz)
    have htab : TabOk [(.inr "p", .str v0), (.inr "q", .str v1), (.inr "r", .str v2), (.inr "s", .str v3), (.inr "t", .str v4)] := tabOk_of fun p hp => by
      simp only [List.mem_cons, List.not_mem_nil, or_false] at hp
      rcases hp with rfl | rfl | rfl | rfl | rfl <;> exact ⟨_, rfl, hv _ (by simp)⟩
    generalize [((.inr "p" : Key), V.str v0), (.inr "q", .str v1), (.inr "r", .str v2), (.inr "s", .str v3), (.inr "t", .str v4)] = kvs at hd6 htab
    have hm6 := x6 _ _ hm4
    have hr6 := x6 _ _ hr4
    have y6 := y4.trans (ExtF.of (a := a) x6)
    have f6 := f4.ext x6
    have hda : d ≠ a := fun z => by
      obtain ⟨_, h⟩ := f4.dk
      rw [← z, hd] at h
      cases h
    clear xd hdd hm5 x6 hd
    -- the pool, the tail
    refine ⟨line 3 (by omega), fun q2 hq2 => ⟨_, _, rfl, ?_⟩⟩
    have x7 := Ext.new (o := .lst [V.str "abcdefghklmn", V.str "nmlkhgfedcba", V.str "ghklmnabcdef"]) hq2
    have hq2' : upd H6 q2 (.lst [V.str "abcdefghklmn", V.str "nmlkhgfedcba", V.str "ghklmnabcdef"]) q2 = some (.lst [V.str "abcdefghklmn", V.str "nmlkhgfedcba", V.str "ghklmnabcdef"]) := upd_same
    generalize upd H6 q2 (.lst [V.str "abcdefghklmn", V.str "nmlkhgfedcba", V.str "ghklmnabcdef"]) = H7 at x7 hq2'
    have f7 := f6.ext x7
    obtain ⟨kv7, hk7⟩ := f7.dk
    refine ⟨_, rfl, _, rfl, a, q2, _, t + 1 + 1, rfl, SqL.of hq2', (fun z => by cases z), (by decide), by omega, f7, fun pv H8 hpv x8 f8 => ?_⟩
    obtain ⟨pool, rfl, hp12, hpt⟩ : ∃ z, pv = .str z ∧ (tl z).length = 12 ∧ TxS 12 z := by
      simp only [List.mem_cons, List.not_mem_nil, or_false] at hpv
      rcases hpv with rfl | rfl | rfl <;> exact ⟨_, rfl, by decide +kernel, txS (by decide +kernel)⟩
    refine ⟨_, rfl, line 3 (by omega), fun q3 hq3 => ?_⟩
    have x9 := Ext.new (o := .lst [V.str "", V.str "a", V.str "xy"]) hq3
    have f9 := f8.ext x9
    obtain ⟨kv9, hk9⟩ := f9.dk
    obtain ⟨kv8, hk8⟩ := f8.dk
    refine ⟨a, q3, _, t + 1 + 1 + 1, rfl, SqL.of upd_same, (fun z => by cases z), (by decide), by omega, f9, fun tv H9 htv x10 f10 => ⟨_, _, rfl, ?_⟩⟩
    obtain ⟨tail, rfl, htt⟩ : ∃ z, tv = .str z ∧ TxS 2 z := by
      simp only [List.mem_cons, List.not_mem_nil, or_false] at htv
      rcases htv with rfl | rfl | rfl <;> exact ⟨_, rfl, txS (by decide +kernel)⟩
    have e9 : ∀ {b o}, H7 b = some o → (∀ k, o ≠ .dK k) → H9 b = some o := fun h n => at_extF x10 hk9 n (x9 _ _ (at_extF x8 hk7 n h))
    have hr9 := e9 (x7 _ _ hr6) (fun k z => by cases z)
    have hm9 := e9 (x7 _ _ hm6) (fun k z => by cases z)
    have hd9 : H9 d = some (.dK kvs) := x10 _ _ (x9 _ _ (x8 _ _ (x7 _ _ hd6) hda)) hda
    have y9 : ExtF a H H9 := (((y6.trans (ExtF.of x7)).trans x8).trans (ExtF.of x9)).trans x10
    clear hq2 hq2' x7 x8 x9 x10 hk7 hk8 hk9 hpv htv hq3 f9 f8 f7 e9
    -- the rows
    obtain ⟨w0, wr, rfl⟩ : ∃ w0 wr, ws = w0 :: wr := by
      cases ws with
      | nil => cases hgood
      | cons x xs => exact ⟨x, xs, rfl⟩
    unfold goodS at hgood
    rw [Bool.and_eq_true, Bool.and_eq_true] at hgood
    obtain ⟨hg0, hg5, hgr⟩ := hgood
    have hg5 := of_decide_eq_true hg5
    have tw0 : TxS 30 w0 := txS hg0
    dsimp only [gName]
    refine asg1 ⟨Nat.zero_le _, fun l hl => ?_⟩
    have xl := Ext.new (o := .lst []) hl
    have hll : upd H9 l (.lst []) l = some (.lst []) := upd_same
    generalize upd H9 l (.lst []) = G0 at xl hll
    refine ⟨_, rfl, _, rfl, r, _, rfl, SqL.of (xl _ _ hr9), fun p hp => ?_⟩
    rw [List.map_cons, cut_tail]
    have hpl : l ≠ p := fun z => by rw [← z, hll] at hp; cases hp
    have xp := Ext.new (o := .lst (wr.map V.str)) hp
    have hpp : upd G0 p (.lst (wr.map V.str)) p = some (.lst (wr.map V.str)) := upd_same
    have hll' := xp _ _ hll
    have x0p := xl.trans xp
    generalize upd G0 p (.lst (wr.map V.str)) = G1 at xp hpp hll' x0p
    have x9p := x0p
    refine ⟨p, rfl, ⟨_, SqL.of hpp⟩, for_list (xs := wr.map V.str) (fun i σ H' => Ext H9 H' ∧ H' p = some (.lst (wr.map V.str)) ∧ ∃ (v9 : Option V) (ls : List Addr), σ = [some (.ref a), some (.ref r), some (.ref m), some (.ref d), some (.str "abcdefghklmn"), some (.ref q2), some (.str pool), some (.str tail), some (.ref l), v9] ∧ H' l = some (.lst (ls.map V.ref)) ∧ ls.length = i ∧ ∀ r ∈ ls, RowAt K H' r) ⟨x9p, hpp, none, [], rfl, hll', rfl, (fun r h => nomatch h)⟩ (fun i σ H' _ q => SqL.of q.2.1) (fun i x σ H' hx q => ?_) (fun σ H' q => ?_)⟩
    · obtain ⟨xx, hp', v9, ls, rfl, hl', hln, hrows⟩ := q
      rw [List.getElem?_map] at hx
      obtain ⟨z, hz, rfl⟩ := Option.map_eq_some_iff.mp hx
      have hzg := List.all_eq_true.mp hgr z (List.mem_of_getElem? hz)
      rw [Bool.and_eq_true] at hzg
      have tz : TxS 30 z := txS hzg.1
      obtain ⟨c, hc, j, rest, hocc, hj⟩ := good_head hzg.2
      have hi : i < wr.length := (List.getElem?_eq_some_iff.mp hz).1
      have hj2 : j < (tl pool).length := by omega
      have tc : TxS 1 (⟨#[(tl pool)[j]]⟩ : Str) := ⟨Nat.le_refl 1, fun e he => by
        have he : e ∈ [(tl pool)[j]] := he
        rw [List.mem_singleton.mp he]
        exact hpt.2 _ (List.getElem_mem hj2)⟩
      refine ⟨_, rfl, .inl ⟨rfl, _, SqL.of hl'⟩, _, rfl, _, rfl, ⟨_, rfl⟩, _, rfl, z, _, c, rfl, rfl, tz.line (by omega), atI_nat (j := 0) hc, _, _, j, rest, rfl, rfl, hocc, pool, _, (tl pool)[j], rfl, rfl, hpt.line (by omega), atI_nat (List.getElem?_eq_getElem hj2), _, rfl, _, _, rfl, rfl, tc.app_line htt (by omega), _, rfl, _, rfl, z, rfl, tz.line (by omega), _, rfl, _, d, kvs, rfl, tz.cut _ _, xx _ _ hd9, htab, fun y H2 x2 hy => ⟨line 2 (by omega), fun u hu => ?_⟩⟩
      have xu := x2.trans (Ext.new (o := .tup [V.str ((⟨#[(tl pool)[j]]⟩ : Str) ++ tail), V.str y]) hu)
      have hl2 := xu _ _ hl'
      refine ⟨l, ls.map V.ref, .ref u, rfl, rfl, hl2, by rw [List.length_map, hln]; exact Nat.lt_of_lt_of_le (by omega : i < 4000) (line 4000 (by omega)), (xx.trans xu).upd hl, ?_, some (.str z), ls ++ [u], rfl, by rw [upd_same, List.map_append]; rfl, by rw [List.length_append, hln]; rfl, fun b hb => ?_⟩
      · rw [upd_ne (Ne.symm hpl)]
        exact xu _ _ hp'
      · rcases List.mem_append.mp hb with hb | hb
        · obtain ⟨e1, e2, h1, h2⟩ := (hrows b hb).ext xu
          exact ⟨e1, e2, sqT_lst h1 hl2, h2⟩
        · rw [List.mem_singleton.mp hb]
          exact ⟨_, _, sqT_lst (SqT.of upd_same) hl2, (tc.app htt).mono (by omega), hy⟩
    · obtain ⟨xx, hp', v9, ls, rfl, hl', hln, hrows⟩ := q
      rw [List.length_map] at hln
      obtain ⟨bs, hb1, hb2, hb3, hb4⟩ := rows_bs hrows
      refine ⟨_, rfl, l, bs, rfl, by rw [hb1]; exact SqL.of hl', hb2, ?_, ?_, ?_, fun so hso => ?_⟩
      · intro e1 he1 e2 he2
        obtain ⟨b1, hb1, rfl⟩ := List.mem_map.mp he1
        obtain ⟨b2, hb2, rfl⟩ := List.mem_map.mp he2
        obtain ⟨x1, y1, h1⟩ := hb3 _ hb1
        obtain ⟨x2, y2, h2⟩ := hb3 _ hb2
        rw [h1, h2]
        simp [PySem.W.alike, PySem.W.alikeAll]
      · refine .inl fun e he => ?_
        obtain ⟨b, hb, rfl⟩ := List.mem_map.mp he
        obtain ⟨x, y, h1⟩ := hb3 _ hb
        exact ⟨_, _, h1⟩
      · intro b hb
        obtain ⟨x, y, h1⟩ := hb3 _ hb
        rw [h1]
        simp [PyData.depth, PyData.depthAll]
      have hso2 : ∀ x ∈ (bs.mergeSort (PySem.W.dataLe false (·.2))).map (·.1), ∃ r, x = .ref r ∧ r ∈ ls := fun x hx => by
        obtain ⟨b, hb, rfl⟩ := List.mem_map.mp hx
        exact hb4 b (List.mem_mergeSort.mp hb)
      have hlen : ((bs.mergeSort (PySem.W.dataLe false (·.2))).map (·.1)).length = ls.length := by
        have := congrArg List.length hb1
        rw [List.length_map, List.length_map] at this
        rw [List.length_map, List.length_mergeSort, this]
      generalize (bs.mergeSort (PySem.W.dataLe false (·.2))).map (·.1) = xs at hso2 hlen
      obtain ⟨so2, rfl, hsub⟩ := refs_of hso2
      rw [List.length_map] at hlen
      refine ⟨so, _, rfl, .inl ⟨SqL.of upd_same, fun b hb => ?_⟩⟩
      have xs1 := (Ext.new (o := .lst (so2.map V.ref)) hso).trans (Ext.new (o := .tup (so2.map V.ref)) hb)
      have hbk : BookAt K (upd (upd H' so (.lst (so2.map V.ref))) b (.tup (so2.map V.ref))) b := ⟨so2, SqT.of upd_same, by omega, fun r hr => (hrows r (hsub r hr)).ext xs1⟩
      generalize upd (upd H' so (.lst (so2.map V.ref))) b (.tup (so2.map V.ref)) = J at xs1 hbk
      have xJ := xx.trans xs1
      refine ⟨_, rfl, r, _, _, .str w0, rfl, rfl, SqL.of (xJ _ _ hr9), atI_nat (j := 0) rfl, _, rfl, w0, d, kvs, rfl, tw0, xJ _ _ hd9, htab, fun y H2 x2 hy => ⟨_, rfl, line 3 (by omega), fun u hu => ?_⟩⟩
      have xu := x2.trans (Ext.new (o := .tup [V.ref b, V.str y, V.ref m]) hu)
      exact k u b m y _ (y9.trans (ExtF.of (xJ.trans xu))) (f10.ext (xJ.trans xu)) upd_same (hbk.ext xu) hy
end Og
set_option Elab.async false
set_option linter.all false
set_option maxRecDepth 100000
set_option maxHeartbeats 4000000
namespace Og
open PySem PySem.Spec PyProof.Rows L2 TL
variable {P : Program} {w : World} {K : PySem.W.Frag} {mg : Str → Option Value} {base : Heap} {A : Str → Addr} {B : Str → FuncData}
/-! ### law -/
theorem ev_read {Ts : List (Addr × Str)} {z : Str} {n : Nat} {H : Hp} {Q : VK} {E : XK} (h : TxS n z) (hn : n ≤ 2000) (ht : LamX.Tabs Ts H) (k : ∀ H', LamX.ExtN H H' → LamX.Tabs Ts H' → Q (.bl true) H') : spEvRight Ts [.str z] H Q E := by
  obtain ⟨l, rfl, hl⟩ := h.okT hn
  exact ⟨l, rfl, hl, ht, k⟩
theorem lg_read {Ts : List (Addr × Str)} {a : Addr} {zs : List Str} {H : Hp} {Q : VK} {E : XK} (ha : H a = some (.lst (zs.map V.str))) (h4 : zs.length ≤ 4) (h : ∀ z ∈ zs, TxS 2000 z) (ht : LamX.Tabs Ts H) (k : ∀ H', LamX.ExtN H H' → LamX.Tabs Ts H' → Q (.bl true) H') : spLogRight Ts [.ref a] H Q E := by
  have key : ∀ zs : List Str, (∀ z ∈ zs, TxS 2000 z) → ∃ ls : List (List Nat), zs.map V.str = ls.map (fun h => V.str (S h)) ∧ ls.length = zs.length ∧ ∀ l ∈ ls, OkT l := by
    intro zs
    induction zs with
    | nil => intro _; exact ⟨[], rfl, rfl, fun l h => nomatch h⟩
    | cons z zs ih =>
      intro h
      obtain ⟨ls, h1, h2, h3⟩ := ih fun x hx => h x (List.mem_cons_of_mem _ hx)
      obtain ⟨l, rfl, hl⟩ := (h z List.mem_cons_self).okT (Nat.le_refl _)
      refine ⟨l :: ls, by rw [List.map_cons, h1]; rfl, by simp [h2], fun x hx => ?_⟩
      rcases List.mem_cons.mp hx with rfl | hx
      · exact hl
      · exact h3 x hx
  obtain ⟨ls, h1, h2, h3⟩ := key zs h
  exact ⟨a, ls, rfl, by rw [ha, h1], by omega, h3, ht, k⟩
theorem not_var {sp : Sp} {dvs : List V} {E : XK} {j : Nat} {v : V} {σ : L2.St} {H : Hp} {R : Bool → Hp → Prop} (hv : σ[j]? = some (some v)) (h : sp ([v] ++ dvs) H (fun x H2 => ∃ k, x = .bl k ∧ R (!k) H2) E) : tNot (tB (tCall sp dvs E (tCons (tVar j) tNil))) σ H R := ⟨v, hv, h⟩
theorem not_one {sp : Sp} {dvs : List V} {E : XK} {te : TE} {σ : L2.St} {H : Hp} {R : Bool → Hp → Prop} (h : te σ H fun v H1 => sp ([v] ++ dvs) H1 (fun x H2 => ∃ k, x = .bl k ∧ R (!k) H2) E) : tNot (tB (tCall sp dvs E (tCons te tNil))) σ H R := h
theorem andv_one {sp : Sp} {dvs : List V} {E : XK} {te tb : TE} {σ : L2.St} {H : Hp} {Q : VK} (h : te σ H fun v H1 => sp ([v] ++ dvs) H1 (fun x H2 => ∃ c, x = .bl c ∧ if c = true then tb σ H2 Q else Q (.bl false) H2) E) : tAndV (tCall sp dvs E (tCons te tNil)) tb σ H Q := h
theorem call1 {sp : Sp} {dvs : List V} {E : XK} {te : TE} {σ : L2.St} {H : Hp} {Q : VK} (h : te σ H fun v H1 => sp ([v] ++ dvs) H1 Q E) : tCall sp dvs E (tCons te tNil) σ H Q := h
theorem or1 {ta tb : TT} {σ : L2.St} {H : Hp} {R : Bool → Hp → Prop} (h : ta σ H fun b H1 => if b = true then R true H1 else tb σ H1 R) : tOr ta tb σ H R := h
theorem tIf1 {c : TT} {t e : TS} {D : Ends} {σ : L2.St} {H : Hp} (h : c σ H fun b H1 => if b = true then t D σ H1 else e D σ H1) : tIfS c t e D σ H := h
def LSt (K : PySem.W.Frag) (Ts : List (Addr × Str)) (t : Nat) (a b : Addr) (H : Hp) : Prop := FeedAt t a H ∧ BookAt K H b ∧ LamX.Tabs Ts H
section
variable {Ts : List (Addr × Str)} {t t' : Nat} {a b : Addr} {H H' : Hp}
theorem LSt.ext (h : LSt K Ts t a b H) (e : Ext H H') : LSt K Ts t a b H' := ⟨h.1.ext e, h.2.1.ext e, Tabs_ext h.2.2 e⟩
theorem LSt.extN (h : LSt K Ts t a b H) (e : LamX.ExtN H H') (g : LamX.Tabs Ts H') : LSt K Ts t a b H' := ⟨h.1.extN e, h.2.1.extN e, g⟩
theorem LSt.extF (h : LSt K Ts t a b H) (e : ExtF a H H') (f : FeedAt t' a H') : LSt K Ts t' a b H' := by
  obtain ⟨kvs, hk⟩ := h.1.dk
  exact ⟨f, h.2.1.extF e hk, tabs_extF e hk h.2.2⟩
end
def spLaw (K : PySem.W.Frag) (Ts : List (Addr × Str)) : Sp := fun vs H Q _ => ∃ (b : Addr) (ns : List Int), vs = [.ref b] ∧ SqL K H b (ns.map V.int) ∧ LamX.Tabs Ts H ∧ ∀ H', Q (.bl true) H'
abbrev N_law : List Str := ["script", "feed", "book", "wish", "atoms", "first", "lap", "line", "spoilt", "bent", "text"]
abbrev P_law : List Str := ["script"]
theorem sc_law : FnScope N_law P_law (defScope s_law) := ⟨rfl, rfl, rfl, by decide +kernel, rfl, by decide +kernel, by decide +kernel⟩
theorem ok_law {cE cL PE PL fA : Addr} {fD : FuncData} (T : Facts P K mg A B) (hcE : (B "_law_event_right").code = .ref cE) (hcL : (B "_law_log_right").code = .ref cL) (TBE : LamX.TabB base mg cE PE) (TBL : LamX.TabB base mg cL PL) (hne : PE ≠ PL)
    (F : Fun K "law" "law" s_law fA fD) : FnOkG P w K mg base CX0 15 fA fD ["script"] (spLaw K (Tt PE PL)) := by
  refine okG F sc_law (fun vs H Q E h => ?_) (fun cdv Ar outer s H vs Q E hg hr hcd h => ?_)
  · obtain ⟨b, ns, rfl, _⟩ := h
    rfl
  · obtain ⟨b, ns, rfl, hb, htab, k⟩ := h
    refine ⟨_, ((pss_cons (ps_set (i := 1) sc_law.nd rfl (Or.inl rfl) (pe_call (ok__law_feed T) (hr.mono (by decide)) rfl T._law_feed.mg T._law_feed.kp T._law_feed.bi .nil pass0 (pa_cons (pv 0) pa_nil)))
      (pss_cons (ps_if (pt_cmpR (op_neD hr.units) (pe_lc (own := [("text", 10)]) (g := gName 10) rfl sc_law.nd (pi_list (pe_op op_cat (pe_call0 (ok__law_hands T) (hr.mono (by decide)) rfl T._law_hands.mg T._law_hands.kp T._law_hands.bi .nil pass0) (pe_lst (pa_cons pe_str (pa_cons pe_str (pa_cons pe_str pa_nil)))))) (blkOk_by (own := [("text", 10)]) (N := N_law) (sc := defScope s_law) (by decide +kernel)) (fun _ _ _ _ _ => (pg_name (i := 10) sc_law.nd rfl (Or.inl rfl))) (fun _ _ _ _ _ => (pts_one (pt_not (pt_val (pe_callG (ok__law_event_right T hcE TBE hne) hg (hr.mono (by decide)) rfl T._law_event_right.mg T._law_event_right.kp T._law_event_right.bi .nil pass0 (pa_cons (pv 10) pa_nil)))))) (fun _ _ _ _ _ => (pv 10))) (pe_lst pa_nil) (nomark _)) (pss_one (ps_ret pe_bl)) pss_nil)
      (pss_cons (ps_if (PW.pt (pw_or (pt_cmpR (op_neD hr.units) (pe_lc (own := [("text", 10)]) (g := gName 10) rfl sc_law.nd (pi_list (pe_op op_cat (pe_call0 (ok__law_firsts T) (hr.mono (by decide)) rfl T._law_firsts.mg T._law_firsts.kp T._law_firsts.bi .nil pass0) (pe_lst (pa_cons pe_str pa_nil)))) (blkOk_by (own := [("text", 10)]) (N := N_law) (sc := defScope s_law) (by decide +kernel)) (fun _ _ _ _ _ => (pg_name (i := 10) sc_law.nd rfl (Or.inl rfl))) (fun _ _ _ _ _ => (pts_one (pt_not (pt_val (pe_callG (ok__law_log_right T hcL TBL hne) hg (hr.mono (by decide)) rfl T._law_log_right.mg T._law_log_right.kp T._law_log_right.bi .nil pass0 (pa_cons (pe_lst (pa_cons (pv 10) pa_nil)) pa_nil)))))) (fun _ _ _ _ _ => (pv 10))) (pe_lst pa_nil) (nomark _)) (pw_or1 (pt_not (pt_val (pe_callG (ok__law_log_right T hcL TBL hne) hg (hr.mono (by decide)) rfl T._law_log_right.mg T._law_log_right.kp T._law_log_right.bi .nil pass0 (pa_cons (pe_lst pa_nil) pa_nil))))))) (pss_one (ps_ret pe_bl)) pss_nil)
      (pss_cons (ps_asg (pe_call (ok__law_book T) (hr.mono (by decide)) rfl T._law_book.mg T._law_book.kp T._law_book.bi .nil pass0 (pa_cons (pv 1) pa_nil)) (pg_tup rfl (pgs_cons (pg_name (i := 2) sc_law.nd rfl (Or.inl rfl)) (pgs_cons (pg_name (i := 3) sc_law.nd rfl (Or.inl rfl)) (pgs_cons (pg_name (i := 4) sc_law.nd rfl (Or.inl rfl)) pgs_nil)))))
      (pss_cons (ps_set (i := 5) sc_law.nd rfl (Or.inl rfl) (pe_op op_add_str pe_str (pe_call (ok__law_entries T) (hr.mono (by decide)) rfl T._law_entries.mg T._law_entries.kp T._law_entries.bi .nil pass0 (pa_cons (pv 2) pa_nil))))
      (pss_cons (ps_for PassesOwn.leaving rfl (pi_range1 rfl T.b_range (pa_cons pe_int pa_nil)) (pg_name (i := 6) sc_law.nd rfl (Or.inl rfl)) (pss_cons (ps_set (i := 7) sc_law.nd rfl (Or.inl rfl) (pe_call (ok__law_some_line T) (hr.mono (by decide)) rfl T._law_some_line.mg T._law_some_line.kp T._law_some_line.bi .nil pass0 (pa_cons (pv 1) (pa_cons (pv 2) (pa_cons (pv 3) pa_nil)))))
      (pss_cons (ps_par (by rfl) sc_law.nd (i := 8) (j := 9) rfl rfl (by decide) rfl rfl (pa_cons (pe_call (ok__law_spoilt T) (hr.mono (by decide)) rfl T._law_spoilt.mg T._law_spoilt.kp T._law_spoilt.bi .nil pass0 (pa_cons (pv 1) (pa_cons (pv 7) pa_nil))) (pa_cons (pe_call (ok__law_spoilt T) (hr.mono (by decide)) rfl T._law_spoilt.mg T._law_spoilt.kp T._law_spoilt.bi .nil pass0 (pa_cons (pv 1) (pa_cons (pv 5) pa_nil))) pa_nil)) (by rfl))
      (pss_cons (ps_if (PW.pt (pw_or (pt_not (pt_val (pe_callG (ok__law_event_right T hcE TBE hne) hg (hr.mono (by decide)) rfl T._law_event_right.mg T._law_event_right.kp T._law_event_right.bi .nil pass0 (pa_cons (pv 7) pa_nil)))) (pw_or1 (pt_not (pt_val (pe_callG (ok__law_event_right T hcE TBE hne) hg (hr.mono (by decide)) rfl T._law_event_right.mg T._law_event_right.kp T._law_event_right.bi .nil pass0 (pa_cons (pv 8) pa_nil))))))) (pss_one (ps_ret pe_bl)) pss_nil)
      (pss_cons (ps_if (pt_not (pt_val (pe_callG (ok__law_event_right T hcE TBE hne) hg (hr.mono (by decide)) rfl T._law_event_right.mg T._law_event_right.kp T._law_event_right.bi .nil pass0 (pa_cons (pe_call (ok__law_spoilt T) (hr.mono (by decide)) rfl T._law_spoilt.mg T._law_spoilt.kp T._law_spoilt.bi .nil pass0 (pa_cons (pv 1) (pa_cons (pv 8) pa_nil))) pa_nil)))) (pss_one (ps_ret pe_bl)) pss_nil)
      (pss_cons (ps_if (PW.pt (pw_or (pt_not (pt_val (pe_callG (ok__law_log_right T hcL TBL hne) hg (hr.mono (by decide)) rfl T._law_log_right.mg T._law_log_right.kp T._law_log_right.bi .nil pass0 (pa_cons (pe_lst (pa_cons (pv 9) (pa_cons (pv 7) pa_nil))) pa_nil)))) (pw_or1 (pt_not (pt_val (pe_callG (ok__law_log_right T hcL TBL hne) hg (hr.mono (by decide)) rfl T._law_log_right.mg T._law_log_right.kp T._law_log_right.bi .nil pass0 (pa_cons (pe_lst (pa_cons (pv 5) (pa_cons (pv 7) (pa_cons (pv 8) (pa_cons (pv 7) pa_nil))))) pa_nil))))))) (pss_one (ps_ret pe_bl)) pss_nil)
      (pss_one (ps_if (PW.pt (pw_or (pt_not (pt_val (pe_callG (ok__law_log_right T hcL TBL hne) hg (hr.mono (by decide)) rfl T._law_log_right.mg T._law_log_right.kp T._law_log_right.bi .nil pass0 (pa_cons (pe_lst (pa_cons (pe_call (ok__law_spoilt T) (hr.mono (by decide)) rfl T._law_spoilt.mg T._law_spoilt.kp T._law_spoilt.bi .nil pass0 (pa_cons (pv 1) (pa_cons (pv 9) pa_nil))) pa_nil)) pa_nil)))) (pw_or1 (pt_not (pt_val (pe_callG (ok__law_log_right T hcL TBL hne) hg (hr.mono (by decide)) rfl T._law_log_right.mg T._law_log_right.kp T._law_log_right.bi .nil pass0 (pa_cons (pe_lst (pa_cons (pv 5) (pa_cons (pv 8) (pa_cons (pv 9) pa_nil)))) pa_nil))))))) (pss_one (ps_ret pe_bl)) pss_nil))))))))
      (pss_one (ps_ret (pe_and (pe_callG (ok__law_log_right T hcL TBL hne) hg (hr.mono (by decide)) rfl T._law_log_right.mg T._law_log_right.kp T._law_log_right.bi .nil pass0 (pa_cons (pe_lst (pa_cons (pv 5) (pa_cons (pv 5) pa_nil))) pa_nil)) (pe_one (pe_callG (ok__law_log_right T hcL TBL hne) hg (hr.mono (by decide)) rfl T._law_log_right.mg T._law_log_right.kp T._law_log_right.bi .nil pass0 (pa_cons (pe_lst (pa_cons (pv 5) (pa_cons pe_str pa_nil))) pa_nil))))))))))))), ?_⟩
    have line : ∀ m : Nat, m ≤ 4000 → m ≤ sizeLine := fun m h => by rw [sizeLine_eq]; omega
    refine asg1 ⟨_, rfl, b, ns, rfl, hb, fun a H1 ha x1 f1 => ?_⟩
    have tb1 := Tabs_ext htab x1
    -- the events written by hand
    refine seqZ (fun σ H2 => σ = [some (.ref b), some (.ref a), none, none, none, none, none, none, none, none, none] ∧ FeedAt 0 a H2 ∧ LamX.Tabs (Tt PE PL) H2) ?_ ?_
    rotate_left
    · intro ez
      refine ⟨rfl, fun q1 ys H2 x2 hq1 hyl hys => ⟨line 3 (by omega), fun q2 hq2 => ⟨q1, q2, _, _, rfl, rfl, (Ext.new hq2) _ _ hq1, upd_same, ?_, fun q3 hq3 => ?_⟩⟩⟩
      · rw [List.length_map]; exact line _ (by show _ + 3 ≤ _; omega)
      have x3 := (x2.trans (Ext.new hq2)).trans (Ext.new (o := .lst (ys.map V.str ++ [V.str "let p\n", V.str "\n", V.str "drop a\n"])) hq3)
      have h3 : upd (upd H2 q2 (.lst [V.str "let p\n", V.str "\n", V.str "drop a\n"])) q3 (.lst (ys.map V.str ++ [V.str "let p\n", V.str "\n", V.str "drop a\n"])) q3 = some (.lst ((ys ++ (["let p\n", "\n", "drop a\n"] : List Str)).map V.str)) := by rw [upd_same, List.map_append]; rfl
      generalize upd (upd H2 q2 (.lst [V.str "let p\n", V.str "\n", V.str "drop a\n"])) q3 (.lst (ys.map V.str ++ [V.str "let p\n", V.str "\n", V.str "drop a\n"])) = H3 at x3 h3
      have hzs : ∀ z ∈ ys ++ (["let p\n", "\n", "drop a\n"] : List Str), TxS 1800 z := fun z hz => by
        rcases List.mem_append.mp hz with hz | hz
        · exact hys z hz
        · simp only [List.mem_cons, List.not_mem_nil, or_false] at hz
          rcases hz with rfl | rfl | rfl <;> exact txS (by decide +kernel)
      generalize ys ++ (["let p\n", "\n", "drop a\n"] : List Str) = zs at h3 hzs
      refine ⟨q3, rfl, ⟨_, SqL.of h3⟩, fun D hD => lc_list (xs := zs.map V.str) (fun i H7 => LamX.ExtN H3 H7 ∧ LamX.Tabs (Tt PE PL) H7 ∧ H7 D = some (.lst [])) ⟨ExtN_of (Ext.new hD), Tabs_ext (Tabs_ext tb1 x3) (Ext.new hD), upd_same⟩ (fun i H7 _ p => SqL.of (p.1 _ _ h3 fun ps z => by cases z)) (fun i x H7 hx p => ?_) (fun H7 p => ?_)⟩
      · rw [List.getElem?_map] at hx
        obtain ⟨z, hz, rfl⟩ := Option.map_eq_some_iff.mp hx
        obtain ⟨e7, t7, hD7⟩ := p
        refine ⟨rfl, not_var rfl (ev_read (hzs z (List.mem_of_getElem? hz)) (by omega) t7 fun H8 e8 t8 => ⟨_, rfl, iteBF rfl ⟨e7.trans e8, t8, e8 _ _ hD7 fun ps z => by cases z⟩⟩)⟩
      · obtain ⟨e7, t7, hD7⟩ := p
        refine ⟨Nat.zero_le _, fun e he => ⟨_, _, .lst (SqL.of ((Ext.new he) _ _ hD7)) .nil, .lst (SqL.of upd_same) .nil, by decide, by decide, _, rfl, iteBF (by decide) ?_⟩⟩
        exact ez _ _ ⟨rfl, ((f1.ext x3).extN e7).ext (Ext.new he), Tabs_ext t7 (Ext.new he)⟩
    rintro σ2 H2 ⟨rfl, f2, tb2⟩
    clear tb1 f1 x1 ha hb htab
    -- the first lines written by hand
    refine seqZ (fun σ H3 => σ = [some (.ref b), some (.ref a), none, none, none, none, none, none, none, none, none] ∧ FeedAt 0 a H3 ∧ LamX.Tabs (Tt PE PL) H3) ?_ ?_
    rotate_left
    · intro ez
      refine ⟨rfl, fun q1 ys H3 x2 hq1 hyl hys => ⟨line 1 (by omega), fun q2 hq2 => ⟨q1, q2, _, _, rfl, rfl, (Ext.new hq2) _ _ hq1, upd_same, ?_, fun q3 hq3 => ?_⟩⟩⟩
      · rw [List.length_map]; exact line _ (by show _ + 1 ≤ _; omega)
      have x3 := (x2.trans (Ext.new hq2)).trans (Ext.new (o := .lst (ys.map V.str ++ [V.str "bench -\n"])) hq3)
      have h3 : upd (upd H3 q2 (.lst [V.str "bench -\n"])) q3 (.lst (ys.map V.str ++ [V.str "bench -\n"])) q3 = some (.lst ((ys ++ (["bench -\n"] : List Str)).map V.str)) := by rw [upd_same, List.map_append]; rfl
      generalize upd (upd H3 q2 (.lst [V.str "bench -\n"])) q3 (.lst (ys.map V.str ++ [V.str "bench -\n"])) = H4 at x3 h3
      have hzs : ∀ z ∈ ys ++ (["bench -\n"] : List Str), TxS 1800 z := fun z hz => by
        rcases List.mem_append.mp hz with hz | hz
        · exact hys z hz
        · rw [List.mem_singleton.mp hz]; exact txS (by decide +kernel)
      generalize ys ++ (["bench -\n"] : List Str) = zs at h3 hzs
      refine ⟨q3, rfl, ⟨_, SqL.of h3⟩, fun D hD => lc_list (xs := zs.map V.str) (fun i H7 => LamX.ExtN H4 H7 ∧ LamX.Tabs (Tt PE PL) H7 ∧ H7 D = some (.lst [])) ⟨ExtN_of (Ext.new hD), Tabs_ext (Tabs_ext tb2 x3) (Ext.new hD), upd_same⟩ (fun i H7 _ p => SqL.of (p.1 _ _ h3 fun ps z => by cases z)) (fun i x H7 hx p => ?_) (fun H7 p => ?_)⟩
      · rw [List.getElem?_map] at hx
        obtain ⟨z, hz, rfl⟩ := Option.map_eq_some_iff.mp hx
        obtain ⟨e7, t7, hD7⟩ := p
        have tz := (hzs z (List.mem_of_getElem? hz)).mono (show 1800 ≤ 2000 by omega)
        refine ⟨rfl, not_one ⟨_, rfl, line 1 (by omega), fun o ho => ?_⟩⟩
        have xo := Ext.new (o := .lst [V.str z]) ho
        refine lg_read (zs := [z]) upd_same (by exact (by decide : 1 ≤ 4)) (fun y hy => by rw [List.mem_singleton.mp hy]; exact tz) (Tabs_ext t7 xo) fun H8 e8 t8 => ⟨_, rfl, iteBF rfl ⟨(e7.trans (ExtN_of xo)).trans e8, t8, e8 _ _ (xo _ _ hD7) fun ps z => by cases z⟩⟩
      · obtain ⟨e7, t7, hD7⟩ := p
        refine ⟨Nat.zero_le _, fun e he => ⟨_, _, .lst (SqL.of ((Ext.new he) _ _ hD7)) .nil, .lst (SqL.of upd_same) .nil, by decide, by decide, _, rfl, iteBF (by decide) ?_⟩⟩
        have f7 := ((f2.ext x3).extN e7).ext (Ext.new (o := .lst []) he)
        have t7 := Tabs_ext t7 (Ext.new (o := .lst []) he)
        generalize upd H7 e (.lst []) = H8 at f7 t7
        refine not_one ⟨Nat.zero_le _, fun o ho => ?_⟩
        refine lg_read (zs := []) upd_same (by decide) (fun y hy => nomatch hy) (Tabs_ext t7 (Ext.new ho)) fun H9 e9 t9 => ⟨_, rfl, iteBF rfl (ez _ _ ⟨rfl, (f7.ext (Ext.new ho)).extN e9, t9⟩)⟩
    rintro σ3 H3 ⟨rfl, f3, tb3⟩
    clear f2 tb2
    -- the book
    refine ⟨_, rfl, a, 0, rfl, by omega, f3, fun u bk m wish H4 x4 f4 hu hbk hw => ?_⟩
    obtain ⟨kv3, hk3⟩ := f3.dk
    have tb4 := tabs_extF x4 hk3 tb3
    refine ⟨u, _, rfl, SqT.of hu, rfl, _, _, rfl, _, _, rfl, _, _, rfl, rfl, ?_⟩
    have s4 : LSt K (Tt PE PL) (0 + 4) a bk H4 := ⟨f4, hbk, tb4⟩
    dsimp only
    refine asg1 ⟨_, rfl, bk, rfl, hbk, fun es H5 x5 hes => ⟨_, _, rfl, rfl, (txS (n := 6) (by decide +kernel)).app_line hes (by omega), ?_⟩⟩
    have s5 := s4.ext x5
    have tF : TxS 906 (("bench " : Str) ++ es) := (txS (n := 6) (by decide +kernel)).app hes
    generalize ("bench " : Str) ++ es = first at tF
    clear s4 hu hes x5 x4 f4 f3 tb3 tb4 hk3 hbk
    refine ⟨6, rfl, by omega, by omega, ?_⟩
    refine for_range (lo := 0) (n := 6) (fun i σ H' => LSt K (Tt PE PL) (4 + 15 * i) a bk H' ∧ ∃ v6 v7 v8 v9, σ = [some (.ref b), some (.ref a), some (.ref bk), some (.str wish), some (.ref m), some (.str first), v6, v7, v8, v9, none]) ⟨s5, none, none, none, none, rfl⟩ (fun i σ H6 hi p => ?_) (fun σ H6 p => ?_)
    · obtain ⟨s6, v6, v7, v8, v9, rfl⟩ := p
      dsimp only [gName]
      refine asg1 ⟨_, rfl, _, rfl, _, rfl, a, bk, wish, _, rfl, s6.2.1, hw, by omega, s6.1, fun ln H7 hz x7 f7 => ?_⟩
      have s7 := s6.extF x7 f7
      refine ⟨_, rfl, _, rfl, a, ln, 500, _, rfl, hz, by omega, by omega, f7, fun spo H8 hsp x8 f8 => ⟨_, rfl, _, rfl, a, first, 906, _, rfl, tF, by omega, by omega, f8, fun bent H9 hbt x9 f9 => ⟨_, _, rfl, ?_⟩⟩⟩
      have s9 := (s7.extF x8 f8).extF x9 f9
      clear s6 s7 x7 x8 x9 f7 f8 f9
      dsimp only
      refine tseqIf (or1 (not_var rfl (ev_read hz (by omega) s9.2.2 fun H10 e10 t10 => ⟨_, rfl, iteBF rfl (not_var rfl (ev_read hsp (by omega) t10 fun H11 e11 t11 => ⟨_, rfl, iteBF rfl ?_⟩))⟩)))
      have s11 := (s9.extN e10 t10).extN e11 t11
      clear s9 e10 e11 t10 t11
      dsimp only [tNext]
      refine tseqIf (not_one ⟨_, rfl, _, rfl, a, spo, 504, _, rfl, hsp, by omega, by omega, s11.1, fun sp2 H12 hsp2 x12 f12 => ?_⟩)
      have s12 := s11.extF x12 f12
      refine ev_read hsp2 (by omega) s12.2.2 fun H13 e13 t13 => ⟨_, rfl, iteBF rfl ?_⟩
      have s13 := s12.extN e13 t13
      clear s11 s12 x12 f12 e13 t13
      dsimp only [tNext]
      have z2 : 2 ≤ sizeLine := line 2 (by omega)
      refine tseqIf (or1 (not_one ⟨_, rfl, _, rfl, z2, fun o ho => ?_⟩))
      refine lg_read (zs := [bent, ln]) upd_same (by exact (by decide : 2 ≤ 4)) (fun y hy => ?_) (s13.ext (Ext.new ho)).2.2 fun H14 e14 t14 => ⟨_, rfl, iteBF rfl (not_one ⟨_, rfl, _, rfl, _, rfl, _, rfl, line 4 (by omega), fun o2 ho2 => ?_⟩)⟩
      · simp only [List.mem_cons, List.not_mem_nil, or_false] at hy
        rcases hy with rfl | rfl
        · exact hbt.mono (by omega)
        · exact hz.mono (by omega)
      have s14 := (s13.ext (Ext.new ho)).extN e14 t14
      refine lg_read (zs := [first, ln, spo, ln]) upd_same (by exact (by decide : 4 ≤ 4)) (fun y hy => ?_) (s14.ext (Ext.new ho2)).2.2 fun H15 e15 t15 => ⟨_, rfl, iteBF rfl ?_⟩
      · simp only [List.mem_cons, List.not_mem_nil, or_false] at hy
        rcases hy with rfl | rfl | rfl | rfl
        · exact tF.mono (by omega)
        · exact hz.mono (by omega)
        · exact hsp.mono (by omega)
        · exact hz.mono (by omega)
      have s15 := (s14.ext (Ext.new ho2)).extN e15 t15
      clear s13 s14 e14 t14 e15 t15
      dsimp only [tNext]
      refine tIf1 (or1 (not_one ⟨_, rfl, _, rfl, a, bent, 910, _, rfl, hbt, by omega, by omega, s15.1, fun sp3 H16 hsp3 x16 f16 => ⟨line 1 (by omega), fun o3 ho3 => ?_⟩⟩))
      have s16 := s15.extF x16 f16
      refine lg_read (zs := [sp3]) upd_same (by exact (by decide : 1 ≤ 4)) (fun y hy => ?_) (s16.ext (Ext.new ho3)).2.2 fun H17 e17 t17 => ⟨_, rfl, iteBF rfl (not_one ⟨_, rfl, _, rfl, _, rfl, line 3 (by omega), fun o4 ho4 => ?_⟩)⟩
      · rw [List.mem_singleton.mp hy]
        exact hsp3.mono (by omega)
      have s17 := (s16.ext (Ext.new ho3)).extN e17 t17
      refine lg_read (zs := [first, spo, bent]) upd_same (by exact (by decide : 3 ≤ 4)) (fun y hy => ?_) (s17.ext (Ext.new ho4)).2.2 fun H18 e18 t18 => ⟨_, rfl, iteBF rfl ?_⟩
      · simp only [List.mem_cons, List.not_mem_nil, or_false] at hy
        rcases hy with rfl | rfl | rfl
        · exact tF.mono (by omega)
        · exact hsp.mono (by omega)
        · exact hbt.mono (by omega)
      have s18 := (s17.ext (Ext.new ho4)).extN e18 t18
      exact ⟨⟨s18.1.mono (by omega), s18.2⟩, _, _, _, _, rfl⟩
    · obtain ⟨s6, v6, v7, v8, v9, rfl⟩ := p
      have z2 : 2 ≤ sizeLine := line 2 (by omega)
      dsimp only
      refine ret1 (andv_one ⟨_, rfl, _, rfl, z2, fun o ho => ?_⟩)
      have xo := Ext.new (o := .lst [V.str first, V.str first]) ho
      refine lg_read (zs := [first, first]) upd_same (by exact (by decide : 2 ≤ 4)) (fun y hy => ?_) (s6.ext xo).2.2 fun H7 e7 t7 => ⟨_, rfl, iteT (call1 ⟨_, rfl, z2, fun o2 ho2 => ?_⟩)⟩
      · simp only [List.mem_cons, List.not_mem_nil, or_false] at hy
        rcases hy with rfl | rfl <;> exact tF.mono (by omega)
      · refine lg_read (zs := [first, ""]) upd_same (by exact (by decide : 2 ≤ 4)) (fun y hy => ?_) (Tabs_ext t7 (Ext.new ho2)) fun H8 e8 t8 => k _
        simp only [List.mem_cons, List.not_mem_nil, or_false] at hy
        rcases hy with rfl | rfl
        · exact tF.mono (by omega)
        · exact txS (by decide +kernel)
end Og
set_option Elab.async false
set_option linter.all false
set_option maxRecDepth 100000
set_option maxHeartbeats 4000000
namespace Og
open PySem PySem.Spec PyProof.Rows L2 He
/-! ### addresses by names -/
def A_ (K : PySem.W.Frag) (x : Str) : Addr := if x = "InvalidText.__init__" then ma K (ga K "InvalidText") "__init__" else ga K x
def B_ (K : PySem.W.Frag) (x : Str) : FuncData := fdAt K (A_ K x)
theorem A_g {K : PySem.W.Frag} {x : Str} (h : x ≠ "InvalidText.__init__") : A_ K x = ga K x := if_neg h
theorem A_i {K : PySem.W.Frag} : A_ K "InvalidText.__init__" = ma K (ga K "InvalidText") "__init__" := if_pos rfl
def hFa0 : List Fa := [
  .str "LETTERS" "abcdefghijklmnopqrstuvwxyz",
  .str "ARROW" " -> ",
  .str "LAST_NAME_spellings" "zzzzzzzz",
  .str "SMALL" "abcdefghijklmnopqrstuvwxyz",
  .int "LONGEST_NAME" 8,
  .str "LAST_NAME_benchreadings" "zzzzzzzz",
  .glo "EVENT_BEGINNINGS",
  .glo "FIRST_BEGINNINGS",
  .free "len",
  .free "int",
  .free "str",
  .free "bool",
  .free "list",
  .free "tuple",
  .free "sorted",
  .free "min",
  .free "max",
  .free "any",
  .free "all",
  .free "isinstance",
  .free "repr",
  .free "range",
  .free "enumerate",
  .glo "InvalidText",
  .glo "GivenError",
  .glo "NotUsable",
  .glo "InvalidEvent",
  .glo "NothingToUndo",
  .glo "Broken",
  .glo "InvalidRow"]
def hFa1 : List Fa := [
  .glo "BookError",
  .glo "BenchError",
  .glo "TextError",
  .glo "PaperError",
  .free "ValueError",
  .glo "name_end",
  .glo "arrow_end",
  .glo "kind_end",
  .glo "entry_end",
  .glo "greatest_name",
  .glo "is_integer",
  .glo "is_number",
  .glo "kind_read",
  .glo "entry_read",
  .glo "want_text",
  .glo "want_line",
  .glo "entry_after",
  .glo "common_with",
  .glo "letters_ahead",
  .glo "name_in",
  .glo "entry_in",
  .glo "kind_in",
  .glo "event_in",
  .glo "later_reach",
  .glo "later_entry",
  .glo "entries_in",
  .glo "first_in",
  .glo "read_event",
  .glo "read_log",
  .glo "_law_feed"]
def hFa2 : List Fa := [
  .glo "_law_draw",
  .glo "_law_pick",
  .glo "_law_scenes",
  .glo "_law_turned",
  .glo "_law_book",
  .glo "_law_refusal",
  .glo "_law_said",
  .glo "_law_alike",
  .glo "_law_is_sign",
  .glo "_law_kind_scan",
  .glo "_law_entry_scan",
  .glo "_law_first_scan",
  .glo "_law_line_fault",
  .glo "_law_event_of",
  .glo "_law_first_of",
  .glo "_law_line",
  .glo "_law_entries",
  .glo "_law_some_line",
  .glo "_law_spoilt",
  .glo "_law_event_right",
  .glo "_law_log_right",
  .glo "_law_hands",
  .glo "_law_firsts",
  .glo "law"]
def hFa : List Fa := hFa0 ++ (hFa1 ++ (hFa2))
def hFn0 : List DefD := [
  dP "name_end" s_name_end,
  dP "arrow_end" s_arrow_end,
  dP "kind_end" s_kind_end,
  dP "entry_end" s_entry_end,
  dP "greatest_name" s_greatest_name,
  dP "is_integer" s_is_integer,
  dP "is_number" s_is_number,
  dK "kind_read" s_kind_read [("line", .int 0)],
  dK "entry_read" s_entry_read [("line", .int 0)],
  dP "want_text" s_want_text,
  dP "want_line" s_want_line,
  dP "entry_after" s_entry_after,
  dP "common_with" s_common_with,
  dP "letters_ahead" s_letters_ahead,
  dP "name_in" s_name_in,
  dP "entry_in" s_entry_in,
  dP "kind_in" s_kind_in,
  dP "event_in" s_event_in,
  dP "later_reach" s_later_reach,
  dP "later_entry" s_later_entry,
  dP "entries_in" s_entries_in,
  dP "first_in" s_first_in,
  dP "read_event" s_read_event,
  dP "read_log" s_read_log,
  dP "_law_feed" s__law_feed,
  dP "_law_draw" s__law_draw,
  dP "_law_pick" s__law_pick,
  dP "_law_scenes" s__law_scenes,
  dP "_law_turned" s__law_turned,
  dP "_law_book" s__law_book]
def hFn1 : List DefD := [
  dP "_law_refusal" s__law_refusal,
  dP "_law_said" s__law_said,
  dP "_law_alike" s__law_alike,
  dP "_law_is_sign" s__law_is_sign,
  dP "_law_kind_scan" s__law_kind_scan,
  dP "_law_entry_scan" s__law_entry_scan,
  dP "_law_first_scan" s__law_first_scan,
  dP "_law_line_fault" s__law_line_fault,
  dP "_law_event_of" s__law_event_of,
  dP "_law_first_of" s__law_first_of,
  dP "_law_line" s__law_line,
  dP "_law_entries" s__law_entries,
  dP "_law_some_line" s__law_some_line,
  dP "_law_spoilt" s__law_spoilt,
  dP "_law_event_right" s__law_event_right,
  dP "_law_log_right" s__law_log_right,
  dP "_law_hands" s__law_hands,
  dP "_law_firsts" s__law_firsts,
  dP "law" s_law]
def hFn : List DefD := hFn0 ++ (hFn1)
def hEx0 (K : PySem.W.Frag) : List Bool := [
  tupB K "EVENT_BEGINNINGS" [.str "name ", .str "drop ", .str "kind ", .str "let ", .str "bar ", .str "free "],
  tupB K "FIRST_BEGINNINGS" [.str "bench "],
  eqO (PySem.W.findIn K (.ref (ga K "InvalidText")) "line") (some none),
  eqO (PySem.W.findIn K (.ref (ga K "InvalidText")) "column") (some none),
  decide (PySem.W.exmOne K (.ref (ga K "InvalidText")) (.ref (ga K "GivenError")) = some true),
  decide (PySem.W.kitOne K (.ref (ga K "InvalidText")) (.ref (ga K "NotUsable")) = some false),
  decide (PySem.W.kitOne K (.ref (ga K "InvalidText")) (.ref (ga K "InvalidEvent")) = some false),
  decide (PySem.W.kitOne K (.ref (ga K "InvalidText")) (.ref (ga K "NothingToUndo")) = some false),
  decide (PySem.W.kitOne K (.ref (ga K "InvalidText")) (.ref (ga K "Broken")) = some false),
  decide (PySem.W.kitOne K (.ref (ga K "InvalidText")) (.ref (ga K "InvalidText")) = some true),
  decide (PySem.W.kitOne K (.ref (ga K "InvalidText")) (.ref (ga K "InvalidRow")) = some false),
  decide (PySem.W.kitOne K (.ref (ga K "InvalidText")) (.ref (ga K "BookError")) = some false),
  decide (PySem.W.kitOne K (.ref (ga K "InvalidText")) (.ref (ga K "BenchError")) = some false),
  decide (PySem.W.kitOne K (.ref (ga K "InvalidText")) (.ref (ga K "TextError")) = some true),
  decide (PySem.W.kitOne K (.ref (ga K "InvalidText")) (.ref (ga K "PaperError")) = some false),
  decide (PySem.W.kitOne K (.ref (ga K "InvalidText")) (.type "ValueError") = some true),
  decide (PySem.W.exmOne K (.ref (ga K "InvalidText")) (.ref (ga K "InvalidText")) = some true),
  iniB K PySem.Challenge.pw_onlygiven_k74_lines_nobody_wrote (ga K "InvalidText") (ma K (ga K "InvalidText") "__init__") "InvalidText.__init__",
  supB K PySem.Challenge.pw_onlygiven_k74_lines_nobody_wrote,
  eqO (PySem.W.findIn K (.ref (ga K "InvalidText")) "__init__") (some (some (.ref (ma K (ga K "InvalidText") "__init__")))),
  decide (PySem.W.typeIn K (.ref (ma K (ga K "InvalidText") "__init__")) = some (.type "function")),
  xfB K (ga K "InvalidText"),
  excB K (ga K "InvalidText"),
  decide ((cT K ("_law_event_right", none)).2 ≠ (cT K ("_law_log_right", none)).2)]
def hEx (K : PySem.W.Frag) : List Bool := hEx0 K
def hX (K : PySem.W.Frag) : Bool := (hEx K).all id
def hTf : List Defn := [("_law_event_right", none), ("_law_log_right", none)]
def hQ (K : PySem.W.Frag) : FnI := fnI K (ma K (ga K "InvalidText") "__init__")
def hV : FnI := iniV s_ini "InvalidText.__init__"
abbrev HS (h : Heap) (K : PySem.W.Frag) : Prop := SaysR hFa hFn hTf hX hQ hV h K
section
variable {P : Program} {K : PySem.W.Frag} {h : Heap} {mg : Str → Option Value}
theorem exAt (c : HS h K) (i : Nat) {b : Bool} (e : (hEx K)[i]? = some b) : b = true := List.all_eq_true.mp c.more b (List.mem_of_getElem? e)
theorem glo_A (X : K.In h) (G : h.Ns mainGlobals mg) {x : Str} (hx : x ≠ "InvalidText.__init__") (c : (Fa.glo x).ok K = true) : mg x = some (.ref (A_ K x)) := by
  rw [A_g hx]
  exact glo_ok X G c
theorem at_of (X : K.In h) (G : h.Ns mainGlobals mg) (c : HS h K) {x : Str} {st : Stmt} {ps : List Str} (hx : x ≠ "InvalidText.__init__") (hg : (Fa.glo x).ok K = true) (F : ∃ fd, FunD K x x (defArgs st) (defBody st) (defScope st) [] [] (ga K x) fd)
    (hb : ∀ (kV doc pm : Value) (an : Option Addr) (cdv ct : Value) (us : List Value), us.length = ps.length → bindArgs (PySem.W.fnOf x x (defArgs st) (defBody st) (defScope st) .none kV doc pm an cdv ct) ⟨us, []⟩ = pure (ps.zip us)) : At K mg x st ps (A_ K x) (B_ K x) := by
  unfold B_
  rw [A_g hx]
  obtain ⟨fd, F⟩ := F
  rw [fdAt_eq (FunD.lk F)]
  exact ⟨FunD.fun_ F, glo_ok X G hg, F.kp, F.bindsN hb⟩
theorem gK_rel {n m : Nat} {vs zs : List V} {us ws : List Value} (r : Vals vs us) (z : Vals zs ws) : Vals (gK n m vs zs) (gK n m us ws) := by
  unfold gK
  rw [r.length, z.length]
  split
  · exact r.append z
  · exact .nil
theorem atK_of (X : K.In h) (G : h.Ns mainGlobals mg) (c : HS h K) {x : Str} {st : Stmt} {ps ks : List Str} {n m : Nat} (hx : x ≠ "InvalidText.__init__") (hg : (Fa.glo x).ok K = true) (F : ∃ fd, FunD K x x (defArgs st) (defBody st) (defScope st) [] [] (ga K x) fd) (hp : 0 < ps.length)
    (hb : ∀ (kV doc pm : Value) (an : Option Addr) (cdv ct : Value) (us ws : List Value), us.length = n → ws.length = m → bindArgs (PySem.W.fnOf x x (defArgs st) (defBody st) (defScope st) .none kV doc pm an cdv ct) ⟨us, ks.zip ws⟩ = pure (ps.zip (us ++ ws))) :
    AtK K mg x st ps ks n m (A_ K x) (B_ K x) := by
  unfold B_
  rw [A_g hx]
  obtain ⟨fd, F⟩ := F
  rw [fdAt_eq (FunD.lk F)]
  refine ⟨FunD.fun_ F, glo_ok X G hg, F.kp, ⟨fun s us ws _ hl => ?_, fun r z => gK_rel r z⟩⟩
  obtain ⟨oc, od, dV, kV, doc, pm, an, cdv, ct, osl, rfl, lk, hcd, hD, hK⟩ := F.ex
  rcases hD with ⟨_, rfl⟩ | ⟨e, _⟩
  · unfold gK at hl ⊢
    split at hl
    · rename_i q
      rw [if_pos q]
      exact .of_eq (hb kV doc pm an cdv ct us ws q.1 q.2)
    · simp at hl
      omega
  · exact absurd rfl e
theorem atD_of (X : K.In h) (G : h.Ns mainGlobals mg) (c : HS h K) {x k : Str} {st : Stmt} {ps : List Str} {n : Nat} {d : Dv} (hx : x ≠ "InvalidText.__init__") (hg : (Fa.glo x).ok K = true) (F : ∃ fd, FunD K x x (defArgs st) (defBody st) (defScope st) [] [(k, d.v K)] (ga K x) fd) (hn : n + 1 = ps.length)
    (hb : ∀ (D : Addr) (doc pm : Value) (an : Option Addr) (cdv ct : Value) (us ks : List Value), us.length = n → ks.length = 1 → KwChain D (([k] : List Str).zip ks) (bindArgs (PySem.W.fnOf x x (defArgs st) (defBody st) (defScope st) .none (.ref D) doc pm an cdv ct) ⟨us, []⟩) (ps.zip (us ++ ks))) :
    AtD K mg x st ps (d.v K) (A_ K x) (B_ K x) := by
  unfold B_
  rw [A_g hx]
  obtain ⟨fd, F⟩ := F
  rw [fdAt_eq (FunD.lk F)]
  exact ⟨FunD.fun_ F, glo_ok X G hg, F.kp, F.binds0 n (by simp) hn hb⟩
theorem facts_of (X : K.In h) (G : h.Ns mainGlobals mg) (c : HS h K) : Facts PySem.Challenge.pw_onlygiven_k74_lines_nobody_wrote K mg (A_ K) (B_ K) where
  LETTERS := str_ok X G (c.d.fact 0 rfl)
  ARROW := str_ok X G (c.d.fact 1 rfl)
  LAST_NAME_spellings := str_ok X G (c.d.fact 2 rfl)
  SMALL := str_ok X G (c.d.fact 3 rfl)
  LONGEST_NAME := int_ok X G (c.d.fact 4 rfl)
  LAST_NAME_benchreadings := str_ok X G (c.d.fact 5 rfl)
  EVENT_BEGINNINGS := glo_A X G (x := "EVENT_BEGINNINGS") (by decide +kernel) (c.d.fact 6 rfl)
  FIRST_BEGINNINGS := glo_A X G (x := "FIRST_BEGINNINGS") (by decide +kernel) (c.d.fact 7 rfl)
  tEB := fun H => by
    rw [A_g (by decide +kernel)]
    exact tupB_ok (exAt c 0 rfl) H
  tFB := fun H => by
    rw [A_g (by decide +kernel)]
    exact tupB_ok (exAt c 1 rfl) H
  b_len := free_ok X G (c.d.fact 8 rfl)
  b_int := free_ok X G (c.d.fact 9 rfl)
  b_str := free_ok X G (c.d.fact 10 rfl)
  b_bool := free_ok X G (c.d.fact 11 rfl)
  b_list := free_ok X G (c.d.fact 12 rfl)
  b_tuple := free_ok X G (c.d.fact 13 rfl)
  b_sorted := free_ok X G (c.d.fact 14 rfl)
  b_min := free_ok X G (c.d.fact 15 rfl)
  b_max := free_ok X G (c.d.fact 16 rfl)
  b_any := free_ok X G (c.d.fact 17 rfl)
  b_all := free_ok X G (c.d.fact 18 rfl)
  b_isinstance := free_ok X G (c.d.fact 19 rfl)
  b_repr := free_ok X G (c.d.fact 20 rfl)
  b_range := free_ok X G (c.d.fact 21 rfl)
  b_enumerate := free_ok X G (c.d.fact 22 rfl)
  gIT := glo_A X G (x := "InvalidText") (by decide +kernel) (c.d.fact 23 rfl)
  iniT := by
    unfold B_
    rw [A_i, A_g (by decide +kernel)]
    obtain ⟨fd, T, l⟩ := iniT_of (exAt c 17 rfl) (exAt c 18 rfl) c.qv
    rw [fdAt_eq l]
    exact T
  n1 := by
    rw [A_g (by decide +kernel)]
    exact eqO_ok (exAt c 2 rfl)
  n2 := by
    rw [A_g (by decide +kernel)]
    exact eqO_ok (exAt c 3 rfl)
  iC := by
    rw [A_i, A_g (by decide +kernel)]
    exact eqO_ok (exAt c 19 rfl)
  tI := by
    rw [A_i]
    exact of_decide_eq_true (exAt c 20 rfl)
  bI := by
    unfold B_
    rw [A_i]
    obtain ⟨fd, T, l⟩ := iniT_of (exAt c 17 rfl) (exAt c 18 rfl) c.qv
    rw [fdAt_eq l]
    intro s us hl
    obtain ⟨oc, od, kV, doc, pm, ct, an, osl, cc, cda, cl, ccl, cld, cdd, csl, ccs, vs, file, tf, cdD, rfl, _⟩ := T.ex
    exact .of_eq (match us, hl with | [_, _, _], _ => rfl)
  xf := by
    rw [A_g (by decide +kernel)]
    exact xfB_ok (exAt c 21 rfl)
  ex := by
    rw [A_g (by decide +kernel)]
    exact excB_ok (exAt c 22 rfl)
  gGE := glo_A X G (x := "GivenError") (by decide +kernel) (c.d.fact 24 rfl)
  teGE := by
    rw [A_g (x := "InvalidText") (by decide +kernel), A_g (x := "GivenError") (by decide +kernel)]
    exact of_decide_eq_true (exAt c 4 rfl)
  gNU := glo_A X G (x := "NotUsable") (by decide +kernel) (c.d.fact 25 rfl)
  gIE := glo_A X G (x := "InvalidEvent") (by decide +kernel) (c.d.fact 26 rfl)
  gNT := glo_A X G (x := "NothingToUndo") (by decide +kernel) (c.d.fact 27 rfl)
  gBr := glo_A X G (x := "Broken") (by decide +kernel) (c.d.fact 28 rfl)
  gIR := glo_A X G (x := "InvalidRow") (by decide +kernel) (c.d.fact 29 rfl)
  gBo := glo_A X G (x := "BookError") (by decide +kernel) (c.d.fact 30 rfl)
  gBe := glo_A X G (x := "BenchError") (by decide +kernel) (c.d.fact 31 rfl)
  gTe := glo_A X G (x := "TextError") (by decide +kernel) (c.d.fact 32 rfl)
  gPa := glo_A X G (x := "PaperError") (by decide +kernel) (c.d.fact 33 rfl)
  b_ValueError := free_ok X G (c.d.fact 34 rfl)
  kNU := by
    rw [A_g (x := "InvalidText") (by decide +kernel), A_g (x := "NotUsable") (by decide +kernel)]
    exact of_decide_eq_true (exAt c 5 rfl)
  kIE := by
    rw [A_g (x := "InvalidText") (by decide +kernel), A_g (x := "InvalidEvent") (by decide +kernel)]
    exact of_decide_eq_true (exAt c 6 rfl)
  kNT := by
    rw [A_g (x := "InvalidText") (by decide +kernel), A_g (x := "NothingToUndo") (by decide +kernel)]
    exact of_decide_eq_true (exAt c 7 rfl)
  kBr := by
    rw [A_g (x := "InvalidText") (by decide +kernel), A_g (x := "Broken") (by decide +kernel)]
    exact of_decide_eq_true (exAt c 8 rfl)
  kIT := by
    rw [A_g (x := "InvalidText") (by decide +kernel)]
    exact of_decide_eq_true (exAt c 9 rfl)
  kIR := by
    rw [A_g (x := "InvalidText") (by decide +kernel), A_g (x := "InvalidRow") (by decide +kernel)]
    exact of_decide_eq_true (exAt c 10 rfl)
  kBo := by
    rw [A_g (x := "InvalidText") (by decide +kernel), A_g (x := "BookError") (by decide +kernel)]
    exact of_decide_eq_true (exAt c 11 rfl)
  kBe := by
    rw [A_g (x := "InvalidText") (by decide +kernel), A_g (x := "BenchError") (by decide +kernel)]
    exact of_decide_eq_true (exAt c 12 rfl)
  kTe := by
    rw [A_g (x := "InvalidText") (by decide +kernel), A_g (x := "TextError") (by decide +kernel)]
    exact of_decide_eq_true (exAt c 13 rfl)
  kPa := by
    rw [A_g (x := "InvalidText") (by decide +kernel), A_g (x := "PaperError") (by decide +kernel)]
    exact of_decide_eq_true (exAt c 14 rfl)
  kVE := by
    rw [A_g (x := "InvalidText") (by decide +kernel)]
    exact of_decide_eq_true (exAt c 15 rfl)
  teIT := by
    rw [A_g (x := "InvalidText") (by decide +kernel)]
    exact of_decide_eq_true (exAt c 16 rfl)
  name_end := at_of X G c (x := "name_end") (by decide +kernel) (c.d.fact 35 rfl) (c.d.def_ 0 (d := dP "name_end" s_name_end) rfl) fun _ _ _ _ _ _ us hl => match us, hl with | [_, _], _ => rfl
  arrow_end := at_of X G c (x := "arrow_end") (by decide +kernel) (c.d.fact 36 rfl) (c.d.def_ 1 (d := dP "arrow_end" s_arrow_end) rfl) fun _ _ _ _ _ _ us hl => match us, hl with | [_, _], _ => rfl
  kind_end := at_of X G c (x := "kind_end") (by decide +kernel) (c.d.fact 37 rfl) (c.d.def_ 2 (d := dP "kind_end" s_kind_end) rfl) fun _ _ _ _ _ _ us hl => match us, hl with | [_, _], _ => rfl
  entry_end := at_of X G c (x := "entry_end") (by decide +kernel) (c.d.fact 38 rfl) (c.d.def_ 3 (d := dP "entry_end" s_entry_end) rfl) fun _ _ _ _ _ _ us hl => match us, hl with | [_, _], _ => rfl
  greatest_name := at_of X G c (x := "greatest_name") (by decide +kernel) (c.d.fact 39 rfl) (c.d.def_ 4 (d := dP "greatest_name" s_greatest_name) rfl) fun _ _ _ _ _ _ us hl => match us, hl with | [_], _ => rfl
  is_integer := at_of X G c (x := "is_integer") (by decide +kernel) (c.d.fact 40 rfl) (c.d.def_ 5 (d := dP "is_integer" s_is_integer) rfl) fun _ _ _ _ _ _ us hl => match us, hl with | [_], _ => rfl
  is_number := at_of X G c (x := "is_number") (by decide +kernel) (c.d.fact 41 rfl) (c.d.def_ 6 (d := dP "is_number" s_is_number) rfl) fun _ _ _ _ _ _ us hl => match us, hl with | [_], _ => rfl
  kind_read := atD_of X G c (x := "kind_read") (k := "line") (st := s_kind_read) (ps := ["text", "line"]) (n := 1) (d := .int 0) (by decide +kernel) (c.d.fact 42 rfl) (c.d.def_ 7 (d := dK "kind_read" s_kind_read [("line", .int 0)]) rfl) (by decide) fun D _ _ _ _ _ us ks h1 h2 => match us, h1, ks, h2 with | [_], _, [_], _ => ⟨_, _, _, _, _, _, rfl, rfl, rfl⟩
  entry_read := atD_of X G c (x := "entry_read") (k := "line") (st := s_entry_read) (ps := ["text", "line"]) (n := 1) (d := .int 0) (by decide +kernel) (c.d.fact 43 rfl) (c.d.def_ 8 (d := dK "entry_read" s_entry_read [("line", .int 0)]) rfl) (by decide) fun D _ _ _ _ _ us ks h1 h2 => match us, h1, ks, h2 with | [_], _, [_], _ => ⟨_, _, _, _, _, _, rfl, rfl, rfl⟩
  want_text := at_of X G c (x := "want_text") (by decide +kernel) (c.d.fact 44 rfl) (c.d.def_ 9 (d := dP "want_text" s_want_text) rfl) fun _ _ _ _ _ _ us hl => match us, hl with | [_], _ => rfl
  want_line := at_of X G c (x := "want_line") (by decide +kernel) (c.d.fact 45 rfl) (c.d.def_ 10 (d := dP "want_line" s_want_line) rfl) fun _ _ _ _ _ _ us hl => match us, hl with | [_], _ => rfl
  entry_after := at_of X G c (x := "entry_after") (by decide +kernel) (c.d.fact 46 rfl) (c.d.def_ 11 (d := dP "entry_after" s_entry_after) rfl) fun _ _ _ _ _ _ us hl => match us, hl with | [_, _, _], _ => rfl
  common_with := at_of X G c (x := "common_with") (by decide +kernel) (c.d.fact 47 rfl) (c.d.def_ 12 (d := dP "common_with" s_common_with) rfl) fun _ _ _ _ _ _ us hl => match us, hl with | [_, _], _ => rfl
  letters_ahead := at_of X G c (x := "letters_ahead") (by decide +kernel) (c.d.fact 48 rfl) (c.d.def_ 13 (d := dP "letters_ahead" s_letters_ahead) rfl) fun _ _ _ _ _ _ us hl => match us, hl with | [_], _ => rfl
  name_in := atK_of X G c (x := "name_in") (by decide +kernel) (c.d.fact 49 rfl) (c.d.def_ 14 (d := dP "name_in" s_name_in) rfl) (by decide) fun _ _ _ _ _ _ us ws h1 h2 => match us, h1, ws, h2 with | [_], _, [_, _], _ => rfl
  entry_in := atK_of X G c (x := "entry_in") (by decide +kernel) (c.d.fact 50 rfl) (c.d.def_ 15 (d := dP "entry_in" s_entry_in) rfl) (by decide) fun _ _ _ _ _ _ us ws h1 h2 => match us, h1, ws, h2 with | [_], _, [_, _], _ => rfl
  kind_in := atK_of X G c (x := "kind_in") (by decide +kernel) (c.d.fact 51 rfl) (c.d.def_ 16 (d := dP "kind_in" s_kind_in) rfl) (by decide) fun _ _ _ _ _ _ us ws h1 h2 => match us, h1, ws, h2 with | [_], _, [_, _], _ => rfl
  event_in := at_of X G c (x := "event_in") (by decide +kernel) (c.d.fact 52 rfl) (c.d.def_ 17 (d := dP "event_in" s_event_in) rfl) fun _ _ _ _ _ _ us hl => match us, hl with | [_, _], _ => rfl
  later_reach := at_of X G c (x := "later_reach") (by decide +kernel) (c.d.fact 53 rfl) (c.d.def_ 18 (d := dP "later_reach" s_later_reach) rfl) fun _ _ _ _ _ _ us hl => match us, hl with | [_, _], _ => rfl
  later_entry := atK_of X G c (x := "later_entry") (by decide +kernel) (c.d.fact 54 rfl) (c.d.def_ 19 (d := dP "later_entry" s_later_entry) rfl) (by decide) fun _ _ _ _ _ _ us ws h1 h2 => match us, h1, ws, h2 with | [_, _], _, [_], _ => rfl
  entries_in := atK_of X G c (x := "entries_in") (by decide +kernel) (c.d.fact 55 rfl) (c.d.def_ 20 (d := dP "entries_in" s_entries_in) rfl) (by decide) fun _ _ _ _ _ _ us ws h1 h2 => match us, h1, ws, h2 with | [_], _, [_], _ => rfl
  first_in := at_of X G c (x := "first_in") (by decide +kernel) (c.d.fact 56 rfl) (c.d.def_ 21 (d := dP "first_in" s_first_in) rfl) fun _ _ _ _ _ _ us hl => match us, hl with | [_], _ => rfl
  read_event := at_of X G c (x := "read_event") (by decide +kernel) (c.d.fact 57 rfl) (c.d.def_ 22 (d := dP "read_event" s_read_event) rfl) fun _ _ _ _ _ _ us hl => match us, hl with | [_], _ => rfl
  read_log := at_of X G c (x := "read_log") (by decide +kernel) (c.d.fact 58 rfl) (c.d.def_ 23 (d := dP "read_log" s_read_log) rfl) fun _ _ _ _ _ _ us hl => match us, hl with | [_], _ => rfl
  _law_feed := at_of X G c (x := "_law_feed") (by decide +kernel) (c.d.fact 59 rfl) (c.d.def_ 24 (d := dP "_law_feed" s__law_feed) rfl) fun _ _ _ _ _ _ us hl => match us, hl with | [_], _ => rfl
  _law_draw := at_of X G c (x := "_law_draw") (by decide +kernel) (c.d.fact 60 rfl) (c.d.def_ 25 (d := dP "_law_draw" s__law_draw) rfl) fun _ _ _ _ _ _ us hl => match us, hl with | [_, _], _ => rfl
  _law_pick := at_of X G c (x := "_law_pick") (by decide +kernel) (c.d.fact 61 rfl) (c.d.def_ 26 (d := dP "_law_pick" s__law_pick) rfl) fun _ _ _ _ _ _ us hl => match us, hl with | [_, _], _ => rfl
  _law_scenes := at_of X G c (x := "_law_scenes") (by decide +kernel) (c.d.fact 62 rfl) (c.d.def_ 27 (d := dP "_law_scenes" s__law_scenes) rfl) fun _ _ _ _ _ _ us hl => match us, hl with | [], _ => rfl
  _law_turned := at_of X G c (x := "_law_turned") (by decide +kernel) (c.d.fact 63 rfl) (c.d.def_ 28 (d := dP "_law_turned" s__law_turned) rfl) fun _ _ _ _ _ _ us hl => match us, hl with | [_, _], _ => rfl
  _law_book := at_of X G c (x := "_law_book") (by decide +kernel) (c.d.fact 64 rfl) (c.d.def_ 29 (d := dP "_law_book" s__law_book) rfl) fun _ _ _ _ _ _ us hl => match us, hl with | [_], _ => rfl
  _law_refusal := at_of X G c (x := "_law_refusal") (by decide +kernel) (c.d.fact 65 rfl) (c.d.def_ 30 (d := dP "_law_refusal" s__law_refusal) rfl) fun _ _ _ _ _ _ us hl => match us, hl with | [_], _ => rfl
  _law_said := at_of X G c (x := "_law_said") (by decide +kernel) (c.d.fact 66 rfl) (c.d.def_ 31 (d := dP "_law_said" s__law_said) rfl) fun _ _ _ _ _ _ us hl => match us, hl with | [_], _ => rfl
  _law_alike := at_of X G c (x := "_law_alike") (by decide +kernel) (c.d.fact 67 rfl) (c.d.def_ 32 (d := dP "_law_alike" s__law_alike) rfl) fun _ _ _ _ _ _ us hl => match us, hl with | [_, _], _ => rfl
  _law_is_sign := at_of X G c (x := "_law_is_sign") (by decide +kernel) (c.d.fact 68 rfl) (c.d.def_ 33 (d := dP "_law_is_sign" s__law_is_sign) rfl) fun _ _ _ _ _ _ us hl => match us, hl with | [_], _ => rfl
  _law_kind_scan := at_of X G c (x := "_law_kind_scan") (by decide +kernel) (c.d.fact 69 rfl) (c.d.def_ 34 (d := dP "_law_kind_scan" s__law_kind_scan) rfl) fun _ _ _ _ _ _ us hl => match us, hl with | [_, _], _ => rfl
  _law_entry_scan := at_of X G c (x := "_law_entry_scan") (by decide +kernel) (c.d.fact 70 rfl) (c.d.def_ 35 (d := dP "_law_entry_scan" s__law_entry_scan) rfl) fun _ _ _ _ _ _ us hl => match us, hl with | [_, _, _], _ => rfl
  _law_first_scan := at_of X G c (x := "_law_first_scan") (by decide +kernel) (c.d.fact 71 rfl) (c.d.def_ 36 (d := dP "_law_first_scan" s__law_first_scan) rfl) fun _ _ _ _ _ _ us hl => match us, hl with | [_], _ => rfl
  _law_line_fault := at_of X G c (x := "_law_line_fault") (by decide +kernel) (c.d.fact 72 rfl) (c.d.def_ 37 (d := dP "_law_line_fault" s__law_line_fault) rfl) fun _ _ _ _ _ _ us hl => match us, hl with | [_, _], _ => rfl
  _law_event_of := at_of X G c (x := "_law_event_of") (by decide +kernel) (c.d.fact 73 rfl) (c.d.def_ 38 (d := dP "_law_event_of" s__law_event_of) rfl) fun _ _ _ _ _ _ us hl => match us, hl with | [_], _ => rfl
  _law_first_of := at_of X G c (x := "_law_first_of") (by decide +kernel) (c.d.fact 74 rfl) (c.d.def_ 39 (d := dP "_law_first_of" s__law_first_of) rfl) fun _ _ _ _ _ _ us hl => match us, hl with | [_], _ => rfl
  _law_line := at_of X G c (x := "_law_line") (by decide +kernel) (c.d.fact 75 rfl) (c.d.def_ 40 (d := dP "_law_line" s__law_line) rfl) fun _ _ _ _ _ _ us hl => match us, hl with | [_], _ => rfl
  _law_entries := at_of X G c (x := "_law_entries") (by decide +kernel) (c.d.fact 76 rfl) (c.d.def_ 41 (d := dP "_law_entries" s__law_entries) rfl) fun _ _ _ _ _ _ us hl => match us, hl with | [_], _ => rfl
  _law_some_line := at_of X G c (x := "_law_some_line") (by decide +kernel) (c.d.fact 77 rfl) (c.d.def_ 42 (d := dP "_law_some_line" s__law_some_line) rfl) fun _ _ _ _ _ _ us hl => match us, hl with | [_, _, _], _ => rfl
  _law_spoilt := at_of X G c (x := "_law_spoilt") (by decide +kernel) (c.d.fact 78 rfl) (c.d.def_ 43 (d := dP "_law_spoilt" s__law_spoilt) rfl) fun _ _ _ _ _ _ us hl => match us, hl with | [_, _], _ => rfl
  _law_event_right := at_of X G c (x := "_law_event_right") (by decide +kernel) (c.d.fact 79 rfl) (c.d.def_ 44 (d := dP "_law_event_right" s__law_event_right) rfl) fun _ _ _ _ _ _ us hl => match us, hl with | [_], _ => rfl
  _law_log_right := at_of X G c (x := "_law_log_right") (by decide +kernel) (c.d.fact 80 rfl) (c.d.def_ 45 (d := dP "_law_log_right" s__law_log_right) rfl) fun _ _ _ _ _ _ us hl => match us, hl with | [_], _ => rfl
  _law_hands := at_of X G c (x := "_law_hands") (by decide +kernel) (c.d.fact 81 rfl) (c.d.def_ 46 (d := dP "_law_hands" s__law_hands) rfl) fun _ _ _ _ _ _ us hl => match us, hl with | [], _ => rfl
  _law_firsts := at_of X G c (x := "_law_firsts") (by decide +kernel) (c.d.fact 82 rfl) (c.d.def_ 47 (d := dP "_law_firsts" s__law_firsts) rfl) fun _ _ _ _ _ _ us hl => match us, hl with | [], _ => rfl
theorem code_of (c : HS h K) {x : Str} {st : Stmt} (hx : x ≠ "InvalidText.__init__") (F : ∃ fd, FunD K x x (defArgs st) (defBody st) (defScope st) [] [] (ga K x) fd) : (B_ K x).code = .ref (cT K (x, none)).1 := by
  unfold B_
  rw [A_g hx]
  obtain ⟨fd, F⟩ := F
  rw [fdAt_eq (FunD.lk F)]
  exact FunD.code (p := (x, none)) F
theorem lawAt {w : World} {fa : Addr} (X : K.In h) (G : h.Ns mainGlobals mg) (hm : mg "law" = some (.ref fa)) (c : HS h K) : LawAtG PySem.Challenge.rw_onlygiven_k74_lines_nobody_wrote w K 15 63 "script" mg fa h := by
  have T : Facts PySem.Challenge.pw_onlygiven_k74_lines_nobody_wrote K mg (A_ K) (B_ K) := facts_of X G c
  have e := hm.symm.trans (glo_ok X G (x := "law") (c.d.fact 83 rfl))
  cases e
  obtain ⟨fd, F⟩ := c.d.def_ 48 (d := dP "law" s_law) rfl
  have F : FunD K "law" "law" (defArgs s_law) (defBody s_law) (defScope s_law) [] [] (ga K "law") fd := F
  have hne : (cT K ("_law_event_right", none)).2 ≠ (cT K ("_law_log_right", none)).2 := of_decide_eq_true (exAt c 23 rfl)
  have hin : ∀ p ∈ [cT K ("_law_event_right", none), cT K ("_law_log_right", none)], ∃ q ∈ hTf, p = cT K q := fun p hp => by
    rcases List.mem_cons.mp hp with rfl | hp
    · exact ⟨_, List.mem_cons_self, rfl⟩
    · rcases List.mem_cons.mp hp with rfl | hp
      · exact ⟨_, List.mem_cons_of_mem _ List.mem_cons_self, rfl⟩
      · exact nomatch hp
  refine ⟨fd, [cT K ("_law_event_right", none), cT K ("_law_log_right", none)], spLaw K (Tt (cT K ("_law_event_right", none)).2 (cT K ("_law_log_right", none)).2), fun p hp => ?_, fun p hp => ?_, fun p hp => ?_, fun s u => ?_, fun H a ns hl hb ht hS => ?_, fun base KB GB TB => ?_⟩
  · obtain ⟨q, hq, rfl⟩ := hin p hp
    exact (c.tab q hq).2.2
  · obtain ⟨q, hq, rfl⟩ := hin p hp
    exact (c.tab q hq).2.1
  · obtain ⟨q, hq, rfl⟩ := hin p hp
    exact PySem.W.codeHd_of_K X (c.tab q hq).1
  · exact FunD.bindsA (ps := ["script"]) F (fun _ _ _ _ _ _ us hl => match us, hl with | [_], _ => rfl) s [u] rfl
  · refine ⟨a, ns, rfl, hS, fun p hp => ?_, fun _ => rfl⟩
    rcases List.mem_cons.mp hp with rfl | hp
    · exact LamX.TabS.nil (ht _ List.mem_cons_self)
    · rcases List.mem_cons.mp hp with rfl | hp
      · exact LamX.TabS.nil (ht _ (List.mem_cons_of_mem _ List.mem_cons_self))
      · exact nomatch hp
  · exact ok_law T (code_of c (x := "_law_event_right") (st := s__law_event_right) (by decide +kernel) (c.d.def_ 44 (d := dP "_law_event_right" s__law_event_right) rfl)) (code_of c (x := "_law_log_right") (st := s__law_log_right) (by decide +kernel) (c.d.def_ 45 (d := dP "_law_log_right" s__law_log_right) rfl))
      (TB _ List.mem_cons_self) (TB _ (List.mem_cons_of_mem _ List.mem_cons_self)) hne (FunD.fun_ F)
end
end Og
set_option Elab.async false
set_option linter.all false
set_option maxRecDepth 100000
set_option maxHeartbeats 0
namespace Og
open PySem PySem.Spec PyProof.Rows L2 He
def hLo0 : List Str := ["GivenError", "PaperError", "BookError", "BenchError", "TextError", "NotUsable", "InvalidEvent", "NothingToUndo", "Broken", "InvalidText", "InvalidRow", "LETTERS", "ARROW", "LAST_NAME_spellings", "name_end", "arrow_end", "kind_end", "entry_end", "greatest_name", "is_integer", "is_number", "kind_read", "entry_read", "want_text", "want_line", "entry_after", "EVENT_BEGINNINGS", "FIRST_BEGINNINGS", "SMALL", "LONGEST_NAME"]
def hLo1 : List Str := ["LAST_NAME_benchreadings", "common_with", "letters_ahead", "name_in", "entry_in", "kind_in", "event_in", "later_reach", "later_entry", "entries_in", "first_in", "read_event", "read_log", "_law_feed", "_law_draw", "_law_pick", "_law_scenes", "_law_turned", "_law_book", "_law_refusal", "_law_said", "_law_alike", "_law_is_sign", "_law_kind_scan", "_law_entry_scan", "_law_first_scan", "_law_line_fault", "_law_event_of", "_law_first_of", "_law_line"]
def hLo2 : List Str := ["_law_entries", "_law_some_line", "_law_spoilt", "_law_event_right", "_law_log_right", "_law_hands", "_law_firsts"]
abbrev hLo : List Str := hLo0 ++ (hLo1 ++ (hLo2))
abbrev hR : PySem.W.OpenRow := PySem.W.OpenLaw.row PySem.Challenge.rw_onlygiven_k74_lines_nobody_wrote
abbrev hHk : PySem.W.Hook := hookR 5 hFa hFn hTf hX hQ hV
def hOb (s : PySem.W.SharedT) : AlR FnI := obsR 5 hFa hFn hTf hX hQ (HandSHeadRun.getT s)
theorem hOb_eq (s : PySem.W.SharedT) : hOb s = hHk.obs s.abs := obsR_eq (HandSHeadRun.getT_eq s)
theorem hRun (w : World) : HandSHeadRun.RunEq hR (PySem.W.view hR.prog [73]) hHk hOb 20000 hLo w := by
  intro os
  kernel_rfl
end Og
set_option Elab.async false
set_option maxRecDepth 100000
open PySem PySem.W PySem.Calls PyProof.Rows
set_option maxHeartbeats 0 in
theorem PySem.Challenge.cw_onlygiven_k74_lines_nobody_wrote_holds : PySem.Challenge.rw_onlygiven_k74_lines_nobody_wrote.Holds := by
  w_on; o_law
  refine HandSHeadRun.head_any (r := OpenLaw.row PySem.Challenge.rw_onlygiven_k74_lines_nobody_wrote) (q := view (OpenLaw.row PySem.Challenge.rw_onlygiven_k74_lines_nobody_wrote).prog [73]) (H := Og.hHk) (ob := Og.hOb) (M := 20000) (loose := Og.hLo)
    (d := HandSHeadRun.topDef (OpenLaw.row PySem.Challenge.rw_onlygiven_k74_lines_nobody_wrote).prog 73) (kwd := []) Og.hOb_eq
    (by kernel_rfl) (fun s => by kernel_rfl) Og.hRun (by kernel_rfl) (by kernel_rfl) (by kernel_rfl) (by rfl) (by first | assumption | decide +kernel) (by decide +kernel) ⟨rfl, rfl, rfl, rfl, rfl, by decide +kernel⟩ ?hw ?hc
  case hw => w_witness2
  case hc =>
    refine Og.walk_ofG (l := PySem.Challenge.rw_onlygiven_k74_lines_nobody_wrote) (n := 63) (k := 15) (x := "script") rfl (by decide) (by kernel_rfl) ⟨rfl, by decide, by decide⟩ ?F
    intro w mg fa h Y G hmg0
    obtain ⟨K, KX, c⟩ := Y
    have hmg : mg ("law" : PySem.Str) = some (.ref fa) := by
      have e : (HandSHeadRun.topDef (OpenLaw.row PySem.Challenge.rw_onlygiven_k74_lines_nobody_wrote).prog 73).name = ("law" : PySem.Str) := by kernel_rfl
      rw [← e]
      exact hmg0
    exact ⟨K, KX, Og.lawAt KX G hmg c⟩
