import PyProof.Rows.All
import Wide.All
import OpenK.AllK
import Wide.FinOn
import HandS.ForMost
import HandS.ForExc
import HandS.EndBits
import HandS.RaiseMore
import HandS.IsInst
import HandS.Wide
import HandS.WideMore
import HandS.Style
import PySem.Challenge.RW_trailparts_k06_addresses_updated
set_option Elab.async false
set_option linter.all false
set_option maxRecDepth 100000
set_option maxHeartbeats 4000000
/-! # Calls that know that no repr is under way (guards empty) -/
namespace GR
open PySem PySem.Spec PyProof.Rows L2
/-- as FnOk, where nobody around is within a repr -/
structure FnG (P : Program) (w : World) (K : PySem.W.Frag) (mg : Str → Option Value) (bs : Heap) (CX : CXT)
    (k : Nat) (f : Addr) (fd : FuncData) (ps : List Str) (sp : Sp) : Prop where
  len : ∀ vs H Q E, sp vs H Q E → vs.length = ps.length
  run : ∀ (A : Around) (out : List Env) (s : Shared) (H : Hp) (ar : Args) (us : List Value) (vs : List V) (Q : VK) (E : XK),
    A.guards = some [] → Room k A → Env0 P w K mg bs A out s H → BindsTo s fd ar (ps.zip us) → Vals vs us → sp vs H Q E →
    codeAny (model P w) A (.call (.ref f) ar) (CR CX out P w H s Q E) s
section
variable {P : Program} {w : World} {K : PySem.W.Frag} {mg : Str → Option Value} {bs : Heap} {CX : CXT} {j k : Nat}
  {f : Addr} {fd : FuncData} {ps : List Str} {sp sp' : Sp}
theorem FnG.of (F : FnOk P w K mg bs CX k f fd ps sp) : FnG P w K mg bs CX k f fd ps sp :=
  ⟨F.len, fun A out s H ar us vs Q E _ => F.run A out s H ar us vs Q E⟩
theorem FnG.mono (F : FnG P w K mg bs CX j f fd ps sp) (h : j ≤ k) : FnG P w K mg bs CX k f fd ps sp :=
  ⟨F.len, fun A out s H ar us vs Q E g hr => F.run A out s H ar us vs Q E g (hr.mono h)⟩
/-- a def by its body -/
theorem fn_g {nm qual : Str} {params : Arguments} {body : List Stmt} {scope : Scope} {dV kV doc pm cdv ct oc : Value}
    {an od : Option Addr} {osl : Array (Option Value)} {N : List Str}
    (lk : K.lookup f = some ⟨oc, od, .func (PySem.W.fnOf nm qual params body scope dV kV doc pm an cdv ct), osl⟩)
    (hcd : PySem.W.codeIn K cdv qual = true) (S : FnScope N ps scope)
    (len : ∀ vs H Q E, sp vs H Q E → vs.length = ps.length)
    (hbody : ∀ (A : Around) (out : List Env) (s : Shared) (H : Hp) (vs : List V) (Q : VK) (E : XK), A.guards = some [] →
      Room k (A.deeper (envOfC qual scope s.heap.objs.size f cdv)) → sp vs H Q E →
      ∃ t, PSs (cxOf CX P w K mg bs N qual scope f cdv A out s H E) body t ∧
        t { nx := fun _ H' => Q .non H', rt := Q } (start N vs) H) :
    FnG P w K mg bs CX (k + 1) f (PySem.W.fnOf nm qual params body scope dV kV doc pm an cdv ct) ps sp := by
  refine ⟨len, fun A out s H ar us vs Q E hgd hr e0 hb r hsp => ?_⟩
  have hl := len _ _ _ _ hsp
  have KX : K.In s.heap := e0.mod.kin.keeps fun b o z => (e0.bs b o z).1
  have lim : s.heap.NoLimit := e0.mod.nolimit.keeps fun b o z => (e0.bs b o z).1
  have hkd : ∀ y ∈ ps.zip us, scope.names.lookup y.1 = some .local ∨
      (scope.names.lookup y.1 = some .cell ∧ ((cellsFrom (s.heap.objs.size + 1) scope.names []).lookup y.1).isSome = true) := fun ⟨n, v⟩ hy => by
    rcases S.par n (List.of_mem_zip hy).1 with z | z
    · exact .inl z
    · exact .inr ⟨z, PySem.W.cellsFrom_some _ _ _ (.inl z)⟩
  refine codeAny_call_function hr.depth (KX _ _ lk) rfl S.co S.gen rfl
    (PySem.W.codeRec_of KX hcd) (hb _ _ _ _ ?_)
  refine wpAny_newFunctionEnv_cells S.kind hkd fun ev hev s1 x => ?_
  subst hev
  refine ⟨lim.keeps x.toInCall.keep, codeAny_func ?_⟩
  obtain ⟨t, ht, hq⟩ := hbody A out s H vs Q E hgd (hr.deeper _) hsp
  have I : Inv (cxOf CX P w K mg bs N qual scope f cdv A out s H E) [] (start N vs) H s1 := inv_start S hr.hd e0 hl r x
  refine wpAny_mono (ht.run [] s1 (start N vs) H _ I hq) (fun fl s' hs => ?_) fun _ _ hs => hs
  have fin : ∀ {σ' : L2.St} {H' : Hp} {v : V} {u : Value},
      Inv (cxOf CX P w K mg bs N qual scope f cdv A out s H E) [] σ' H' s' → RelV v u → Q v H' → CE out P w H s Q u s' :=
    fun {σ' H' v u} J rv q => ⟨v, H', J.os, J.bare, J.base, J.hok, rv, q⟩
  cases fl with
  | ret u =>
    obtain ⟨v, _, _, J, rv, z⟩ := hs
    exact fin J rv z
  | next =>
    obtain ⟨_, _, J, z⟩ := hs
    exact fin (v := V.non) (u := Value.none) J rfl z
  | brk =>
    obtain ⟨_, _, _, z⟩ := hs
    exact z.elim
  | cont =>
    obtain ⟨_, _, _, z⟩ := hs
    exact z.elim
theorem okG {x qual : Str} {st : Stmt} {N : List Str} (F : Fun K x qual st f fd) (S : FnScope N ps (defScope st))
    (len : ∀ vs H Q E, sp vs H Q E → vs.length = ps.length)
    (hbody : ∀ (cdv : Value) (A : Around) (out : List Env) (s : Shared) (H : Hp) (vs : List V) (Q : VK) (E : XK), A.guards = some [] →
      Room k (A.deeper (envOfC qual (defScope st) s.heap.objs.size f cdv)) → sp vs H Q E →
      ∃ t, PSs (cxOf CX0 P w K mg bs N qual (defScope st) f cdv A out s H E).nox (defBody st) t ∧
        t { nx := fun _ H' => Q .non H', rt := Q } (start N vs) H) : FnG P w K mg bs CX0 (k + 1) f fd ps sp := by
  obtain ⟨oc, od, kV, doc, pm, an, cdv, ct, osl, rfl, lk, hcd⟩ := F.ex
  refine fn_g lk hcd S len fun A out s H vs Q E hg hr hsp => ?_
  obtain ⟨t, h, q⟩ := hbody cdv A out s H vs Q E hg hr hsp
  exact ⟨t, h.nox, q⟩
theorem okXG {x qual : Str} {st : Stmt} {N : List Str} (F : Fun K x qual st f fd) (S : FnScope N ps (defScope st))
    (len : ∀ vs H Q E, sp vs H Q E → vs.length = ps.length)
    (hbody : ∀ (cdv : Value) (A : Around) (out : List Env) (s : Shared) (H : Hp) (vs : List V) (Q : VK) (E : XK), A.guards = some [] →
      Room k (A.deeper (envOfC qual (defScope st) s.heap.objs.size f cdv)) → sp vs H Q E →
      ∃ t, PSs (cxOf (L2.CX P w) P w K mg bs N qual (defScope st) f cdv A out s H E) (defBody st) t ∧
        t { nx := fun _ H' => Q .non H', rt := Q } (start N vs) H) : FnG P w K mg bs (L2.CX P w) (k + 1) f fd ps sp := by
  obtain ⟨oc, od, kV, doc, pm, an, cdv, ct, osl, rfl, lk, hcd⟩ := F.ex
  exact fn_g lk hcd S len fun A out s H vs Q E hg hr hsp => hbody cdv A out s H vs Q E hg hr hsp
end
section
variable {X : Cx} {CX : CXT} {k : Nat} {f : Addr} {fd : FuncData} {ps : List Str} {sp : Sp} {dvs : List V} {ds : List Value}
  {E : XK} {x : Str} {p pos : Pos} {e : Expr} {es : List Expr} {t : TA}
theorem run_g {pins : List (Addr × Obj)} {σ : L2.St} {H : Hp} {s : Shared} {Q : VK} {us : List Value} {vs : List V}
    (F : FnG X.prog X.w X.K X.mg X.base CX k f fd ps sp) (gd : X.A.guards = some []) (hr : Room k X.A) (hb : Binds X.K fd ps ds)
    (hd : Vals dvs ds) (hx : Passes CX X E) (I : Inv X pins σ H s) (r : Vals vs us) (h : sp (vs ++ dvs) H Q E) :
    wpAny (model X.prog X.w) X.A (call (.ref f) us) (EP X pins σ Q) X.xe s := by
  have r2 : Vals (vs ++ dvs) (us ++ ds) := r.append hd
  have hl : (us ++ ds).length = ps.length := by rw [← r2.length]; exact F.len _ _ _ _ h
  refine wpAny_call (codeAny_mono (F.run X.A X.stack s H ⟨us, []⟩ (us ++ ds) (vs ++ dvs) Q E gd hr I.env0
    (hb s us I.kIn hl) r2 h) fun r s' hq => ?_)
  cases r with
  | error e => exact hx pins σ H s e s' I hq
  | ok fl =>
    cases fl with
    | ret u => exact I.after hq
    | next => exact hq.elim
    | brk => exact hq.elim
    | cont => exact hq.elim
/-- f(e, ..) -/
theorem pe_callG (F : FnG X.prog X.w X.K X.mg X.base CX k f fd ps sp) (gd : X.A.guards = some []) (hr : Room k X.A) (hg : Gl X x)
    (hm : X.mg x = some (.ref f)) (hk : PySem.W.keepIn X.K (.ref f) = true) (hb : Binds X.K fd ps ds) (hd : Vals dvs ds) (hx : Passes CX X E)
    (ha : PA X (e :: es) t) (hdb : (x == ("__debug__" : Str)) = false := by decide)
    (he : starEach (e :: es) X.env = (false, eval e X.env) :: starEach es X.env := by rfl)
    (hpl : (backTo pos (starEach es X.env)).any (·.1) = false := by rfl) :
    PE X (.Call (.Name x p) (e :: es) [] pos) (tCall sp dvs E t) := by
  refine ⟨fun pins s σ H Q I h => ?_⟩
  refine wpAny_Call_Name_kw (ld_glob I hg hm ?_ hdb)
  refine PySem.W.callWith_K (h₀ := X.base) I.ok.mod.kin hk (thn (ha.run pos pins s σ H _ I h)
    fun us s1 ⟨vs, H1, I1, r, q⟩ => ⟨I1.kIn, ?_⟩) he hpl
  exact run_g F gd hr hb hd hx I1 r q
end
/-! ## repr of data -/
section
variable {X : Cx}
mutual
theorem Dp_noDict {K : PySem.W.Frag} {H : Hp} : ∀ (d : PyData) (v : V), Dp K H v d → d.hasDict = false
  | .none, _, _ => rfl
  | .bool _, _, _ => rfl
  | .int _, _, _ => rfl
  | .str _, _, _ => rfl
  | .list ds, _, .lst _ h => by simpa only [PyData.hasDict] using DpAll_noDict ds _ h
  | .tuple ds, _, .tup _ h => by simpa only [PyData.hasDict] using DpAll_noDict ds _ h
  | .dict _, _, h => by cases h
theorem DpAll_noDict {K : PySem.W.Frag} {H : Hp} : ∀ (ds : List PyData) (vs : List V), DpAll K H vs ds → PyData.hasDictAll ds = false
  | [], _, _ => rfl
  | d :: ds, _, .cons h1 h2 => by rw [PyData.hasDictAll, Dp_noDict d _ h1, DpAll_noDict ds _ h2]; rfl
end
/-- repr(x), x data (Dp): its text -/
def rRepr (K : PySem.W.Frag) : List V → Hp → VK → Prop := fun xs H Q => ∃ x d, xs = [x] ∧ Dp K H x d ∧ d.showable = true ∧
  d.depth ≤ 20 ∧ d.shown.length ≤ sizeLine ∧ ∀ tx, tx = d.shown → Q (.str tx) H
theorem call_reprD {k : Nat} (hr : Room k X.A) (gd : X.A.guards = some []) : CallR X (.builtin "repr") (rRepr X.K) := by
  intro pins s σ H xs us Q I r h
  obtain ⟨x, d, rfl, hd, hs, hdp, hl, q0⟩ := h
  have q := q0 d.shown rfl
  cases r with
  | cons r1 r2 =>
    cases r2
    rename_i u
    cases hd with
    | non =>
      obtain rfl : u = Value.none := r1
      exact PySem.P.repr_of_none ⟨.str _, H, I.tok _, ⟨_, rfl⟩, q⟩
    | bl b =>
      obtain rfl : u = Value.bool b := r1
      exact PySem.P.repr_of_bool ⟨.str _, H, I.tok _, ⟨_, rfl⟩, q⟩
    | int i =>
      obtain ⟨t, rfl⟩ := r1
      exact PySem.P.repr_of_int (by simpa [PyData.showable] using hs) ⟨.str _, H, I.tok _, ⟨_, rfl⟩, q⟩
    | str z =>
      obtain ⟨t, rfl⟩ := r1
      exact PySem.P.repr_of_str ⟨.str _, H, I.tok _, ⟨_, rfl⟩, q⟩ hl
    | @lst a xs ds h1 h2 =>
      obtain ⟨as, rd⟩ := Dp.reads I _ _ _ (.lst h1 h2) r1
      cases (show u = Value.ref a from r1)
      have hu := hr.un
      refine repr_of_reads' rd hs (PyData.noDict_hsm ?_) gd (by omega) (fun _ _ z => z) (fun h' u tk hk => ?_) hl
      · exact Dp_noDict _ _ (.lst h1 h2)
      · exact ⟨.str _, H, I.kept hk, ⟨_, rfl⟩, q⟩
    | @tup a xs ds h1 h2 =>
      obtain ⟨as, rd⟩ := Dp.reads I _ _ _ (.tup h1 h2) r1
      cases (show u = Value.ref a from r1)
      have hu := hr.un
      refine repr_of_reads' rd hs (PyData.noDict_hsm ?_) gd (by omega) (fun _ _ z => z) (fun h' u tk hk => ?_) hl
      · exact Dp_noDict _ _ (.tup h1 h2)
      · exact ⟨.str _, H, I.kept hk, ⟨_, rfl⟩, q⟩
end
/-! ## the law's own call -/
theorem law_callG {P : Program} {w : World} {K : PySem.W.Frag} {mg mb : Str → Option Value} {CX : CXT} {k : Nat} {fa a : Addr}
    {fd : FuncData} {x : Str} {sp : Sp} {s1 : Shared} {vs : List Value} {ns : List Int} (KX : K.In s1.heap)
    (hns : s1.heap.Ns mainGlobals mg) (hb : s1.heap.Ns builtinsNs mb) (hbb : ∀ x : Str, x ≠ "__name__" → mb x = bootBuiltins x)
    (hlim : s1.heap.NoLimit) (hg : s1.gens = #[]) (ha : s1.heap.get? a = some { cls := .type "list", data := .seq vs.toArray })
    (hi : IntsAre vs ns) (hl : ns.length ≤ sizeLine) (hr : Room k callerA)
    (F : ∀ bs : Heap, K.In bs → bs.Ns mainGlobals mg → FnG P w K mg bs CX k fa fd [x] sp)
    (hbind : ∀ (s : Shared) (u : Value), BindsTo s fd ⟨[u], []⟩ [(x, u)])
    (hsp : ∀ H : Hp, Only H → SqL K H a (ns.map V.int) → sp [.ref a] H (fun v _ => v = .bl true) fun _ _ _ => False)
    (hCX : ∀ H e s', CX [] H s1 (fun _ _ _ => False) e s' → False) :
    codeAny (model P w) callerA (.call (.ref fa) ⟨[.ref a], []⟩)
      (fun r s' => r = .ok (.ret (.bool true)) ∧ OldK s1.heap s'.heap ∧ s'.os = s1.os ∧ AllBare s'.gens) s1 := by
  have rv := vals_ints hi
  have lenV := hi.length
  have core : ∀ H : Hp, Only H → SqL K H a (ns.map V.int) → HOk P w H s1.heap → (∀ b, H b ≠ none → b = a) →
      (H a ≠ none → K.lookup a = none) → codeAny (model P w) callerA (.call (.ref fa) ⟨[.ref a], []⟩)
      (fun r s' => r = .ok (.ret (.bool true)) ∧ OldK s1.heap s'.heap ∧ s'.os = s1.os ∧ AllBare s'.gens) s1 := by
    intro H hO hS hok hA hK
    have bof : ∀ {b : Addr} {o : Obj}, s1.heap.get? b = some o → H b = none → (hidT s1.heap H).get? b = some o := fun z n => hidT_get z n
    have noA : ∀ {b : Addr} {o : Obj} {es : Array DictEntry} {ep : Nat}, s1.heap.get? b = some o → o.data = .dict es ep → H b = none := by
      intro b o es ep z d
      cases q : H b with
      | none => rfl
      | some u =>
        have z' : b = a := hA b (by rw [q]; simp)
        subst z'
        rw [ha] at z; cases z
        have d' : Data.seq vs.toArray _ = Data.dict es ep := d
        cases d'
    have nsK : ∀ {b : Addr} {m : Str → Option Value}, s1.heap.Ns b m → (hidT s1.heap H).Ns b m :=
      fun {b m} ⟨o, es, ep, z, d, r⟩ => ⟨o, es, ep, bof z (noA z d), d, r⟩
    have hKb : K.In (hidT s1.heap H) := fun b o z => bof (KX b o z) (by
      cases q : H b with
      | none => rfl
      | some u =>
        have z' : b = a := hA b (by rw [q]; simp)
        subst z'
        rw [hK (by rw [q]; simp)] at z; cases z)
    have hM : Mod K mg (hidT s1.heap H) := ⟨hKb, nsK hns, ⟨mb, nsK hb, hbb⟩, let ⟨mc, y1, y2⟩ := hlim; ⟨mc, nsK y1, y2⟩⟩
    have e0 : Env0 P w K mg (hidT s1.heap H) callerA [] s1 H := ⟨rfl, hM, fun b o z => of_hidT z,
      Nat.le_of_eq (hidT_size _ _), trivial, fun b hb => absurd (show b ∈ ([] : List Addr) from hb) (by simp), hok, .of_eq hg⟩
    refine codeAny_mono ((F _ hKb (nsK hns)).run callerA [] s1 H ⟨[.ref a], []⟩ [.ref a] [.ref a] _ _ rfl hr e0
      (hbind s1 (.ref a)) (.cons rfl .nil) (hsp H hO hS)) fun r s' h => ?_
    cases r with
    | error e => exact (hCX H e s' h).elim
    | ok fl =>
      cases fl with
      | next => exact h.elim
      | brk => exact h.elim
      | cont => exact h.elim
      | ret u =>
        obtain ⟨v, H', os, bare, un, hok', r', q⟩ := h
        have q' : v = .bl true := q
        subst q'
        obtain rfl : u = Value.bool true := r'
        refine ⟨rfl, OldK.of_keep fun b o z => ?_, os, bare⟩
        cases q : H b with
        | none => exact un.keep b o z q (by intro y; exact absurd (show b ∈ ([] : List Addr) from y) (by simp)) (by simp)
        | some u =>
          rcases hO b with y | ⟨ob, xs, y⟩
          · rw [q] at y; cases y
          · have y2 := un.frzs b ob _ y
            obtain ⟨y3, _⟩ := hok b _ y
            obtain ⟨y4, _⟩ := hok' b _ y2
            rw [z] at y3; cases y3
            exact y4
  cases hk : K.lookup a with
  | some o =>
    have z := KX a o hk
    rw [ha] at z
    cases z
    refine core (fun _ => none) (fun _ => .inl rfl) (.inr ⟨_, vs.toArray, _, hk, rfl, rfl, rfl, by rw [List.size_toArray, lenV]; exact hl,
      by simpa using rv⟩) (fun b u z => by have z' : (none : Option HO) = some u := z; cases z') (fun b z => absurd rfl z) fun z => absurd rfl z
  | none =>
    refine core (fun b => if b = a then some (.frz { cls := .type "list", data := .seq vs.toArray } (.lst (ns.map V.int))) else none)
      (fun b => ?_) (.inl (.inr ⟨{ cls := .type "list", data := .seq vs.toArray }, if_pos rfl⟩)) (fun b u z => ?_) (fun b z => ?_) fun _ => hk
    · by_cases hb : b = a
      · exact .inr ⟨_, _, if_pos hb⟩
      · exact .inl (if_neg hb)
    · by_cases hb : b = a
      · have z' := (if_pos hb).symm.trans z
        cases z'
        subst hb
        exact ⟨ha, by rw [List.length_map]; exact hl, vs, _, rv, ha⟩
      · have z' := (if_neg hb).symm.trans z
        cases z'
    · by_cases hb : b = a
      · exact hb
      · exact absurd (if_neg hb) z
/-- the goal that the head leaves, from the law's promise; the script's bits are told -/
theorem walk_g {l : PySem.W.OpenLaw} {n k : Nat} {q : Program} {loose : List Str} {XP : (Str → Option Value) → Heap → Prop}
    {YP : World → Heap → Prop} {d : DefRec} {K : Params → PySem.W.Frag} {sp : PySem.W.Frag → Sp} {x : Str}
    (hn : l.most = some n) (hn2 : n ≤ sizeLine) (hdf : d.params.defaults = []) (hr : Room k callerA)
    (hY : ∀ (w : World) (h : Heap), YP w h → (K w.params).In h)
    (F : ∀ (w : World) (mg : Str → Option Value) (fa : Addr) (h : Heap), (K w.params).In h → h.Ns mainGlobals mg → mg d.name = some (.ref fa) →
      ∃ fd : FuncData, (∀ (s : Shared) (u : Value), BindsTo s fd ⟨[u], []⟩ [(x, u)]) ∧
        ∀ bs : Heap, (K w.params).In bs → bs.Ns mainGlobals mg → FnG l.prog w (K w.params) mg bs CX0 k fa fd [x] (sp (K w.params)))
    (hsp : ∀ (K : PySem.W.Frag) (H : Hp) (a : Addr) (ns : List Int), ns.length ≤ n → (∀ z ∈ ns, Builtin.Int.intBits z ≤ 1048576) →
      Only H → SqL K H a (ns.map V.int) → sp K [.ref a] H (fun v _ => v = .bl true) fun _ _ _ => False) :
    PySem.W.WalkO q loose XP YP l.row.toRowW d [] (fun f vs => PySem.call f vs) := by
  refine Att.attach_callB hn hdf fun w s0 s1 mg mb fa o pm cd doc a vs ns G Y ho hd hcd hmg hobj hints hlen hbits hg => ?_
  have KX := hY w _ Y
  obtain ⟨fd, hb, hF⟩ := F w mg fa _ KX G.T.g hmg
  exact law_callG KX G.T.g G.T.b G.T.builtins G.T.nolimit hg hobj hints (Nat.le_trans hlen hn2) hr hF hb
    (fun H hO hS => hsp (K w.params) H a ns hlen hbits hO hS) fun H e s' z => z
end GR

namespace GR
open PySem PySem.Spec L2
/-! ## data stays when nothing tracked changes -/
theorem SqL_same {K : PySem.W.Frag} {H H' : Hp} {a : Addr} {xs : List V} (e : Same H H') (h : SqL K H a xs) : SqL K H' a xs := e.seq h
theorem SqT_same {K : PySem.W.Frag} {H H' : Hp} {a : Addr} {xs : List V} (e : Same H H') (h : SqT K H a xs) : SqT K H' a xs := by
  rcases h with (h | ⟨o, h⟩) | h
  · exact .inl (.inl (e _ _ h))
  · exact .inl (.inr ⟨o, e _ _ h⟩)
  · exact .inr h
mutual
theorem Dp_same {K : PySem.W.Frag} {H H' : Hp} (e : Same H H') : ∀ (d : PyData) (v : V), Dp K H v d → Dp K H' v d
  | _, _, .non => .non
  | _, _, .bl b => .bl b
  | _, _, .int i => .int i
  | _, _, .str x => .str x
  | .list ds, _, .lst h1 h2 => .lst (SqL_same e h1) (DpAll_same e ds _ h2)
  | .tuple ds, _, .tup h1 h2 => .tup (SqT_same e h1) (DpAll_same e ds _ h2)
theorem DpAll_same {K : PySem.W.Frag} {H H' : Hp} (e : Same H H') : ∀ (ds : List PyData) (vs : List V), DpAll K H vs ds → DpAll K H' vs ds
  | [], _, .nil => .nil
  | d :: ds, _, .cons h1 h2 => .cons (Dp_same e d _ h1) (DpAll_same e ds _ h2)
end
theorem same_upd {H : Hp} {p : Addr} {o : HO} (h : H p = none) : Same H (upd H p o) := fun b x e => by
  rw [upd_ne (ne_of_none e h)]
  exact e
/-- the class of data -/
def tyName : PyData → String
  | .none => "NoneType"
  | .bool _ => "bool"
  | .int _ => "int"
  | .str _ => "str"
  | .list _ => "list"
  | .tuple _ => "tuple"
  | .dict _ => "dict"
theorem SqT_ty {K : PySem.W.Frag} {H : Hp} {a : Addr} {xs : List V} (h : SqT K H a xs) : TyX K H (.ref a) (.type "tuple") := by
  rcases h with (h | ⟨o, h⟩) | ⟨o, its, n, h1, h2, _⟩
  · exact .base (.tup h)
  · exact .fTuple h
  · exact .kTuple h1 h2
theorem SqL_ty {K : PySem.W.Frag} {H : Hp} {a : Addr} {xs : List V} (h : SqL K H a xs) : TyX K H (.ref a) (.type "list") := by
  rcases h with (h | ⟨o, h⟩) | ⟨o, its, n, h1, h2, _⟩
  · exact .base (.lst h)
  · exact .base (.frz h)
  · exact .kList h1 h2
theorem Dp_ty {K : PySem.W.Frag} {H : Hp} : ∀ {d : PyData} {v : V}, Dp K H v d → TyX K H v (.type (tyName d))
  | _, _, .non => .base .non
  | _, _, .bl b => .base (.bl b)
  | _, _, .int i => .base (.int i)
  | _, _, .str x => .base (.str x)
  | _, _, .lst h _ => SqL_ty h
  | _, _, .tup h _ => SqT_ty h
/-! ## how long a repr is -/
mutual
def cost : PyData → Nat
  | .none => 4
  | .bool _ => 5
  | .int _ => 1921
  | .str x => (reprText x).length
  | .list xs => costAll xs + 4
  | .tuple xs => costAll xs + 4
  | .dict _ => 0
def costAll : List PyData → Nat
  | [] => 0
  | x :: xs => cost x + 2 + costAll xs
end
theorem textFrom_cost : ∀ (ts : List Str) (k : Nat) (acc : Str), (textFrom k acc ts).length ≤ acc.length + (ts.map (·.length + 2)).sum
  | [], k, acc => by show acc.length ≤ acc.length + 0; omega
  | t :: r, k, acc => by
    have ih := textFrom_cost r (k + 1) (acc ++ (if k > 0 then ", " else "" : String) ++ t)
    have e : (acc ++ (if k > 0 then ", " else "" : String) ++ t).length = acc.length + (if k > 0 then 2 else 0) + t.length := by
      rw [strLen_append, strLen_append]
      split <;> rfl
    rw [e] at ih
    show (textFrom (k + 1) (acc ++ (if k > 0 then ", " else "" : String) ++ t) r).length ≤ _
    rw [List.map_cons, List.sum_cons]
    have z : (if k > 0 then 2 else 0) ≤ 2 := by split <;> omega
    omega
theorem join_cost : ∀ ts : List Str, (Str.join ", " ts).length ≤ (ts.map (·.length + 2)).sum
  | [] => Nat.zero_le _
  | [x] => by show x.length ≤ _; simp
  | x :: y :: r => by
    have ih := join_cost (y :: r)
    show (x ++ ", " ++ Str.join ", " (y :: r)).length ≤ _
    have e2 : ((", " : String) : Str).length = 2 := rfl
    rw [strLen_append, strLen_append, e2, List.map_cons, List.sum_cons]
    omega
theorem tup_cost (ts : List Str) : (tupleText ts).length ≤ (ts.map (·.length + 2)).sum + 4 := by
  unfold tupleText
  have h := join_cost ts
  rw [strLen_append, strLen_append]
  have e1 : (("(" : String) : Str).length = 1 := rfl
  rw [e1]
  have e2 : ∀ b : Bool, ((if b = true then ",)" else ")" : String) : Str).length ≤ 2 := by
    intro b
    cases b
    · show (1 : Nat) ≤ 2; decide
    · show (2 : Nat) ≤ 2; decide
  have := e2 (ts.length == 1)
  omega
theorem lst_cost (ts : List Str) : (listText ts).length ≤ (ts.map (·.length + 2)).sum + 4 := by
  unfold listText
  have h := textFrom_cost ts 0 "["
  rw [strLen_append]
  have e1 : (("[" : String) : Str).length = 1 := rfl
  have e2 : (("]" : String) : Str).length = 1 := rfl
  rw [e1] at h
  rw [e2]
  omega
mutual
theorem shown_cost : ∀ d : PyData, d.showable = true → d.hasDict = false → d.shown.length ≤ cost d
  | .none, _, _ => by
    show (4 : Nat) ≤ cost .none
    rw [cost]
    exact Nat.le_refl _
  | .bool b, _, _ => by
    rw [cost]
    cases b
    · show (5 : Nat) ≤ 5; decide
    · show (4 : Nat) ≤ 5; decide
  | .int i, h, _ => by
    have h' : i.natAbs.log2 < 1920 := by simpa [PyData.showable] using h
    simpa only [cost, PyData.shown] using PyProof.Rows.int_text_len_1921 h'
  | .str x, _, _ => by simp only [cost, PyData.shown]; exact Nat.le_refl _
  | .list xs, h, h2 => by
    have a := shownAll_cost xs (by simpa only [PyData.showable] using h) (by simpa only [PyData.hasDict] using h2)
    have b := lst_cost (PyData.shownAll xs)
    simp only [cost, PyData.shown]
    omega
  | .tuple xs, h, h2 => by
    have a := shownAll_cost xs (by simpa only [PyData.showable] using h) (by simpa only [PyData.hasDict] using h2)
    have b := tup_cost (PyData.shownAll xs)
    simp only [cost, PyData.shown]
    omega
  | .dict _, _, h => by simp [PyData.hasDict] at h
theorem shownAll_cost : ∀ xs : List PyData, PyData.showableAll xs = true → PyData.hasDictAll xs = false → ((PyData.shownAll xs).map (·.length + 2)).sum ≤ costAll xs
  | [], _, _ => by simp [PyData.shownAll, costAll]
  | x :: xs, h, h2 => by
    have h' : x.showable = true ∧ PyData.showableAll xs = true := by simpa [PyData.showableAll] using h
    have h2' : x.hasDict = false ∧ PyData.hasDictAll xs = false := by simpa [PyData.hasDictAll] using h2
    have a := shown_cost x h'.1 h2'.1
    have b := shownAll_cost xs h'.2 h2'.2
    simp only [PyData.shownAll, costAll, List.map_cons, List.sum_cons]
    omega
end
/-- what repr's rule asks of the length -/
theorem repr_len {K : PySem.W.Frag} {H : Hp} {x : V} {d : PyData} (h : Dp K H x d) (hs : d.showable = true) (hc : cost d ≤ 1000000) : d.shown.length ≤ sizeLine :=
  Nat.le_trans (shown_cost d hs (Dp_noDict d x h)) (Nat.le_trans hc (by decide))
/-! ## a bag of draws: [digits left, number mixed] -/
structure BagV (x m : Int) : Prop where
  x0 : 0 ≤ x
  xb : x.natAbs < 2 ^ 1048576
  m0 : 0 ≤ m
  mb : m < 2147483648
/-- a bag stands at b -/
def Bag (H : Hp) (b : Addr) : Prop := ∃ x m : Int, H b = some (.lst [.int x, .int m]) ∧ BagV x m
/-- all but b is as it was -/
def But (b : Addr) (H H' : Hp) : Prop := ∀ c, c ≠ b → H' c = H c
theorem But.refl (b : Addr) (H : Hp) : But b H H := fun _ _ => rfl
theorem But.trans {b : Addr} {H H1 H2 : Hp} (x : But b H H1) (y : But b H1 H2) : But b H H2 := fun c hc => (y c hc).trans (x c hc)
theorem But.upd {b : Addr} {H : Hp} {o : HO} : But b H (upd H b o) := fun c hc => upd_ne hc
theorem bits_lt {z : Int} {n : Nat} (h : Builtin.Int.intBits z ≤ n) : z.natAbs < 2 ^ n := by
  unfold Builtin.Int.intBits at h
  by_cases e : z = 0
  · subst e
    exact Nat.pow_pos (by decide)
  · rw [if_neg (by simpa using e)] at h
    exact Nat.lt_of_lt_of_le Nat.lt_log2_self (Nat.pow_le_pow_right (by decide) h)
end GR
namespace GR
open PySem PySem.Spec L2
/-! ## for i, x in enumerate(xs) -/
theorem for_enum {K : PySem.W.Frag} {a : Addr} {xs : List V} {g : TG} {tb : TS} {D : Ends} {σ : L2.St} {H : Hp} (Pv : Nat → L2.St → Hp → Prop) (h0 : Pv 0 σ H)
    (hl : ∀ i σ H, i ≤ xs.length → Pv i σ H → SqL K H a xs)
    (hs : ∀ i x σ H T, xs[i]? = some x → Pv i σ H → H T = none →
      g (.ref T) σ (upd H T (.tup [.int (i : Nat), x])) fun σ2 H2 => tb { D with nx := Pv (i + 1), ct := Pv (i + 1), bk := D.nx } σ2 H2)
    (hd : ∀ σ H, Pv xs.length σ H → D.nx σ H) :
    ∃ W : Nat → Nat → L2.St → Hp → Prop, (∃ m, W 0 m σ H) ∧ ∀ i m σ H, W i m σ H →
      ((Ite K a).stop i H ∧ D.nx σ H) ∨ ((Ite K a).go i H ∧ ∃ N : L2.St → Hp → Prop, (∀ σ' H', N σ' H' → ∃ m', m' < m ∧ W (i + 1) m' σ' H') ∧
        ∀ x H', (Ite K a).yld i H x H' → g x σ H' fun σ2 H2 => tb { D with nx := N, ct := N, bk := D.nx } σ2 H2) := by
  refine ⟨fun i m σ H => m = xs.length - i ∧ i ≤ xs.length ∧ Pv i σ H, ⟨xs.length, by simp, Nat.zero_le _, h0⟩, ?_⟩
  rintro i m σ H ⟨rfl, hi, p⟩
  have q := hl i σ H hi p
  by_cases hlt : i < xs.length
  · refine .inr ⟨⟨xs, xs[i], q, by simp [hlt]⟩, Pv (i + 1), fun σ' H' p' => ⟨xs.length - (i + 1), by omega, rfl, hlt, p'⟩, fun x H' y => ?_⟩
    obtain ⟨T, z, e1, e2, e3, e4⟩ := y
    subst e1 e3
    exact hs i z σ H T (e4 xs q) p e2
  · have e : i = xs.length := by omega
    subst e
    exact .inl ⟨⟨xs, q, Nat.le_refl _⟩, hd σ H p⟩
theorem pow_and (k : Nat) : Builtin.bitAnd ((2 : Int) ^ k) ((2 : Int) ^ k - 1) = 0 := by
  have h : (0 : Int) ≤ 2 ^ k := Int.le_of_lt (Int.pow_pos (by decide))
  rw [Bits.bitAnd_mask k h]
  exact Int.emod_self
end GR
namespace GR
open PySem PySem.Spec L2
/-! ## cuts: the ways of an expression, a test or a statement meet in one property -/
section
variable {X : Cx} {e : Expr} {t : TE} {tt : TT} {st : Stmt} {ts : TS}
def tCut (t : TE) : TE := fun σ H Q => ∃ Pv : VK, t σ H Pv ∧ ∀ v H', Pv v H' → Q v H'
theorem pe_cut (h : PE X e t) : PE X e (tCut t) := ⟨fun pins s σ H Q I ⟨Pv, hw, hq⟩ =>
  thn (h.run pins s σ H Pv I hw) fun _ _ ⟨v, H', I', r, p⟩ => ⟨v, H', I', r, hq v H' p⟩⟩
def tCutT (t : TT) : TT := fun σ H Q => ∃ Pv : Bool → Hp → Prop, t σ H Pv ∧ ∀ v H', Pv v H' → Q v H'
theorem pt_cut (h : PT X e tt) : PT X e (tCutT tt) := ⟨fun pins s σ H Q I ⟨Pv, hw, hq⟩ =>
  thn (h.run pins s σ H Pv I hw) fun b _ ⟨H', I', p⟩ => ⟨H', I', hq b H' p⟩⟩
def tCutS (t : TS) : TS := fun D σ H => ∃ Pn : L2.St → Hp → Prop, t { D with nx := Pn } σ H ∧ ∀ σ' H', Pn σ' H' → D.nx σ' H'
theorem ps_cut (h : PS X st ts) : PS X st (tCutS ts) := ⟨fun pins s σ H D I ⟨Pn, hw, hq⟩ =>
  thn (h.run pins s σ H { D with nx := Pn } I hw) fun f _ z => by
    cases f with
    | next =>
      obtain ⟨σ', H', I', p⟩ := z
      exact ⟨σ', H', I', hq σ' H' p⟩
    | brk => exact z
    | cont => exact z
    | ret u => exact z⟩
end
end GR
namespace GR
open PySem PySem.Spec L2
/-- what was tracked stays, but at b -/
def SameX (b : Addr) (H H' : Hp) : Prop := ∀ c o, c ≠ b → H c = some o → H' c = some o
theorem SameX.refl (b : Addr) (H : Hp) : SameX b H H := fun _ _ _ h => h
theorem SameX.trans {b : Addr} {H H1 H2 : Hp} (x : SameX b H H1) (y : SameX b H1 H2) : SameX b H H2 := fun c o hc h => y c o hc (x c o hc h)
theorem But.x {b : Addr} {H H' : Hp} (h : But b H H') : SameX b H H' := fun c o hc e => (h c hc).trans e
theorem SameX.of {b : Addr} {H H' : Hp} (h : Same H H') : SameX b H H' := fun c o _ e => h c o e
theorem SameX.new {b : Addr} {H : Hp} {p : Addr} {o : HO} (h : H p = none) : SameX b H (upd H p o) := .of (same_upd h)
/-- b was no tracked thing -/
theorem SameX.same {b : Addr} {H H1 H2 : Hp} (x : Same H H1) (n : H b = none) (y : SameX b H1 H2) : Same H H2 := fun c o h => y c o (ne_of_none h n) (x c o h)
theorem SqT_x {K : PySem.W.Frag} {b : Addr} {H H' : Hp} {a : Addr} {xs : List V} (e : SameX b H H') (hb : ∃ l, H b = some (.lst l)) (h : SqT K H a xs) : SqT K H' a xs := by
  obtain ⟨l, hb⟩ := hb
  rcases h with (h | ⟨o, h⟩) | h
  · exact .inl (.inl (e _ _ (ne_of h hb (fun z => nomatch z)) h))
  · exact .inl (.inr ⟨o, e _ _ (ne_of h hb (fun z => nomatch z)) h⟩)
  · exact .inr h
/-- a list that is frozen or of the module stays -/
theorem Bag.ex {H : Hp} {b : Addr} (h : Bag H b) : ∃ l, H b = some (.lst l) := by
  obtain ⟨x, m, e, _⟩ := h
  exact ⟨_, e⟩
end GR

namespace K06
open PySem PySem.Spec L2
def top (i : Nat) : Stmt := PySem.Challenge.pw_trailparts_k06_addresses_updated.main.body.getD i (.Pass ⟨0, 0, 0, 0⟩)
abbrev sIsWhole : Stmt := top 4
theorem scIsWhole : FnScope ["thing"] ["thing"] (defScope sIsWhole) :=
  ⟨rfl, rfl, rfl, by decide +kernel, rfl, by decide +kernel, by decide +kernel⟩
abbrev sIsPower : Stmt := top 5
theorem scIsPower : FnScope ["number"] ["number"] (defScope sIsPower) :=
  ⟨rfl, rfl, rfl, by decide +kernel, rfl, by decide +kernel, by decide +kernel⟩
abbrev sIsPart : Stmt := top 6
theorem scIsPart : FnScope ["thing", "top", "bottom", "number"] ["thing"] (defScope sIsPart) :=
  ⟨rfl, rfl, rfl, by decide +kernel, rfl, by decide +kernel, by decide +kernel⟩
abbrev sLookPart : Stmt := top 7
theorem scLookPart : FnScope ["thing"] ["thing"] (defScope sLookPart) :=
  ⟨rfl, rfl, rfl, by decide +kernel, rfl, by decide +kernel, by decide +kernel⟩
abbrev sLowest : Stmt := top 8
theorem scLowest : FnScope ["top", "bottom"] ["top", "bottom"] (defScope sLowest) :=
  ⟨rfl, rfl, rfl, by decide +kernel, rfl, by decide +kernel, by decide +kernel⟩
abbrev sPlus : Stmt := top 9
theorem scPlus : FnScope ["one", "other", "bottom", "top"] ["one", "other"] (defScope sPlus) :=
  ⟨rfl, rfl, rfl, by decide +kernel, rfl, by decide +kernel, by decide +kernel⟩
abbrev sUpdated : Stmt := top 11
theorem scUpdated : FnScope ["old", "new", "house", "number", "age", "part"] ["old", "new"] (defScope sUpdated) :=
  ⟨rfl, rfl, rfl, by decide +kernel, rfl, by decide +kernel, by decide +kernel⟩
abbrev sLawBag : Stmt := top 13
theorem scLawBag : FnScope ["_law_script", "_law_at", "_law_cell", "_law_mixed", "_law_spot", "_law_other"] ["_law_script", "_law_at"] (defScope sLawBag) :=
  ⟨rfl, rfl, rfl, by decide +kernel, rfl, by decide +kernel, by decide +kernel⟩
abbrev sLawTake : Stmt := top 14
theorem scLawTake : FnScope ["_law_bag_here", "_law_many", "_law_digit"] ["_law_bag_here", "_law_many"] (defScope sLawTake) :=
  ⟨rfl, rfl, rfl, by decide +kernel, rfl, by decide +kernel, by decide +kernel⟩
abbrev sLawPart : Stmt := top 15
theorem scLawPart : FnScope ["_law_bag_here", "_law_most", "_law_bottom", "_law_top"] ["_law_bag_here", "_law_most"] (defScope sLawPart) :=
  ⟨rfl, rfl, rfl, by decide +kernel, rfl, by decide +kernel, by decide +kernel⟩
abbrev sLawPlus : Stmt := top 16
theorem scLawPlus : FnScope ["_law_one", "_law_other", "_law_bottom", "_law_top"] ["_law_one", "_law_other"] (defScope sLawPlus) :=
  ⟨rfl, rfl, rfl, by decide +kernel, rfl, by decide +kernel, by decide +kernel⟩
abbrev sLawHalf : Stmt := top 17
theorem scLawHalf : FnScope ["_law_part_here"] ["_law_part_here"] (defScope sLawHalf) :=
  ⟨rfl, rfl, rfl, by decide +kernel, rfl, by decide +kernel, by decide +kernel⟩
abbrev sLawPair : Stmt := top 18
theorem scLawPair : FnScope ["_law_bag_here", "_law_house", "_law_number", "_law_age", "_law_part_here", "_law_other", "_law_slot", "_law_later", "_law_both"] ["_law_bag_here"] (defScope sLawPair) :=
  ⟨rfl, rfl, rfl, by decide +kernel, rfl, by decide +kernel, by decide +kernel⟩
abbrev sLaw : Stmt := top 19
theorem scLaw : FnScope ["_law_script", "_law_k", "_law_bag_here", "_law_turn", "_law_old", "_law_new", "_law_due", "_law_again"] ["_law_script"] (defScope sLaw) :=
  ⟨rfl, rfl, rfl, by decide +kernel, rfl, by decide +kernel, by decide +kernel⟩
/-- what the top has written -/
structure Txt (K : PySem.W.Frag) (mg : Str → Option Value) where
  fIsWhole : Addr
  dIsWhole : FuncData
  FIsWhole : Fun K "is_whole" "is_whole" sIsWhole fIsWhole dIsWhole
  gIsWhole : mg "is_whole" = some (.ref fIsWhole)
  bIsWhole : Binds K dIsWhole ["thing"] []
  fIsPower : Addr
  dIsPower : FuncData
  FIsPower : Fun K "is_power" "is_power" sIsPower fIsPower dIsPower
  gIsPower : mg "is_power" = some (.ref fIsPower)
  bIsPower : Binds K dIsPower ["number"] []
  fIsPart : Addr
  dIsPart : FuncData
  FIsPart : Fun K "is_part" "is_part" sIsPart fIsPart dIsPart
  gIsPart : mg "is_part" = some (.ref fIsPart)
  bIsPart : Binds K dIsPart ["thing"] []
  fLookPart : Addr
  dLookPart : FuncData
  FLookPart : Fun K "look_part" "look_part" sLookPart fLookPart dLookPart
  gLookPart : mg "look_part" = some (.ref fLookPart)
  bLookPart : Binds K dLookPart ["thing"] []
  fLowest : Addr
  dLowest : FuncData
  FLowest : Fun K "lowest" "lowest" sLowest fLowest dLowest
  gLowest : mg "lowest" = some (.ref fLowest)
  bLowest : Binds K dLowest ["top", "bottom"] []
  fPlus : Addr
  dPlus : FuncData
  FPlus : Fun K "plus" "plus" sPlus fPlus dPlus
  gPlus : mg "plus" = some (.ref fPlus)
  bPlus : Binds K dPlus ["one", "other"] []
  fUpdated : Addr
  dUpdated : FuncData
  FUpdated : Fun K "updated" "updated" sUpdated fUpdated dUpdated
  gUpdated : mg "updated" = some (.ref fUpdated)
  bUpdated : Binds K dUpdated ["old", "new"] []
  fLawBag : Addr
  dLawBag : FuncData
  FLawBag : Fun K "_law_bag" "_law_bag" sLawBag fLawBag dLawBag
  gLawBag : mg "_law_bag" = some (.ref fLawBag)
  bLawBag : Binds K dLawBag ["_law_script", "_law_at"] []
  fLawTake : Addr
  dLawTake : FuncData
  FLawTake : Fun K "_law_take" "_law_take" sLawTake fLawTake dLawTake
  gLawTake : mg "_law_take" = some (.ref fLawTake)
  bLawTake : Binds K dLawTake ["_law_bag_here", "_law_many"] []
  fLawPart : Addr
  dLawPart : FuncData
  FLawPart : Fun K "_law_part" "_law_part" sLawPart fLawPart dLawPart
  gLawPart : mg "_law_part" = some (.ref fLawPart)
  bLawPart : Binds K dLawPart ["_law_bag_here", "_law_most"] []
  fLawPlus : Addr
  dLawPlus : FuncData
  FLawPlus : Fun K "_law_plus" "_law_plus" sLawPlus fLawPlus dLawPlus
  gLawPlus : mg "_law_plus" = some (.ref fLawPlus)
  bLawPlus : Binds K dLawPlus ["_law_one", "_law_other"] []
  fLawHalf : Addr
  dLawHalf : FuncData
  FLawHalf : Fun K "_law_half" "_law_half" sLawHalf fLawHalf dLawHalf
  gLawHalf : mg "_law_half" = some (.ref fLawHalf)
  bLawHalf : Binds K dLawHalf ["_law_part_here"] []
  fLawPair : Addr
  dLawPair : FuncData
  FLawPair : Fun K "_law_pair" "_law_pair" sLawPair fLawPair dLawPair
  gLawPair : mg "_law_pair" = some (.ref fLawPair)
  bLawPair : Binds K dLawPair ["_law_bag_here"] []
  fLaw : Addr
  dLaw : FuncData
  FLaw : Fun K "law" "law" sLaw fLaw dLaw
  gLaw : mg "law" = some (.ref fLaw)
  bLaw : Binds K dLaw ["_law_script"] []
  n_isinstance : mg "isinstance" = none
  n_int : mg "int" = none
  n_bool : mg "bool" = none
  n_tuple : mg "tuple" = none
  n_len : mg "len" = none
  n_all : mg "all" = none
  n_max : mg "max" = none
  n_enumerate : mg "enumerate" = none
  n_abs : mg "abs" = none
  n_range : mg "range" = none
  n_min : mg "min" = none
  n_repr : mg "repr" = none

/-! ## promises -/
def isIntD : PyData → Bool
  | .int _ => true
  | _ => false
/-- number > 0 and number & number - 1 == 0 -/
def isPow (n : Int) : Bool := if decide (0 < n) = true then decide (V.int (Builtin.bitAnd n (n - 1)) = V.int 0) else false
def partOk (t b : Int) : Bool := isPow b && (decide (0 ≤ t) && decide (t ≤ b) && (decide (b = 1) || decide (t % 2 = 1)))
def isPartD : PyData → Bool
  | .tuple [.int t, .int b] => partOk t b
  | _ => false
def spIsWhole (K : PySem.W.Frag) : Sp := fun vs H Q _ => ∃ x d, vs = [x] ∧ Dp K H x d ∧ Q (.bl (isIntD d)) H
def spIsPower : Sp := fun vs H Q _ => ∃ n : Int, vs = [.int n] ∧ Q (.bl (isPow n)) H
def spIsPart (K : PySem.W.Frag) : Sp := fun vs H Q _ => ∃ x, vs = [x] ∧
  ((∃ d, Dp K H x d ∧ ∀ H', Same H H' → Q (.bl (isPartD d)) H') ∨ (∃ ty, TyX K H x (.type ty) ∧ kitB ty "tuple" = some false ∧ Q (.bl false) H))
theorem allInt_two (t : PyData) : ∀ ds : List PyData, ds.length = 2 → ds.all isIntD = true → ∃ x y, ds = [.int x, .int y]
  | [.int x, .int y], _, _ => ⟨x, y, rfl⟩
  | [.none, _], _, h => by simp [isIntD] at h
  | [.bool _, _], _, h => by simp [isIntD] at h
  | [.str _, _], _, h => by simp [isIntD] at h
  | [.list _, _], _, h => by simp [isIntD] at h
  | [.tuple _, _], _, h => by simp [isIntD] at h
  | [.dict _, _], _, h => by simp [isIntD] at h
  | [.int _, .none], _, h => by simp [isIntD] at h
  | [.int _, .bool _], _, h => by simp [isIntD] at h
  | [.int _, .str _], _, h => by simp [isIntD] at h
  | [.int _, .list _], _, h => by simp [isIntD] at h
  | [.int _, .tuple _], _, h => by simp [isIntD] at h
  | [.int _, .dict _], _, h => by simp [isIntD] at h
theorem isPart_not {ds : List PyData} (h : ¬ (ds.length = 2 ∧ ds.all isIntD = true)) : isPartD (.tuple ds) = false := by
  unfold isPartD
  split
  · rename_i t b e
    cases e
    exact absurd ⟨rfl, rfl⟩ h
  · rfl
theorem DpAll_len {K : PySem.W.Frag} {H : Hp} : ∀ {vs : List V} {ds : List PyData}, DpAll K H vs ds → vs.length = ds.length
  | _, _, .nil => rfl
  | _, _, .cons _ h => by rw [List.length_cons, List.length_cons, DpAll_len h]
theorem DpAll_get {K : PySem.W.Frag} {H : Hp} : ∀ {vs : List V} {ds : List PyData} {i : Nat} {v : V}, DpAll K H vs ds → vs[i]? = some v → ∃ d, ds[i]? = some d ∧ Dp K H v d
  | _, _, _, _, .nil, e => by simp at e
  | _, _, 0, _, .cons h _, e => by
    cases e
    exact ⟨_, rfl, h⟩
  | _, _, i + 1, v, .cons _ h, e => DpAll_get (i := i) h e
theorem dp_two {K : PySem.W.Frag} {H : Hp} {x : V} {t b : Int} (h : Dp K H x (.tuple [.int t, .int b])) : ∃ a, x = .ref a ∧ SqT K H a [.int t, .int b] := by
  cases h with
  | tup h1 h2 =>
    cases h2 with
    | cons d1 h2 =>
      cases h2 with
      | cons d2 h2 =>
        cases h2
        cases d1
        cases d2
        exact ⟨_, rfl, h1⟩
theorem dp_of2 {K : PySem.W.Frag} {H : Hp} {a : Addr} {t b : Int} (h : SqT K H a [.int t, .int b]) : Dp K H (.ref a) (.tuple [.int t, .int b]) :=
  .tup h (.cons (.int t) (.cons (.int b) .nil))

def addrD (h n a t b : Int) : PyData := .tuple [.int h, .int n, .int a, .tuple [.int t, .int b]]
theorem dp_addr {K : PySem.W.Frag} {H : Hp} {x : V} {h n a t b : Int} (d : Dp K H x (addrD h n a t b)) :
    ∃ p y, x = .ref p ∧ SqT K H p [.int h, .int n, .int a, y] ∧ Dp K H y (.tuple [.int t, .int b]) := by
  cases d with
  | tup h1 h2 =>
    cases h2 with
    | cons d1 h2 =>
      cases h2 with
      | cons d2 h2 =>
        cases h2 with
        | cons d3 h2 =>
          cases h2 with
          | cons d4 h2 =>
            cases h2
            cases d1
            cases d2
            cases d3
            exact ⟨_, _, rfl, h1, d4⟩
theorem dp_ofA {K : PySem.W.Frag} {H : Hp} {p : Addr} {y : V} {h n a t b : Int} (s : SqT K H p [.int h, .int n, .int a, y]) (d : Dp K H y (.tuple [.int t, .int b])) :
    Dp K H (.ref p) (addrD h n a t b) := .tup s (.cons (.int h) (.cons (.int n) (.cons (.int a) (.cons d .nil))))

/-- a drawn part that is not nothing -/
structure Drawn (t b : Int) (most : Nat) : Prop where
  pw : ∃ j : Nat, j ≤ most ∧ b = 2 ^ j
  t1 : 1 ≤ t
  tb : t ≤ b
  odd : b = 1 ∨ t % 2 = 1
theorem pow_isPow (j : Nat) : isPow (2 ^ j) = true := by
  unfold isPow
  have h : (0 : Int) < 2 ^ j := Int.pow_pos (by decide)
  rw [if_pos (decide_eq_true h), GR.pow_and j]
  rfl
theorem Drawn.ok {t b : Int} {m : Nat} (h : Drawn t b m) : partOk t b = true := by
  obtain ⟨⟨j, _, rfl⟩, t1, tb, odd⟩ := h
  unfold partOk
  rw [pow_isPow, decide_eq_true (show (0 : Int) ≤ t by omega), decide_eq_true tb]
  rcases odd with e | e
  · rw [decide_eq_true e]
    rfl
  · rw [decide_eq_true e]
    simp
theorem Drawn.no {t b : Int} {m : Nat} (h : Drawn t b m) : ¬ (t = 0 ∧ b = 1) := fun z => by
  have := h.t1
  omega
def spPart (K : PySem.W.Frag) : Sp := fun vs H Q _ => ∃ (b : Addr) (most : Nat), vs = [.ref b, .int (most : Int)] ∧ GR.Bag H b ∧ most ≤ 1000 ∧
  ∀ H' y t bt, GR.SameX b H H' → GR.Bag H' b → Drawn t bt most → Dp K H' y (.tuple [.int t, .int bt]) → Q y H'
theorem pow_lt_big {j m : Nat} (h : j ≤ m) (hm : m ≤ 1000) : ((2 : Int) ^ j).natAbs < 2 ^ 8000 := by
  rw [Int.natAbs_pow]
  exact Nat.pow_lt_pow_right (by decide) (by omega)
theorem half_pow {j : Nat} (h : (1 : Int) < 2 ^ j) : ∃ i, j = i + 1 ∧ (2 : Int) ^ j / 2 = 2 ^ i := by
  cases j with
  | zero => simp at h
  | succ i =>
    refine ⟨i, rfl, ?_⟩
    rw [Int.pow_succ, Int.mul_ediv_cancel _ (by decide)]
theorem pow_shl (j : Nat) : (1 : Int) * 2 ^ ((j : Int)).toNat = 2 ^ j := by
  rw [Int.toNat_natCast, Int.one_mul]

/-! ## lowest terms -/
/-- t over 2 ^ j in lowest terms -/
def low : Int → Nat → Int × Int
  | t, 0 => (t, 1)
  | t, j + 1 => if t % 2 = 0 then low (t / 2) j else (t, 2 ^ (j + 1))
theorem low_even {t : Int} {j : Nat} (h : t % 2 = 0) : low t (j + 1) = low (t / 2) j := if_pos h
theorem low_odd {t : Int} {j : Nat} (h : t % 2 = 1) : low t j = (t, 2 ^ j) := by
  cases j with
  | zero => rfl
  | succ j => exact if_neg (by omega)
theorem low_one (t : Int) : low t 0 = (t, 1) := rfl
theorem low_abs : ∀ (j : Nat) (t : Int), (low t j).1.natAbs ≤ t.natAbs
  | 0, _ => Nat.le_refl _
  | j + 1, t => by
    by_cases h : t % 2 = 0
    · rw [low_even h]
      exact Nat.le_trans (low_abs j (t / 2)) (by omega)
    · rw [low_odd (by omega)]
      exact Nat.le_refl _
theorem low_pow : ∀ (j : Nat) (t : Int), ∃ k, k ≤ j ∧ (low t j).2 = 2 ^ k
  | 0, _ => ⟨0, Nat.le_refl _, rfl⟩
  | j + 1, t => by
    by_cases h : t % 2 = 0
    · rw [low_even h]
      obtain ⟨k, hk, e⟩ := low_pow j (t / 2)
      exact ⟨k, by omega, e⟩
    · rw [low_odd (by omega)]
      exact ⟨j + 1, Nat.le_refl _, rfl⟩
/-- the greater bottom, as max tells it -/
def sumB (b c : Int) : Int := if c > b then c else b
/-- the sum's top over it -/
def sumT (t b u c : Int) : Int := t * (sumB b c / b) + u * (sumB b c / c)
theorem sumB_pow (i j : Nat) : sumB (2 ^ i) (2 ^ j) = 2 ^ (max i j) := by
  unfold sumB
  have m : ∀ x y : Nat, x ≤ y → (2 : Int) ^ x ≤ 2 ^ y := fun x y h => by
    have := Nat.pow_le_pow_right (show 0 < 2 by decide) h
    have e1 : ((2 : Int) ^ x) = ((2 ^ x : Nat) : Int) := by simp
    have e2 : ((2 : Int) ^ y) = ((2 ^ y : Nat) : Int) := by simp
    rw [e1, e2]
    omega
  by_cases h : i ≤ j
  · rw [Nat.max_eq_right h]
    by_cases h2 : (2 : Int) ^ j > 2 ^ i
    · rw [if_pos h2]
    · rw [if_neg h2]
      have := m i j h
      omega
  · have h3 := m j i (by omega)
    rw [Nat.max_eq_left (by omega), if_neg (by omega)]
theorem pow_div {i m : Nat} (h : i ≤ m) : (2 : Int) ^ m / 2 ^ i = 2 ^ (m - i) := by
  obtain ⟨d, rfl⟩ := Nat.exists_eq_add_of_le h
  rw [Int.pow_add, Int.mul_ediv_cancel_left _ (Int.ne_of_gt (Int.pow_pos (by decide))), Nat.add_sub_cancel_left]
theorem abs_pow (k : Nat) : ((2 : Int) ^ k).natAbs = 2 ^ k := by
  rw [Int.natAbs_pow]
  rfl
section
variable {P : Program} {w : World} {K : PySem.W.Frag} {mg : Str → Option Value} {bs : Heap} (T : Txt K mg)

theorem okIsWhole : FnOk P w K mg bs CX0 1 T.fIsWhole T.dIsWhole ["thing"] (spIsWhole K) := by
  refine T.FIsWhole.ok scIsWhole (fun vs H Q E h => ?_) (fun cdv A outer s H vs Q E hr h => ?_)
  · obtain ⟨x, d, rfl, _⟩ := h
    rfl
  · obtain ⟨x, d, rfl, hd, q⟩ := h
    refine ⟨_, (pss_one (ps_ret (pe_and (pe_callB call_isi (by rfl) T.n_isinstance (by decide +kernel) (pa_cons (pv 0) (pa_cons (pe_bltn (v := .ty "int") (by rfl) T.n_int (by decide +kernel) rfl) pa_nil))) (pe_one (pe_not (pe_callB call_isi (by rfl) T.n_isinstance (by decide +kernel) (pa_cons (pv 0) (pa_cons (pe_bltn (v := .ty "bool") (by rfl) T.n_bool (by decide +kernel) rfl) pa_nil)))))))), ?_⟩
    have ty := GR.Dp_ty hd
    have h1 : ∃ b, kitB (GR.tyName d) "int" = some b ∧ ∃ c, kitB (GR.tyName d) "bool" = some c ∧ (if b = true then !c else false) = isIntD d := by
      cases d
      · exact ⟨false, (show kitB "NoneType" "int" = some false by decide +kernel), false, (show kitB "NoneType" "bool" = some false by decide +kernel), rfl⟩
      · exact ⟨true, (show kitB "bool" "int" = some true by decide +kernel), true, (show kitB "bool" "bool" = some true by decide +kernel), rfl⟩
      · exact ⟨true, (show kitB "int" "int" = some true by decide +kernel), false, (show kitB "int" "bool" = some false by decide +kernel), rfl⟩
      · exact ⟨false, (show kitB "str" "int" = some false by decide +kernel), false, (show kitB "str" "bool" = some false by decide +kernel), rfl⟩
      · exact ⟨false, (show kitB "list" "int" = some false by decide +kernel), false, (show kitB "list" "bool" = some false by decide +kernel), rfl⟩
      · exact ⟨false, (show kitB "tuple" "int" = some false by decide +kernel), false, (show kitB "tuple" "bool" = some false by decide +kernel), rfl⟩
      · exact ⟨false, (show kitB "dict" "int" = some false by decide +kernel), false, (show kitB "dict" "bool" = some false by decide +kernel), rfl⟩
    obtain ⟨b, hb, c, hc, e⟩ := h1
    refine ⟨_, rfl, x, .ty "int", _, _, b, rfl, .ty "int", ty, kit_ty hb, b, rfl, ?_⟩
    cases b with
    | false =>
      refine iteF ?_
      rw [← e] at q
      exact q
    | true =>
      refine iteT ?_
      refine ⟨_, rfl, x, .ty "bool", _, _, c, rfl, .ty "bool", ty, kit_ty hc, c, rfl, ?_⟩
      rw [← e] at q
      exact q

theorem okIsPower : FnOk P w K mg bs CX0 1 T.fIsPower T.dIsPower ["number"] spIsPower := by
  refine T.FIsPower.ok scIsPower (fun vs H Q E h => ?_) (fun cdv A outer s H vs Q E hr h => ?_)
  · obtain ⟨n, rfl, _⟩ := h
    rfl
  · obtain ⟨n, rfl, q⟩ := h
    refine ⟨_, (pss_one (ps_ret (pe_and (pe_cmpR op_gt (pv 0) pe_int (nomark _)) (pe_one (pe_cmpR op_eq (pe_op op_and (pv 0) (pe_op op_sub (pv 0) pe_int)) pe_int (nomark _)))))), ?_⟩
    refine ⟨_, rfl, _, _, rfl, rfl, _, rfl, ?_⟩
    unfold isPow at q
    refine ite2 (fun e => ?_) (fun e => ?_)
    · rw [if_pos e] at q
      exact ⟨_, rfl, _, rfl, _, _, rfl, rfl, _, _, rfl, rfl, rfl, q⟩
    · rw [if_neg e] at q
      exact q

theorem okIsPart : FnOk P w K mg bs CX0 2 T.fIsPart T.dIsPart ["thing"] (spIsPart K) := by
  have GIsWhole : FnOk P w K mg bs CX0 1 T.fIsWhole T.dIsWhole ["thing"] (spIsWhole K) := okIsWhole T
  have GIsPower : FnOk P w K mg bs CX0 1 T.fIsPower T.dIsPower ["number"] spIsPower := okIsPower T
  refine T.FIsPart.ok scIsPart (fun vs H Q E h => ?_) (fun cdv A outer s H vs Q E hr h => ?_)
  · obtain ⟨x, rfl, _⟩ := h
    rfl
  · obtain ⟨x, rfl, h⟩ := h
    refine ⟨_, (pss_cons (ps_if (PW.pt (pw_or (pt_not (pt_val (pe_callB call_isi (by rfl) T.n_isinstance (by decide +kernel) (pa_cons (pv 0) (pa_cons (pe_bltn (v := .ty "tuple") (by rfl) T.n_tuple (by decide +kernel) rfl) pa_nil))))) (pw_or (pt_cmpR op_ne (pe_callB call_len_seq (by rfl) T.n_len PySem.boot_len (pa_cons (pv 0) pa_nil)) pe_int (nomark _)) (pw_or1 (pt_not (pt_val (pe_callB (cr_all rfl) (by rfl) T.n_all (by decide +kernel) (pa_cons (pe_lc (own := [("number", 3)]) (g := gName 3) (tt := tYes) (by rfl) scIsPart.nd (pi_tup (pv 0)) (blkOk_by (own := [("number", 3)]) (N := ["thing", "top", "bottom", "number"]) (sc := defScope sIsPart) (by decide +kernel)) (fun _ _ _ _ _ => (pg_name (i := 3) scIsPart.nd rfl (Or.inl rfl))) (fun _ _ _ _ _ => pts_nil) (fun _ _ _ _ _ => (pe_call GIsWhole (hr.mono (by decide)) (by rfl) T.gIsWhole T.FIsWhole.kp T.bIsWhole .nil pass0 (pa_cons (pv 3) pa_nil)))) pa_nil)))))))) (pss_one (ps_ret pe_bl)) pss_nil)
      (pss_cons (ps_asg (pv 0) (pg_tup (by rfl) (pgs_cons (pg_name (i := 1) scIsPart.nd rfl (Or.inl rfl)) (pgs_cons (pg_name (i := 2) scIsPart.nd rfl (Or.inl rfl)) pgs_nil))))
      (pss_one (ps_ret (pe_and (pe_call GIsPower (hr.mono (by decide)) (by rfl) T.gIsPower T.FIsPower.kp T.bIsPower .nil pass0 (pa_cons (pv 2) pa_nil)) (pe_and (pe_chain op_le op_le pe_int (pv 1) (pv 2)) (pe_one (pe_or (pe_cmpR op_eq (pv 2) pe_int (nomark _)) (pe_one (pe_cmpR op_eq (pe_op op_mod (pv 1) pe_int) pe_int (nomark _))))))))))), ?_⟩
    have two : (∃ ty, TyX K H x (.type ty) ∧ kitB ty "tuple" = some false ∧ Q (.bl false) H) ∨
        (∃ a xs ds, x = .ref a ∧ SqT K H a xs ∧ DpAll K H xs ds ∧ ∀ H', Same H H' → Q (.bl (isPartD (.tuple ds))) H') := by
      rcases h with ⟨d, hd, q⟩ | z
      · cases hd with
        | tup h1 h2 => exact .inr ⟨_, _, _, rfl, h1, h2, q⟩
        | non => exact .inl ⟨"NoneType", .base .non, by decide +kernel, q H (Same.refl H)⟩
        | bl b => exact .inl ⟨"bool", .base (.bl b), by decide +kernel, q H (Same.refl H)⟩
        | int i => exact .inl ⟨"int", .base (.int i), by decide +kernel, q H (Same.refl H)⟩
        | str z => exact .inl ⟨"str", .base (.str z), by decide +kernel, q H (Same.refl H)⟩
        | lst h1 h2 => exact .inl ⟨"list", GR.SqL_ty h1, by decide +kernel, q H (Same.refl H)⟩
      · exact .inl z
    rcases two with ⟨ty, h1, h2, q⟩ | ⟨a, xs, ds, rfl, h1, h2, q⟩
    · exact ⟨_, rfl, x, .ty "tuple", _, _, false, rfl, .ty "tuple", h1, kit_ty h2, _, rfl, iteT (iteT q)⟩
    · skip
      refine ⟨_, rfl, .ref a, .ty "tuple", _, _, true, rfl, .ty "tuple", GR.SqT_ty h1, kit_ty (by decide +kernel), _, rfl, iteF ?_⟩
      have el := DpAll_len h2
      refine ⟨_, rfl, a, xs, rfl, .inr h1, rfl, _, rfl, ?_⟩
      by_cases e2 : xs.length = 2
      · rw [show (!decide (V.int ((xs.length : Nat) : Int) = V.int 2)) = false by rw [e2]; rfl]
        refine iteF ?_
        -- all([is_whole(number) for number in thing])
        refine ⟨_, rfl, a, rfl, ⟨_, h1⟩, fun D hD => ?_⟩
        refine lc_tup (K := K) (a := a) (xs := xs) (fun i H' => (∀ b, b ≠ D → H' b = H b) ∧ H' D = some (.lst ((ds.take i).map fun d => V.bl (isIntD d)))) ⟨fun b hb => upd_ne hb, upd_same⟩ (fun i H' _ hP => GR.SqT_same (fun b o z => by rw [hP.1 b (ne_of_none z hD)]; exact z) h1) (fun i v H' hv hP => ?_) (fun H' hP => ?_)
        · obtain ⟨d, hd, hdv⟩ := DpAll_get h2 hv
          have sm : Same H H' := fun b o z => by rw [hP.1 b (ne_of_none z hD)]; exact z
          refine ⟨rfl, _, rfl, v, d, rfl, GR.Dp_same sm d v hdv, _, hP.2, ?_, fun b hb => by rw [upd_ne hb]; exact hP.1 b hb, ?_⟩
          · rw [List.length_map, List.length_take]
            exact Nat.lt_of_le_of_lt (Nat.min_le_left _ _) (small1000 (by have := (List.getElem?_eq_some_iff.mp hv).1; omega))
          · rw [upd_same, List.take_add_one, hd, List.map_append]
            rfl
        · have sm : Same H H' := fun b o z => by rw [hP.1 b (ne_of_none z hD)]; exact z
          have eD : H' D = some (.lst ((ds.map isIntD).map V.bl)) := by
            rw [hP.2, el, List.take_length, List.map_map]
            rfl
          refine ⟨D, ds.map isIntD, rfl, SqL.of eD, _, rfl, ?_⟩
          have ea : (ds.map isIntD).all id = ds.all isIntD := by rw [List.all_map]; rfl
          by_cases e3 : ds.all isIntD = true
          · rw [ea, e3]
            refine iteF ?_
            obtain ⟨t, b, rfl⟩ := allInt_two .none ds (by omega) e3
            cases h2 with
            | cons d1 h2 =>
              cases h2 with
              | cons d2 h2 =>
                cases h2
                cases d1
                cases d2
                -- top, bottom = thing
                refine ⟨_, rfl, a, _, rfl, GR.SqT_same sm h1, rfl, _, _, rfl, _, _, rfl, rfl, ?_⟩
                have q' : Q (.bl (partOk t b)) H' := q H' sm
                unfold partOk at q'
                refine ⟨_, rfl, b, rfl, _, rfl, ?_⟩
                cases e4 : isPow b with
                | false =>
                  rw [e4] at q'
                  exact iteF q'
                | true =>
                  rw [e4, Bool.true_and] at q'
                  refine iteT ⟨_, rfl, _, _, rfl, rfl, _, rfl, ?_⟩
                  cases e5 : decide ((0 : Int) ≤ t) with
                  | false =>
                    rw [e5, Bool.false_and, Bool.false_and] at q'
                    exact iteF ⟨_, rfl, iteF q'⟩
                  | true =>
                    rw [e5, Bool.true_and] at q'
                    refine iteT ⟨_, rfl, _, _, rfl, rfl, _, rfl, ?_⟩
                    cases e6 : decide (t ≤ b) with
                    | false =>
                      rw [e6, Bool.false_and] at q'
                      exact iteF q'
                    | true =>
                      rw [e6, Bool.true_and] at q'
                      refine iteT ⟨_, rfl, rfl, _, rfl, ?_⟩
                      by_cases e7 : b = 1
                      · subst e7
                        exact iteT q'
                      · rw [show decide (V.int b = V.int 1) = false from decide_eq_false fun z => e7 (V.int.inj z)]
                        refine iteF ⟨_, rfl, _, _, rfl, rfl, (by show (0 : Int) < 2; decide), rfl, ?_⟩
                        rw [decide_eq_false e7, Bool.false_or] at q'
                        have e8 : decide (V.int (t % 2) = V.int 1) = decide (t % 2 = 1) := by
                          by_cases z : t % 2 = 1
                          · rw [decide_eq_true z, decide_eq_true (congrArg V.int z)]
                          · rw [decide_eq_false z, decide_eq_false fun y => z (V.int.inj y)]
                        rw [e8]
                        exact q'
          · have e3' : ds.all isIntD = false := by simpa using e3
            rw [ea, e3']
            refine iteT ?_
            have q' := q H' sm
            rw [isPart_not (fun z => e3 z.2)] at q'
            exact q'
      · rw [show (!decide (V.int ((xs.length : Nat) : Int) = V.int 2)) = true by
          rw [decide_eq_false]
          · rfl
          · intro z
            have := V.int.inj z
            omega]
        refine iteT (iteT ?_)
        have q' := q H (Same.refl H)
        rw [isPart_not (fun z => e2 (by omega))] at q'
        exact q'

def spTake : Sp := fun vs H Q _ => ∃ (b : Addr) (many : Int), vs = [.ref b, .int many] ∧ GR.Bag H b ∧ 0 < many ∧ many.natAbs < 2 ^ 8000 ∧
  ∀ r H', 0 ≤ r → r < many → GR.Bag H' b → GR.But b H H' → Q (.int r) H'
theorem okLawTake : FnOk P w K mg bs CX0 1 T.fLawTake T.dLawTake ["_law_bag_here", "_law_many"] spTake := by
  refine T.FLawTake.ok scLawTake (fun vs H Q E h => ?_) (fun cdv A outer s H vs Q E hr h => ?_)
  · obtain ⟨b, many, rfl, _⟩ := h
    rfl
  · obtain ⟨b, many, rfl, ⟨x, m, hb, V⟩, h0, h8, q⟩ := h
    refine ⟨_, (pss_cons (ps_if (pt_cmpR op_gt (pe_ix ix_list (pv 0) pe_int (fun _ _ => rfl)) pe_int (nomark _)) (pss_cons (ps_set (i := 2) scLawTake.nd rfl (Or.inl rfl) (pe_op op_mod (pe_ix ix_list (pv 0) pe_int (fun _ _ => rfl)) (pv 1)))
      (pss_cons (ps_asg (pe_op op_fdivW (pe_ix ix_list (pv 0) pe_int (fun _ _ => rfl)) (pv 1)) (pg_sub (pv 0) pe_int set_list))
      (pss_one (ps_ret (pv 2))))) pss_nil)
      (pss_cons (ps_asg (pe_op op_mod (pe_op op_add (pe_op op_mul (pe_ix ix_list (pv 0) pe_int (fun _ _ => rfl)) pe_int) pe_int) pe_int) (pg_sub (pv 0) pe_int set_list))
      (pss_one (ps_ret (pe_op op_mod (pe_op op_fdivW (pe_op op_mod (pe_op op_mul (pe_op op_fdivW (pe_ix ix_list (pv 0) pe_int (fun _ _ => rfl)) pe_int) pe_int) pe_int) pe_int) (pv 1)))))), ?_⟩
    refine ⟨_, rfl, b, _, _, _, rfl, rfl, SqL.of hb, atI_nat (j := 0) rfl, _, _, rfl, rfl, _, rfl, ?_⟩
    refine ite2 (fun e => ?_) (fun e => ?_)
    · have e' : 0 < x := of_decide_eq_true e
      refine ⟨_, rfl, b, _, _, _, rfl, rfl, SqL.of hb, atI_nat (j := 0) rfl, _, rfl, _, _, rfl, rfl, h0, ?_⟩
      refine ⟨_, rfl, b, _, _, _, rfl, rfl, SqL.of hb, atI_nat (j := 0) rfl, _, rfl, _, _, rfl, rfl, wide_div h0 h8 (by decide) (by decide), ?_⟩
      refine ⟨_, rfl, b, _, _, 0, rfl, rfl, hb, rfl, ?_⟩
      refine ⟨_, rfl, q _ _ (Int.emod_nonneg _ (by omega)) (Int.emod_lt_of_pos _ h0) ⟨x / many, m, upd_same, ?_, ?_, V.m0, V.mb⟩ GR.But.upd⟩
      · exact Int.ediv_nonneg V.x0 (by omega)
      · exact Nat.lt_of_le_of_lt (by
          have z : x / many ≤ x := Int.ediv_le_self many V.x0
          have z2 : 0 ≤ x / many := Int.ediv_nonneg V.x0 (by omega)
          omega) V.xb
    · refine ⟨_, rfl, b, _, _, _, rfl, rfl, SqL.of hb, atI_nat (j := 1) rfl, _, _, rfl, rfl, .inr ⟨by decide, by decide⟩, _, _, rfl, rfl, _, _, rfl, rfl, (by show (0 : Int) < 2147483399; decide), ?_⟩
      refine ⟨_, rfl, b, _, _, 1, rfl, rfl, hb, rfl, ?_⟩
      refine ⟨_, rfl, b, _, _, _, rfl, rfl, SqL.of upd_same, atI_nat (j := 1) rfl, _, _, rfl, rfl, ⟨by decide, by decide⟩, _, _, rfl, rfl, .inr ⟨by decide, by decide⟩, _, _, rfl, rfl, (by show (0 : Int) < 2147483249; decide), _, _, rfl, rfl, ⟨by decide, by decide⟩, _, rfl, _, _, rfl, rfl, h0, ?_⟩
      refine q _ _ (Int.emod_nonneg _ (by omega)) (Int.emod_lt_of_pos _ h0) ⟨x, _, upd_same, V.x0, V.xb, Int.emod_nonneg _ (by decide), ?_⟩ GR.But.upd
      exact Int.lt_trans (Int.emod_lt_of_pos _ (by decide)) (by decide)

def spBag (K : PySem.W.Frag) : Sp := fun vs H Q _ => ∃ (a : Addr) (ns : List Int) (k : Int), vs = [.ref a, .int k] ∧ SqL K H a (ns.map V.int) ∧ ns.length ≤ 63 ∧
  (∀ z ∈ ns, Builtin.Int.intBits z ≤ 1048576) ∧ 0 ≤ k ∧ k < 100 ∧ ∀ H' b, Same H H' → H b = none → GR.Bag H' b → Q (.ref b) H'
theorem map_get {ns : List Int} {i : Nat} {y : V} (h : (ns.map V.int)[i]? = some y) : ∃ z, ns[i]? = some z ∧ y = V.int z := by
  rw [List.getElem?_map] at h
  cases e : ns[i]? with
  | none =>
    rw [e] at h
    cases h
  | some z =>
    rw [e] at h
    exact ⟨z, rfl, (Option.some.inj h).symm⟩
theorem cut_upto (ns : List Int) (k : Nat) : cutV (ns.map V.int) none (some (k : Int)) = (ns.take k).map V.int := by
  unfold cutV
  rw [HT.sIx_none, show HT.sIx (ns.map V.int).length (ns.map V.int).length (some (k : Int)) = min k (ns.map V.int).length from HT.sIx_nat _ _ k]
  rw [List.map_take, List.drop_zero, Nat.sub_zero]
  by_cases h : k ≤ (ns.map V.int).length
  · rw [Nat.min_eq_left h]
  · rw [Nat.min_eq_right (by omega), List.take_of_length_le (Nat.le_refl _), List.take_of_length_le (by omega)]
theorem okLawBag : FnOk P w K mg bs CX0 1 T.fLawBag T.dLawBag ["_law_script", "_law_at"] (spBag K) := by
  refine T.FLawBag.ok scLawBag (fun vs H Q E h => ?_) (fun cdv A outer s H vs Q E hr h => ?_)
  · obtain ⟨a, ns, k, rfl, _⟩ := h
    rfl
  · obtain ⟨a, ns, k, rfl, hS, hlen, hbits, hk0, hk1, q⟩ := h
    refine ⟨_, (pss_cons (ps_set (i := 2) scLawBag.nd rfl (Or.inl rfl) (GR.pe_cut (pe_ifExp (pt_cmpR op_lt (pv 1) (pe_callB call_len_seq (by rfl) T.n_len PySem.boot_len (pa_cons (pv 0) pa_nil)) (nomark _)) (pe_ix ix_list (pv 0) (pv 1) (fun _ _ => rfl)) pe_int)))
      (pss_cons (ps_set (i := 3) scLawBag.nd rfl (Or.inl rfl) (pe_op op_add (pe_op op_mul pe_int (pv 1)) pe_int))
      (pss_cons (ps_for PassesOwn.never rfl (pi_enum (by rfl) T.n_enumerate (pa_cons (pe_slice sl_list (pv 0) po_none (po_some pe_int)) pa_nil)) (pg_tup (by rfl) (pgs_cons (pg_name (i := 4) scLawBag.nd rfl (Or.inl rfl)) (pgs_cons (pg_name (i := 5) scLawBag.nd rfl (Or.inl rfl)) pgs_nil)))
      (pss_one (ps_set (i := 3) scLawBag.nd rfl (Or.inl rfl) (pe_op op_mod (pe_op op_add (pe_op op_add (pe_op op_mul (pv 3) pe_int) (pe_op op_mod (pv 5) pe_int)) (pe_op op_mul pe_int (pv 4))) pe_int))))
      (pss_one (ps_ret (pe_lst (pa_cons (GR.pe_cut (pe_ifExp (pt_cmpR op_ge (pe_callB call_abs (by rfl) T.n_abs (by decide +kernel) (pa_cons (pv 2) pa_nil)) (pe_op op_pow pe_int pe_int) (nomark _)) (pe_callB call_abs (by rfl) T.n_abs (by decide +kernel) (pa_cons (pv 2) pa_nil)) pe_int)) (pa_cons (pv 3) pa_nil)))))))), ?_⟩
    refine ⟨fun v H1 => H1 = H ∧ ∃ c : Int, v = .int c ∧ c.natAbs < 2 ^ 1048576, ?_, ?_⟩
    · refine ⟨_, rfl, _, rfl, a, _, rfl, .inl hS, _, _, rfl, rfl, _, rfl, ?_⟩
      refine ite2 (fun e => ?_) (fun e => ?_)
      · have e' : k < ((ns.map V.int).length : Int) := of_decide_eq_true e
        rw [List.length_map] at e'
        obtain ⟨j, rfl⟩ : ∃ j : Nat, k = (j : Int) := ⟨k.toNat, by omega⟩
        have hj : j < ns.length := by omega
        refine ⟨_, rfl, _, rfl, a, _, _, _, rfl, rfl, hS, atI_nat (j := j) (v := V.int ns[j]) (by rw [List.getElem?_map, List.getElem?_eq_getElem hj]; rfl), rfl, _, rfl, ?_⟩
        exact GR.bits_lt (hbits _ (List.getElem_mem hj))
      · exact ⟨rfl, 0, rfl, Nat.pow_pos (by decide)⟩
    rintro v H1 ⟨rfl, c, rfl, hc⟩
    refine ⟨_, rfl, _, _, rfl, rfl, .inl ⟨by decide, by decide⟩, _, _, rfl, rfl, ?_⟩
    -- for spot, other in enumerate(script[:30])
    refine ⟨_, rfl, 30, rfl, a, _, rfl, hS, fun l nl => ?_⟩
    have sl : Same H1 (upd H1 l (.lst (cutV (ns.map V.int) none (some 30)))) := GR.same_upd nl
    have ec : cutV (ns.map V.int) none (some 30) = (ns.take 30).map V.int := cut_upto ns 30
    refine ⟨l, (ns.take 30).map V.int, rfl, SqL.of (by rw [upd_same, ec]), ?_⟩
    refine GR.for_enum (K := K) (a := l) (xs := (ns.take 30).map V.int) (fun i σ H2 => ∃ (m : Int) (v4 v5 : Option V), σ = [some (.ref a), some (.int k), some (.int c), some (.int m), v4, v5] ∧ Same H1 H2 ∧ H2 l = some (.lst ((ns.take 30).map V.int)) ∧ 0 ≤ m ∧ m < 2147483648)
      ⟨2713 * k + 419, none, none, rfl, sl, by rw [upd_same, ec], by omega, by omega⟩ (fun i σ H2 _ ⟨_, _, _, _, _, h2, _⟩ => SqL.of h2) ?_ ?_
    · rintro i y σ H2 U hi ⟨m, v4, v5, rfl, sm, h2, m0, m1⟩ nU
      obtain ⟨z, hz, rfl⟩ := map_get hi
      have nlU : l ≠ U := ne_of_none h2 nU
      refine ⟨U, _, rfl, .inl (.inl upd_same), rfl, _, _, rfl, _, _, rfl, rfl, ?_⟩
      refine ⟨_, rfl, _, _, rfl, rfl, .inr ⟨by decide, by decide⟩, _, rfl, _, _, rfl, rfl, (by show (0 : Int) < 2147483563; decide), _, _, rfl, rfl, _, rfl, _, _, rfl, rfl, .inl ⟨by decide, by decide⟩, _, _, rfl, rfl, _, _, rfl, rfl, (by show (0 : Int) < 2147483563; decide), ?_⟩
      refine ⟨_, _, _, rfl, sm.trans (GR.same_upd nU), by rw [upd_ne nlU]; exact h2, Int.emod_nonneg _ (by decide), Int.lt_trans (Int.emod_lt_of_pos _ (by decide)) (by decide)⟩
    · rintro σ H2 ⟨m, v4, v5, rfl, sm, h2, m0, m1⟩
      -- return [..]
      refine ⟨fun v H3 => H3 = H2 ∧ ∃ x : Int, v = .int x ∧ 0 ≤ x ∧ x.natAbs < 2 ^ 1048576, ?_, ?_⟩
      · refine ⟨_, rfl, _, rfl, _, _, rfl, rfl, ⟨by decide, by decide, by decide⟩, _, _, rfl, rfl, _, rfl, ?_⟩
        refine ite2 (fun e => ?_) (fun e => ?_)
        · refine ⟨_, rfl, _, rfl, rfl, _, rfl, ?_, ?_⟩
          · split <;> omega
          · refine Nat.lt_of_le_of_lt ?_ hc
            split <;> omega
        · exact ⟨rfl, 0, rfl, Int.le_refl _, Nat.pow_pos (by decide)⟩
      · rintro v H3 ⟨rfl, x, rfl, x0, xb⟩
        refine ⟨_, rfl, (by show 2 ≤ sizeLine; decide), fun b nb => ?_⟩
        exact q _ _ (sm.trans (GR.same_upd nb)) (sm.free nb) ⟨x, m, upd_same, x0, xb, m0, m1⟩
theorem okLawPart : FnOk P w K mg bs CX0 2 T.fLawPart T.dLawPart ["_law_bag_here", "_law_most"] (spPart K) := by
  have GLawTake : FnOk P w K mg bs CX0 1 T.fLawTake T.dLawTake ["_law_bag_here", "_law_many"] spTake := okLawTake T
  refine T.FLawPart.ok scLawPart (fun vs H Q E h => ?_) (fun cdv A outer s H vs Q E hr h => ?_)
  · obtain ⟨b, most, rfl, _⟩ := h
    rfl
  · obtain ⟨b, most, rfl, hb, hm, q⟩ := h
    refine ⟨_, (pss_cons (ps_set (i := 2) scLawPart.nd rfl (Or.inl rfl) (GR.pe_cut (pe_op op_shl pe_int (pe_call GLawTake (hr.mono (by decide)) (by rfl) T.gLawTake T.FLawTake.kp T.bLawTake .nil pass0 (pa_cons (pv 0) (pa_cons (pe_op op_add (pv 1) pe_int) pa_nil))))))
      (pss_cons (ps_set (i := 3) scLawPart.nd rfl (Or.inl rfl) (pe_ix ix_list (pe_lst (pa_cons pe_int (pa_cons (pv 2) (pa_cons (pe_op op_sub (pv 2) pe_int) (pa_cons (pe_op op_add pe_int (pe_call GLawTake (hr.mono (by decide)) (by rfl) T.gLawTake T.FLawTake.kp T.bLawTake .nil pass0 (pa_cons (pv 0) (pa_cons (pv 2) pa_nil)))) pa_nil))))) (pe_call GLawTake (hr.mono (by decide)) (by rfl) T.gLawTake T.FLawTake.kp T.bLawTake .nil pass0 (pa_cons (pv 0) (pa_cons pe_int pa_nil))) (fun _ _ => rfl)))
      (pss_cons (ps_while PassesOwn.never (GR.pt_cut (PW.pt (pw_and (pt_cmpR op_gt (pv 2) pe_int (nomark _)) (pw_and1 (pt_cmpR op_eq (pe_op op_mod (pv 3) pe_int) pe_int (nomark _)))))) (pss_one (ps_par (i := 3) (j := 2) (by rfl) scLawPart.nd rfl rfl (by decide) rfl rfl (pa_cons (pe_op op_fdivW (pv 3) pe_int) (pa_cons (pe_op op_fdivW (pv 2) pe_int) pa_nil)) (by rfl))))
      (pss_one (ps_ret (pe_tup (pa_cons (pe_callB (call_max2 rfl) (by rfl) T.n_max (by decide +kernel) (pa_cons pe_int (pa_cons (pv 3) pa_nil))) (pa_cons (pv 2) pa_nil)))))))), ?_⟩
    -- bottom = 1 << take(bag, most + 1)
    refine ⟨fun v H1 => ∃ j : Nat, j ≤ most ∧ v = .int (2 ^ j) ∧ GR.Bag H1 b ∧ GR.But b H H1, ?_, ?_⟩
    · refine ⟨_, rfl, _, rfl, _, _, rfl, rfl, b, _, rfl, hb, (by show (0 : Int) < (most : Int) + 1; omega), ?_, fun r H1 r0 r1 hb1 f1 => ?_⟩
      · exact Nat.lt_of_lt_of_le (show ((most : Int) + 1).natAbs < 2 ^ 10 by omega) (Nat.pow_le_pow_right (by decide) (by decide))
      obtain ⟨j, rfl⟩ : ∃ j : Nat, r = (j : Int) := ⟨r.toNat, by omega⟩
      have hj : j ≤ most := by omega
      exact ⟨_, _, rfl, rfl, ⟨by omega, by omega, by decide⟩, j, hj, congrArg V.int (pow_shl j), hb1, f1⟩
    rintro _ H1 ⟨j, hj, rfl, hb1, f1⟩
    have hp : (0 : Int) < 2 ^ j := Int.pow_pos (by decide)
    -- top = [1, bottom, bottom - 1, 1 + take(bag, bottom)][take(bag, 4)]
    refine ⟨_, rfl, _, rfl, _, _, rfl, rfl, _, rfl, _, rfl, b, _, rfl, hb1, hp, pow_lt_big hj hm, fun r2 H2 s0 s1 hb2 f2 => ?_⟩
    refine ⟨_, _, rfl, rfl, (by show 4 ≤ sizeLine; decide), fun l nl => ?_⟩
    have hb3 : GR.Bag (upd H2 l (.lst [.int 1, .int (2 ^ j), .int (2 ^ j - 1), .int (1 + r2)])) b := by
      obtain ⟨x, m, e, V⟩ := hb2
      exact ⟨x, m, by rw [upd_ne (ne_of_none e nl)]; exact e, V⟩
    refine ⟨_, rfl, b, 4, rfl, hb3, by decide, by decide, fun r3 H3 t0 t1 hb4 f3 => ?_⟩
    have nlb : l ≠ b := by
      intro e
      subst e
      obtain ⟨_, _, e, _⟩ := hb2
      rw [nl] at e
      cases e
    have hl3 : H3 l = some (.lst [.int 1, .int (2 ^ j), .int (2 ^ j - 1), .int (1 + r2)]) := by
      rw [f3 l nlb, upd_same]
    obtain ⟨top, e3, ht0, ht1⟩ : ∃ top : Int, atI [V.int 1, .int (2 ^ j), .int (2 ^ j - 1), .int (1 + r2)] r3 = some (V.int top) ∧ 0 ≤ top ∧ top ≤ 2 ^ j := by
      have c : r3 = 0 ∨ r3 = 1 ∨ r3 = 2 ∨ r3 = 3 := by omega
      rcases c with rfl | rfl | rfl | rfl
      · exact ⟨1, rfl, by omega, by omega⟩
      · exact ⟨2 ^ j, rfl, by omega, by omega⟩
      · exact ⟨2 ^ j - 1, rfl, by omega, by omega⟩
      · exact ⟨1 + r2, rfl, by omega, by omega⟩
    refine ⟨l, _, _, _, rfl, rfl, SqL.of hl3, e3, ?_⟩
    have fx : GR.SameX b H H3 := ((f1.x.trans f2.x).trans (.new nl)).trans f3.x
    -- while bottom > 1 and top % 2 == 0
    refine ⟨fun m σ H4 => H4 = H3 ∧ ∃ (i : Nat) (u : Int), i ≤ most ∧ m = i ∧ σ = [some (.ref b), some (.int (most : Int)), some (.int (2 ^ i)), some (.int u)] ∧ 0 ≤ u ∧ u ≤ 2 ^ i,
      ⟨j, rfl, j, top, hj, rfl, rfl, ht0, ht1⟩, ?_⟩
    rintro m σ H4 ⟨rfl, i, u, hi, rfl, rfl, u0, u1⟩
    have hpm : (0 : Int) < 2 ^ m := Int.pow_pos (by decide)
    refine ⟨fun c H' => H' = H4 ∧ (c = true → (1 : Int) < 2 ^ m ∧ u % 2 = 0) ∧ (c = false → (2 : Int) ^ m = 1 ∨ u % 2 = 1), ?_, ?_⟩
    · refine ⟨_, rfl, _, _, rfl, rfl, _, rfl, ?_⟩
      refine ite2 (fun e => ?_) (fun e => ?_)
      · have e' : (1 : Int) < 2 ^ m := of_decide_eq_true e
        refine ⟨_, rfl, _, _, rfl, rfl, (by show (0 : Int) < 2; decide), rfl, _, rfl, rfl, fun z => ⟨e', V.int.inj (of_decide_eq_true z)⟩, fun z => .inr ?_⟩
        have z' : ¬ u % 2 = 0 := fun y => of_decide_eq_false z (congrArg V.int y)
        omega
      · have : ¬ (1 : Int) < 2 ^ m := fun z => e (decide_eq_true z)
        exact ⟨rfl, fun z => (nomatch z), fun _ => .inl (by omega)⟩
    rintro c H5 ⟨rfl, ct, cf⟩
    cases c with
    | true =>
      obtain ⟨e', e2'⟩ := ct rfl
      refine iteT ?_
      obtain ⟨i, rfl, ei⟩ := half_pow e'
      refine ⟨fun σ' H' => H' = H5 ∧ σ' = [some (.ref b), some (.int (most : Int)), some (.int (2 ^ i)), some (.int (u / 2))], ?_, ?_⟩
      · rintro σ' H' ⟨rfl, rfl⟩
        refine ⟨i, by omega, rfl, i, u / 2, by omega, rfl, rfl, by omega, ?_⟩
        rw [Int.pow_succ] at u1
        omega
      · refine ⟨_, rfl, _, _, rfl, rfl, ⟨by decide, by decide⟩, _, rfl, _, _, rfl, rfl, ⟨by decide, by decide⟩, _, _, rfl, rfl, ?_⟩
        show [some (V.ref b), some (.int (most : Int)), some (.int (2 ^ (i + 1) / 2)), some (.int (u / 2))] = _
        rw [ei]
    | false =>
      have z := cf rfl
      refine iteF ?_
      refine ⟨_, rfl, _, _, rfl, _, rfl, (by show 2 ≤ sizeLine; decide), fun p np => ?_⟩
      refine q _ _ (if u > 1 then u else 1) (2 ^ m) (fx.trans (.new np)) ?_ ?_ (dp_of2 (.inl (.inl upd_same)))
      · obtain ⟨x, m', e, V⟩ := hb4
        exact ⟨x, m', by rw [upd_ne (ne_of_none e np)]; exact e, V⟩
      · refine ⟨⟨m, hi, rfl⟩, ?_, ?_, ?_⟩
        · split <;> omega
        · split <;> omega
        · rcases z with z | z
          · exact .inl z
          · right
            split
            · exact z
            · rfl

def spLHalf (K : PySem.W.Frag) : Sp := fun vs H Q _ => ∃ x t b, vs = [x] ∧ Dp K H x (.tuple [.int t, .int b]) ∧
  ∀ H' y, Same H H' → Dp K H' y (.tuple [.int t, .int (2 * b)]) → Q y H'
theorem okLawHalf : FnOk P w K mg bs CX0 1 T.fLawHalf T.dLawHalf ["_law_part_here"] (spLHalf K) := by
  refine T.FLawHalf.ok scLawHalf (fun vs H Q E h => ?_) (fun cdv A outer s H vs Q E hr h => ?_)
  · obtain ⟨x, t, b, rfl, _⟩ := h
    rfl
  · obtain ⟨x, t, b, rfl, hd, q⟩ := h
    refine ⟨_, (pss_one (ps_ret (pe_tup (pa_cons (pe_ix ix_tup (pv 0) pe_int (fun _ _ => rfl)) (pa_cons (pe_op op_mul pe_int (pe_ix ix_tup (pv 0) pe_int (fun _ _ => rfl))) pa_nil))))), ?_⟩
    obtain ⟨a, rfl, ha⟩ := dp_two hd
    refine ⟨_, rfl, a, _, _, _, rfl, rfl, ha, atI_nat (j := 0) rfl, _, rfl, a, _, _, _, rfl, rfl, ha, atI_nat (j := 1) rfl, _, _, rfl, rfl, .inl ⟨by decide, by decide⟩, (by show 2 ≤ sizeLine; decide), fun p np => ?_⟩
    exact q _ _ (GR.same_upd np) (dp_of2 (.inl (.inl upd_same)))

def spLowest (K : PySem.W.Frag) : Sp := fun vs H Q _ => ∃ (t : Int) (j : Nat), vs = [.int t, .int (2 ^ j)] ∧
  ∀ H' y, Same H H' → Dp K H' y (.tuple [.int (low t j).1, .int (low t j).2]) → Q y H'
theorem okLowest : FnOk P w K mg bs CX0 1 T.fLowest T.dLowest ["top", "bottom"] (spLowest K) := by
  refine T.FLowest.ok scLowest (fun vs H Q E h => ?_) (fun cdv A outer s H vs Q E hr h => ?_)
  · obtain ⟨t, j, rfl, _⟩ := h
    rfl
  · obtain ⟨t, j, rfl, q⟩ := h
    refine ⟨_, (pss_cons (ps_while PassesOwn.never (GR.pt_cut (PW.pt (pw_and (pt_cmpR op_gt (pv 1) pe_int (nomark _)) (pw_and1 (pt_cmpR op_eq (pe_op op_mod (pv 0) pe_int) pe_int (nomark _)))))) (pss_cons (ps_aug (i := 0) scLowest.nd rfl (Or.inl rfl) pe_int iop_fdivW)
      (pss_one (ps_aug (i := 1) scLowest.nd rfl (Or.inl rfl) pe_int iop_fdivW))))
      (pss_one (ps_ret (pe_tup (pa_cons (pv 0) (pa_cons (pv 1) pa_nil)))))), ?_⟩
    refine ⟨fun m σ H4 => H4 = H ∧ ∃ u : Int, σ = [some (.int u), some (.int (2 ^ m))] ∧ low u m = low t j, ⟨j, rfl, t, rfl, rfl⟩, ?_⟩
    rintro m σ H4 ⟨rfl, u, rfl, el⟩
    have hpm : (0 : Int) < 2 ^ m := Int.pow_pos (by decide)
    refine ⟨fun c H' => H' = H4 ∧ (c = true → (1 : Int) < 2 ^ m ∧ u % 2 = 0) ∧ (c = false → (2 : Int) ^ m = 1 ∨ u % 2 = 1), ?_, ?_⟩
    · refine ⟨_, rfl, _, _, rfl, rfl, _, rfl, ?_⟩
      refine ite2 (fun e => ?_) (fun e => ?_)
      · have e' : (1 : Int) < 2 ^ m := of_decide_eq_true e
        refine ⟨_, rfl, _, _, rfl, rfl, (by show (0 : Int) < 2; decide), rfl, _, rfl, rfl, fun z => ⟨e', V.int.inj (of_decide_eq_true z)⟩, fun z => .inr ?_⟩
        have z' : ¬ u % 2 = 0 := fun y => of_decide_eq_false z (congrArg V.int y)
        omega
      · have : ¬ (1 : Int) < 2 ^ m := fun z => e (decide_eq_true z)
        exact ⟨rfl, fun z => (nomatch z), fun _ => .inl (by omega)⟩
    rintro c H5 ⟨rfl, ct, cf⟩
    cases c with
    | true =>
      obtain ⟨e', e2'⟩ := ct rfl
      refine iteT ?_
      obtain ⟨i, rfl, ei⟩ := half_pow e'
      refine ⟨fun σ' H' => H' = H5 ∧ σ' = [some (.int (u / 2)), some (.int (2 ^ i))], ?_, ?_⟩
      · rintro σ' H' ⟨rfl, rfl⟩
        exact ⟨i, by omega, rfl, u / 2, rfl, by rw [← low_even e2', el]⟩
      · refine ⟨_, rfl, _, _, rfl, rfl, ⟨by decide, by decide⟩, _, rfl, _, _, rfl, rfl, ⟨by decide, by decide⟩, rfl, ?_⟩
        show [some (V.int (u / 2)), some (.int (2 ^ (i + 1) / 2))] = _
        rw [ei]
    | false =>
      have z := cf rfl
      refine iteF ?_
      refine ⟨_, rfl, _, rfl, (by show 2 ≤ sizeLine; decide), fun p np => ?_⟩
      have e9 : low t j = (u, 2 ^ m) := by
        rw [← el]
        rcases z with z | z
        · cases m with
          | zero => rfl
          | succ m =>
            exfalso
            have : (0 : Int) < 2 ^ m := Int.pow_pos (by decide)
            rw [Int.pow_succ] at z
            omega
        · exact low_odd z
      refine q _ _ (GR.same_upd np) ?_
      rw [e9]
      exact dp_of2 (.inl (.inl upd_same))

def spLook (K : PySem.W.Frag) : Sp := fun vs H Q _ => ∃ x d, vs = [x] ∧ Dp K H x d ∧ isPartD d = true ∧ ∀ H', Same H H' → Q .non H'
theorem okLookPart : FnOk P w K mg bs CX0 3 T.fLookPart T.dLookPart ["thing"] (spLook K) := by
  have GIsPart : FnOk P w K mg bs CX0 2 T.fIsPart T.dIsPart ["thing"] (spIsPart K) := okIsPart T
  refine T.FLookPart.ok scLookPart (fun vs H Q E h => ?_) (fun cdv A outer s H vs Q E hr h => ?_)
  · obtain ⟨x, d, rfl, _⟩ := h
    rfl
  · obtain ⟨x, d, rfl, hd, hp, q⟩ := h
    refine ⟨_, (pss_one (ps_if (pt_not (pt_val (pe_call GIsPart (hr.mono (by decide)) (by rfl) T.gIsPart T.FIsPart.kp T.bIsPart .nil pass0 (pa_cons (pv 0) pa_nil)))) (pss_one ps_never) pss_nil)), ?_⟩
    refine ⟨_, rfl, x, rfl, .inl ⟨_, hd, fun H1 s1 => ⟨_, rfl, ?_⟩⟩⟩
    rw [hp]
    exact iteF (q H1 s1)

/-- the sum of two parts whose bottoms are powers of 2, at most the whole -/
def spPlus (K : PySem.W.Frag) : Sp := fun vs H Q _ => ∃ x y t i u j, vs = [x, y] ∧ Dp K H x (.tuple [.int t, .int (2 ^ i)]) ∧ Dp K H y (.tuple [.int u, .int (2 ^ j)]) ∧ i ≤ 1000 ∧ j ≤ 1000 ∧
  partOk t (2 ^ i) = true ∧ partOk u (2 ^ j) = true ∧ t.natAbs < 2 ^ 1001 ∧ u.natAbs < 2 ^ 1001 ∧ sumT t (2 ^ i) u (2 ^ j) ≤ 2 ^ (max i j) ∧
  ∀ H' z, Same H H' → Dp K H' z (.tuple [.int (low (sumT t (2 ^ i) u (2 ^ j)) (max i j)).1, .int (low (sumT t (2 ^ i) u (2 ^ j)) (max i j)).2]) → Q z H'
theorem okPlus : FnOk P w K mg bs CX0 4 T.fPlus T.dPlus ["one", "other"] (spPlus K) := by
  have GLookPart : FnOk P w K mg bs CX0 3 T.fLookPart T.dLookPart ["thing"] (spLook K) := okLookPart T
  have GLowest : FnOk P w K mg bs CX0 1 T.fLowest T.dLowest ["top", "bottom"] (spLowest K) := okLowest T
  refine T.FPlus.ok scPlus (fun vs H Q E h => ?_) (fun cdv A outer s H vs Q E hr h => ?_)
  · obtain ⟨x, y, t, i, u, j, rfl, _⟩ := h
    rfl
  · obtain ⟨x, y, t, i, u, j, rfl, dx, dy, hi, hj, px, py, bt, bu, fit, q⟩ := h
    refine ⟨_, (pss_cons (ps_expr (pe_call GLookPart (hr.mono (by decide)) (by rfl) T.gLookPart T.FLookPart.kp T.bLookPart .nil pass0 (pa_cons (pv 0) pa_nil)))
      (pss_cons (ps_expr (pe_call GLookPart (hr.mono (by decide)) (by rfl) T.gLookPart T.FLookPart.kp T.bLookPart .nil pass0 (pa_cons (pv 1) pa_nil)))
      (pss_cons (ps_set (i := 2) scPlus.nd rfl (Or.inl rfl) (GR.pe_cut (pe_callB (call_max2 rfl) (by rfl) T.n_max (by decide +kernel) (pa_cons (pe_ix ix_tup (pv 0) pe_int (fun _ _ => rfl)) (pa_cons (pe_ix ix_tup (pv 1) pe_int (fun _ _ => rfl)) pa_nil)))))
      (pss_cons (ps_set (i := 3) scPlus.nd rfl (Or.inl rfl) (GR.pe_cut (pe_op op_add (pe_op op_mulW (pe_ix ix_tup (pv 0) pe_int (fun _ _ => rfl)) (pe_op op_fdivW (pv 2) (pe_ix ix_tup (pv 0) pe_int (fun _ _ => rfl)))) (pe_op op_mulW (pe_ix ix_tup (pv 1) pe_int (fun _ _ => rfl)) (pe_op op_fdivW (pv 2) (pe_ix ix_tup (pv 1) pe_int (fun _ _ => rfl)))))))
      (pss_cons (ps_if (pt_cmpR op_gt (pv 3) (pv 2) (nomark _)) (pss_one ps_never) pss_nil)
      (pss_one (ps_ret (pe_call GLowest (hr.mono (by decide)) (by rfl) T.gLowest T.FLowest.kp T.bLowest .nil pass0 (pa_cons (pv 3) (pa_cons (pv 2) pa_nil)))))))))), ?_⟩
    refine ⟨_, rfl, x, _, rfl, dx, px, fun H1 s1 => ?_⟩
    refine ⟨_, rfl, y, _, rfl, GR.Dp_same s1 _ _ dy, py, fun H2 s2 => ?_⟩
    have dx2 := GR.Dp_same (s1.trans s2) _ _ dx
    have dy2 := GR.Dp_same (s1.trans s2) _ _ dy
    obtain ⟨a, rfl, ha⟩ := dp_two dx2
    obtain ⟨b, rfl, hb⟩ := dp_two dy2
    -- bottom = max(one[1], other[1])
    refine ⟨fun v H3 => H3 = H2 ∧ v = .int (2 ^ (max i j)), ?_, ?_⟩
    · refine ⟨_, rfl, a, _, _, _, rfl, rfl, ha, atI_nat (j := 1) rfl, _, rfl, b, _, _, _, rfl, rfl, hb, atI_nat (j := 1) rfl, _, _, rfl, rfl, ?_⟩
      exact congrArg V.int (sumB_pow i j)
    rintro _ H3 ⟨rfl, rfl⟩
    -- top
    have wd : ∀ (z : Int) (k : Nat), z.natAbs < 2 ^ 1001 → k ≤ 1000 → CMulW z (2 ^ (max i j) / 2 ^ k) := fun z k hz hk => by
      by_cases hm : k ≤ max i j
      · rw [pow_div hm]
        exact wide_mul hz (b := 1002) (by rw [abs_pow]; exact Nat.pow_lt_pow_right (by decide) (by omega)) (by decide) (by decide) (by decide)
      · exact wide_mul hz (b := 1002) (by
          rw [Int.natAbs_ediv_of_nonneg (Int.le_of_lt (Int.pow_pos (by decide))) , abs_pow, abs_pow]
          exact Nat.lt_of_le_of_lt (Nat.div_le_self _ _) (Nat.pow_lt_pow_right (by decide) (by omega))) (by decide) (by decide) (by decide)
    have dv : ∀ k : Nat, k ≤ 1000 → CDivW (2 ^ (max i j)) (2 ^ k) := fun k hk =>
      wide_div (Int.pow_pos (by decide)) (b := 1002) (by rw [abs_pow]; exact Nat.pow_lt_pow_right (by decide) (by omega)) (by decide) (by decide)
    refine ⟨fun v H4 => H4 = H3 ∧ v = .int (sumT t (2 ^ i) u (2 ^ j)), ?_, ?_⟩
    · refine ⟨_, rfl, a, _, _, _, rfl, rfl, ha, atI_nat (j := 0) rfl, _, rfl, _, rfl, a, _, _, _, rfl, rfl, ha, atI_nat (j := 1) rfl, _, _, rfl, rfl, dv i hi, _, _, rfl, rfl, wd t i bt hi, ?_⟩
      refine ⟨_, rfl, b, _, _, _, rfl, rfl, hb, atI_nat (j := 0) rfl, _, rfl, _, rfl, b, _, _, _, rfl, rfl, hb, atI_nat (j := 1) rfl, _, _, rfl, rfl, dv j hj, _, _, rfl, rfl, wd u j bu hj, _, _, rfl, rfl, rfl, ?_⟩
      unfold sumT
      rw [sumB_pow]
    rintro _ H4 ⟨rfl, rfl⟩
    -- if top > bottom
    refine ⟨_, rfl, _, rfl, _, _, rfl, rfl, _, rfl, ?_⟩
    rw [show decide ((2 : Int) ^ (max i j) < sumT t (2 ^ i) u (2 ^ j)) = false from decide_eq_false (by omega)]
    refine iteF ?_
    exact ⟨_, rfl, _, rfl, _, _, rfl, fun H5 z s5 dz => q H5 z ((s1.trans s2).trans s5) dz⟩

/-- the law's own sum: the same number, whatever it is -/
def spLPlus (K : PySem.W.Frag) : Sp := fun vs H Q _ => ∃ x y t i u j, vs = [x, y] ∧ Dp K H x (.tuple [.int t, .int (2 ^ i)]) ∧ Dp K H y (.tuple [.int u, .int (2 ^ j)]) ∧ i ≤ 1000 ∧ j ≤ 1000 ∧
  t.natAbs < 2 ^ 1001 ∧ u.natAbs < 2 ^ 1001 ∧
  ∀ H' z, Same H H' → Dp K H' z (.tuple [.int (low (sumT t (2 ^ i) u (2 ^ j)) (max i j)).1, .int (low (sumT t (2 ^ i) u (2 ^ j)) (max i j)).2]) → Q z H'
theorem okLawPlus : FnOk P w K mg bs CX0 1 T.fLawPlus T.dLawPlus ["_law_one", "_law_other"] (spLPlus K) := by
  refine T.FLawPlus.ok scLawPlus (fun vs H Q E h => ?_) (fun cdv A outer s H vs Q E hr h => ?_)
  · obtain ⟨x, y, t, i, u, j, rfl, _⟩ := h
    rfl
  · obtain ⟨x, y, t, i, u, j, rfl, dx2, dy2, hi, hj, bt, bu, q⟩ := h
    refine ⟨_, (pss_cons (ps_set (i := 2) scLawPlus.nd rfl (Or.inl rfl) (GR.pe_cut (pe_callB (call_max2 rfl) (by rfl) T.n_max (by decide +kernel) (pa_cons (pe_ix ix_tup (pv 0) pe_int (fun _ _ => rfl)) (pa_cons (pe_ix ix_tup (pv 1) pe_int (fun _ _ => rfl)) pa_nil)))))
      (pss_cons (ps_set (i := 3) scLawPlus.nd rfl (Or.inl rfl) (GR.pe_cut (pe_op op_add (pe_op op_mulW (pe_ix ix_tup (pv 0) pe_int (fun _ _ => rfl)) (pe_op op_fdivW (pv 2) (pe_ix ix_tup (pv 0) pe_int (fun _ _ => rfl)))) (pe_op op_mulW (pe_ix ix_tup (pv 1) pe_int (fun _ _ => rfl)) (pe_op op_fdivW (pv 2) (pe_ix ix_tup (pv 1) pe_int (fun _ _ => rfl)))))))
      (pss_cons (ps_while PassesOwn.never (GR.pt_cut (PW.pt (pw_and (pt_cmpR op_gt (pv 2) pe_int (nomark _)) (pw_and1 (pt_cmpR op_eq (pe_op op_mod (pv 3) pe_int) pe_int (nomark _)))))) (pss_one (ps_par (i := 3) (j := 2) (by rfl) scLawPlus.nd rfl rfl (by decide) rfl rfl (pa_cons (pe_op op_fdivW (pv 3) pe_int) (pa_cons (pe_op op_fdivW (pv 2) pe_int) pa_nil)) (by rfl))))
      (pss_one (ps_ret (pe_tup (pa_cons (pv 3) (pa_cons (pv 2) pa_nil)))))))), ?_⟩
    obtain ⟨a, rfl, ha⟩ := dp_two dx2
    obtain ⟨b, rfl, hb⟩ := dp_two dy2
    refine ⟨fun v H3 => H3 = H ∧ v = .int (2 ^ (max i j)), ?_, ?_⟩
    · refine ⟨_, rfl, a, _, _, _, rfl, rfl, ha, atI_nat (j := 1) rfl, _, rfl, b, _, _, _, rfl, rfl, hb, atI_nat (j := 1) rfl, _, _, rfl, rfl, ?_⟩
      exact congrArg V.int (sumB_pow i j)
    rintro _ H3 ⟨rfl, rfl⟩
    have wd : ∀ (z : Int) (k : Nat), z.natAbs < 2 ^ 1001 → k ≤ 1000 → CMulW z (2 ^ (max i j) / 2 ^ k) := fun z k hz hk => by
      by_cases hm : k ≤ max i j
      · rw [pow_div hm]
        exact wide_mul hz (b := 1002) (by rw [abs_pow]; exact Nat.pow_lt_pow_right (by decide) (by omega)) (by decide) (by decide) (by decide)
      · exact wide_mul hz (b := 1002) (by
          rw [Int.natAbs_ediv_of_nonneg (Int.le_of_lt (Int.pow_pos (by decide))) , abs_pow, abs_pow]
          exact Nat.lt_of_le_of_lt (Nat.div_le_self _ _) (Nat.pow_lt_pow_right (by decide) (by omega))) (by decide) (by decide) (by decide)
    have dv : ∀ k : Nat, k ≤ 1000 → CDivW (2 ^ (max i j)) (2 ^ k) := fun k hk =>
      wide_div (Int.pow_pos (by decide)) (b := 1002) (by rw [abs_pow]; exact Nat.pow_lt_pow_right (by decide) (by omega)) (by decide) (by decide)
    refine ⟨fun v H4 => H4 = H3 ∧ v = .int (sumT t (2 ^ i) u (2 ^ j)), ?_, ?_⟩
    · refine ⟨_, rfl, a, _, _, _, rfl, rfl, ha, atI_nat (j := 0) rfl, _, rfl, _, rfl, a, _, _, _, rfl, rfl, ha, atI_nat (j := 1) rfl, _, _, rfl, rfl, dv i hi, _, _, rfl, rfl, wd t i bt hi, ?_⟩
      refine ⟨_, rfl, b, _, _, _, rfl, rfl, hb, atI_nat (j := 0) rfl, _, rfl, _, rfl, b, _, _, _, rfl, rfl, hb, atI_nat (j := 1) rfl, _, _, rfl, rfl, dv j hj, _, _, rfl, rfl, wd u j bu hj, _, _, rfl, rfl, rfl, ?_⟩
      unfold sumT
      rw [sumB_pow]
    rintro _ H4 ⟨rfl, rfl⟩
    generalize sumT t (2 ^ i) u (2 ^ j) = tt at q
    generalize max i j = jj at q
    refine ⟨fun m σ H5 => H5 = H4 ∧ ∃ u : Int, σ = [some (.ref a), some (.ref b), some (.int (2 ^ m)), some (.int u)] ∧ low u m = low tt jj, ⟨jj, rfl, tt, rfl, rfl⟩, ?_⟩
    rintro m σ H5 ⟨rfl, u, rfl, el⟩
    have hpm : (0 : Int) < 2 ^ m := Int.pow_pos (by decide)
    refine ⟨fun c H' => H' = H5 ∧ (c = true → (1 : Int) < 2 ^ m ∧ u % 2 = 0) ∧ (c = false → (2 : Int) ^ m = 1 ∨ u % 2 = 1), ?_, ?_⟩
    · refine ⟨_, rfl, _, _, rfl, rfl, _, rfl, ?_⟩
      refine ite2 (fun e => ?_) (fun e => ?_)
      · have e' : (1 : Int) < 2 ^ m := of_decide_eq_true e
        refine ⟨_, rfl, _, _, rfl, rfl, (by show (0 : Int) < 2; decide), rfl, _, rfl, rfl, fun z => ⟨e', V.int.inj (of_decide_eq_true z)⟩, fun z => .inr ?_⟩
        have z' : ¬ u % 2 = 0 := fun y => of_decide_eq_false z (congrArg V.int y)
        omega
      · have : ¬ (1 : Int) < 2 ^ m := fun z => e (decide_eq_true z)
        exact ⟨rfl, fun z => (nomatch z), fun _ => .inl (by omega)⟩
    rintro c H6 ⟨rfl, ct, cf⟩
    cases c with
    | true =>
      obtain ⟨e', e2'⟩ := ct rfl
      refine iteT ?_
      obtain ⟨i, rfl, ei⟩ := half_pow e'
      refine ⟨fun σ' H' => H' = H6 ∧ σ' = [some (.ref a), some (.ref b), some (.int (2 ^ i)), some (.int (u / 2))], ?_, ?_⟩
      · rintro σ' H' ⟨rfl, rfl⟩
        exact ⟨i, by omega, rfl, u / 2, rfl, by rw [← low_even e2', el]⟩
      · refine ⟨_, rfl, _, _, rfl, rfl, ⟨by decide, by decide⟩, _, rfl, _, _, rfl, rfl, ⟨by decide, by decide⟩, _, _, rfl, rfl, ?_⟩
        show [some (V.ref a), some (V.ref b), some (.int (2 ^ (i + 1) / 2)), some (V.int (u / 2))] = _
        rw [ei]
    | false =>
      have z := cf rfl
      refine iteF ?_
      refine ⟨_, rfl, _, rfl, (by show 2 ≤ sizeLine; decide), fun p np => ?_⟩
      have e9 : low tt jj = (u, 2 ^ m) := by
        rw [← el]
        rcases z with z | z
        · cases m with
          | zero => rfl
          | succ m =>
            exfalso
            have : (0 : Int) < 2 ^ m := Int.pow_pos (by decide)
            rw [Int.pow_succ] at z
            omega
        · exact low_odd z
      refine q _ _ (GR.same_upd np) ?_
      rw [e9]
      exact dp_of2 (.inl (.inl upd_same))

def spUpdated (K : PySem.W.Frag) : Sp := fun vs H Q _ => ∃ x y h n a t i h2 n2 a2 u j, vs = [x, y] ∧ Dp K H x (addrD h n a t (2 ^ i)) ∧ Dp K H y (addrD h2 n2 a2 u (2 ^ j)) ∧
  (a < a2 → ∀ H' z, Same H H' → Dp K H' z (.tuple [addrD h2 n2 a2 u (2 ^ j), addrD h n a t (2 ^ i)]) → Q z H') ∧
  (a2 < a → ∀ H' z, Same H H' → Dp K H' z (.tuple [addrD h n a t (2 ^ i), addrD h2 n2 a2 u (2 ^ j)]) → Q z H') ∧
  (a = a2 → (i ≤ 1000 ∧ j ≤ 1000 ∧ partOk t (2 ^ i) = true ∧ partOk u (2 ^ j) = true ∧ t.natAbs < 2 ^ 1001 ∧ u.natAbs < 2 ^ 1001 ∧ sumT t (2 ^ i) u (2 ^ j) ≤ 2 ^ (max i j)) ∧
    ∀ H' z, Same H H' → Dp K H' z (.tuple [addrD h n a (low (sumT t (2 ^ i) u (2 ^ j)) (max i j)).1 (low (sumT t (2 ^ i) u (2 ^ j)) (max i j)).2, .none]) → Q z H')
theorem okUpdated : FnOk P w K mg bs CX0 5 T.fUpdated T.dUpdated ["old", "new"] (spUpdated K) := by
  have GPlus : FnOk P w K mg bs CX0 4 T.fPlus T.dPlus ["one", "other"] (spPlus K) := okPlus T
  refine T.FUpdated.ok scUpdated (fun vs H Q E h => ?_) (fun cdv A outer s H vs Q E hr h => ?_)
  · obtain ⟨x, y, h, n, a, t, i, h2, n2, a2, u, j, rfl, _⟩ := h
    rfl
  · obtain ⟨x, y, h, n, a, t, i, h2, n2, a2, u, j, rfl, dx, dy, q1, q2, q3⟩ := h
    refine ⟨_, (pss_cons (ps_if (pt_cmpR op_gt (pe_ix ix_tup (pv 1) pe_int (fun _ _ => rfl)) (pe_ix ix_tup (pv 0) pe_int (fun _ _ => rfl)) (nomark _)) (pss_one (ps_ret (pe_tup (pa_cons (pv 1) (pa_cons (pv 0) pa_nil))))) pss_nil)
      (pss_cons (ps_if (pt_cmpR op_lt (pe_ix ix_tup (pv 1) pe_int (fun _ _ => rfl)) (pe_ix ix_tup (pv 0) pe_int (fun _ _ => rfl)) (nomark _)) (pss_one (ps_ret (pe_tup (pa_cons (pv 0) (pa_cons (pv 1) pa_nil))))) pss_nil)
      (pss_cons (ps_asg (pv 0) (pg_tup (by rfl) (pgs_cons (pg_name (i := 2) scUpdated.nd rfl (Or.inl rfl)) (pgs_cons (pg_name (i := 3) scUpdated.nd rfl (Or.inl rfl)) (pgs_cons (pg_name (i := 4) scUpdated.nd rfl (Or.inl rfl)) (pgs_cons (pg_name (i := 5) scUpdated.nd rfl (Or.inl rfl)) pgs_nil))))))
      (pss_one (ps_ret (pe_tup (pa_cons (pe_tup (pa_cons (pv 2) (pa_cons (pv 3) (pa_cons (pv 4) (pa_cons (pe_call GPlus (hr.mono (by decide)) (by rfl) T.gPlus T.FPlus.kp T.bPlus .nil pass0 (pa_cons (pv 5) (pa_cons (pe_ix ix_tup (pv 1) pe_int (fun _ _ => rfl)) pa_nil))) pa_nil))))) (pa_cons pe_non pa_nil)))))))), ?_⟩
    obtain ⟨p, x4, rfl, hp, dx4⟩ := dp_addr dx
    obtain ⟨p', y4, rfl, hp', dy4⟩ := dp_addr dy
    refine ⟨_, rfl, p', _, _, _, rfl, rfl, hp', atI_nat (j := 2) rfl, _, rfl, p, _, _, _, rfl, rfl, hp, atI_nat (j := 2) rfl, _, _, rfl, rfl, _, rfl, ?_⟩
    refine ite2 (fun e => ?_) (fun e => ?_)
    · refine ⟨_, rfl, _, rfl, (by show 2 ≤ sizeLine; decide), fun p1 n1 => ?_⟩
      have s1 := GR.same_upd (o := .tup [.ref p', .ref p]) n1
      exact q1 (of_decide_eq_true e) _ _ s1 (.tup (.inl (.inl upd_same)) (.cons (GR.Dp_same s1 _ _ dy) (.cons (GR.Dp_same s1 _ _ dx) .nil)))
    · have e' : ¬ a < a2 := fun z => e (decide_eq_true z)
      refine ⟨_, rfl, p', _, _, _, rfl, rfl, hp', atI_nat (j := 2) rfl, _, rfl, p, _, _, _, rfl, rfl, hp, atI_nat (j := 2) rfl, _, _, rfl, rfl, _, rfl, ?_⟩
      refine ite2 (fun e2 => ?_) (fun e2 => ?_)
      · refine ⟨_, rfl, _, rfl, (by show 2 ≤ sizeLine; decide), fun p1 n1 => ?_⟩
        have s1 := GR.same_upd (o := .tup [.ref p, .ref p']) n1
        exact q2 (of_decide_eq_true e2) _ _ s1 (.tup (.inl (.inl upd_same)) (.cons (GR.Dp_same s1 _ _ dx) (.cons (GR.Dp_same s1 _ _ dy) .nil)))
      · have e2' : ¬ a2 < a := fun z => e2 (decide_eq_true z)
        obtain ⟨⟨hi, hj, pt, pu, bt, bu, fit⟩, q⟩ := q3 (by omega)
        refine ⟨_, rfl, p, _, rfl, hp, rfl, _, _, rfl, _, _, rfl, _, _, rfl, _, _, rfl, rfl, ?_⟩
        refine ⟨_, rfl, _, rfl, _, rfl, _, rfl, _, rfl, p', _, _, _, rfl, rfl, hp', atI_nat (j := 3) rfl, x4, y4, t, i, u, j, rfl, dx4, dy4, hi, hj, pt, pu, bt, bu, fit, fun H1 z s1 dz => ⟨(by show 4 ≤ sizeLine; decide), fun p1 n1 => ?_⟩⟩
        have s2 := GR.same_upd (o := .tup [.int h, .int n, .int a, z]) n1
        refine ⟨(by show 2 ≤ sizeLine; decide), fun p2 n2' => ?_⟩
        have s3 := GR.same_upd (o := .tup [.ref p1, .non]) n2'
        refine q _ _ ((s1.trans s2).trans s3) (.tup (.inl (.inl upd_same)) (.cons ?_ (.cons .non .nil)))
        exact GR.Dp_same s3 _ _ (dp_ofA (.inl (.inl upd_same)) (GR.Dp_same s2 _ _ dz))

def small (z : Int) : Prop := 0 ≤ z ∧ z < 1000
structure PairOk (h n a t : Int) (i : Nat) (h2 n2 a2 u : Int) (j : Nat) : Prop where
  sm : small h ∧ small n ∧ small a ∧ small h2 ∧ small n2 ∧ small a2
  hi : i ≤ 50
  hj : j ≤ 50
  t1 : 1 ≤ t ∧ t ≤ 2 ^ i
  u1 : 1 ≤ u ∧ u ≤ 2 ^ j
  pt : partOk t (2 ^ i) = true
  pu : partOk u (2 ^ j) = true
  fit : a = a2 → sumT t (2 ^ i) u (2 ^ j) ≤ 2 ^ (max i j)
theorem fit_half {t u : Int} {i j : Nat} (ht : 0 ≤ t) (ht2 : t ≤ 2 ^ i) (hu : 0 ≤ u) (hu2 : u ≤ 2 ^ j) : sumT t (2 ^ (i + 1)) u (2 ^ (j + 1)) ≤ 2 ^ (max (i + 1) (j + 1)) := by
  unfold sumT
  rw [sumB_pow, pow_div (Nat.le_max_left _ _), pow_div (Nat.le_max_right _ _)]
  have k1 : ∀ (z : Int) (k m : Nat), k + 1 ≤ m → 0 ≤ z → z ≤ 2 ^ k → z * 2 ^ (m - (k + 1)) ≤ 2 ^ (m - 1) := fun z k m hk h0 h1 => by
    have h2 : (0 : Int) ≤ 2 ^ (m - (k + 1)) := Int.le_of_lt (Int.pow_pos (by decide))
    have h3 : z * 2 ^ (m - (k + 1)) ≤ 2 ^ k * 2 ^ (m - (k + 1)) := Int.mul_le_mul_of_nonneg_right h1 h2
    rw [← Int.pow_add, show k + (m - (k + 1)) = m - 1 by omega] at h3
    exact h3
  have a := k1 t i (max (i + 1) (j + 1)) (Nat.le_max_left _ _) ht ht2
  have b := k1 u j (max (i + 1) (j + 1)) (Nat.le_max_right _ _) hu hu2
  have e : (2 : Int) ^ (max (i + 1) (j + 1)) = 2 ^ (max (i + 1) (j + 1) - 1) * 2 := by
    rw [← Int.pow_succ]
    exact congrArg (fun z : Nat => (2 : Int) ^ z) (by omega)
  rw [e]
  omega
theorem half_ok {t : Int} {b : Int} {m : Nat} (h : Drawn t b m) : ∃ i : Nat, i ≤ m ∧ b = 2 ^ i ∧ 2 * b = 2 ^ (i + 1) ∧ partOk t (2 ^ (i + 1)) = true := by
  obtain ⟨⟨i, hi, rfl⟩, t1, tb, odd⟩ := h
  refine ⟨i, hi, rfl, by rw [Int.pow_succ, Int.mul_comm], ?_⟩
  have hp : (0 : Int) < 2 ^ i := Int.pow_pos (by decide)
  unfold partOk
  rw [pow_isPow, decide_eq_true (show (0 : Int) ≤ t by omega), decide_eq_true (show t ≤ 2 ^ (i + 1) by rw [Int.pow_succ]; omega), decide_eq_true (show t % 2 = 1 by
    rcases odd with e | e
    · omega
    · exact e)]
  simp
def spPair (K : PySem.W.Frag) : Sp := fun vs H Q _ => ∃ (b : Addr), vs = [.ref b] ∧ GR.Bag H b ∧
  ∀ H' z h n a t i h2 n2 a2 u j, GR.SameX b H H' → GR.Bag H' b → PairOk h n a t i h2 n2 a2 u j → Dp K H' z (.tuple [addrD h n a t (2 ^ i), addrD h2 n2 a2 u (2 ^ j)]) → Q z H'
theorem bag_new {H : Hp} {b p : Addr} {o : HO} (h : GR.Bag H b) (n : H p = none) : GR.Bag (upd H p o) b := by
  obtain ⟨x, m, e, V⟩ := h
  exact ⟨x, m, by rw [upd_ne (ne_of_none e n)]; exact e, V⟩
theorem Dp_x {K : PySem.W.Frag} {H H' : Hp} {b : Addr} {v : V} {t c : Int} (h : Dp K H v (.tuple [.int t, .int c])) (hb : GR.Bag H b) (e : GR.SameX b H H') : Dp K H' v (.tuple [.int t, .int c]) := by
  obtain ⟨a, rfl, ha⟩ := dp_two h
  exact dp_of2 (GR.SqT_x e hb.ex ha)
theorem Dp_addr_x {K : PySem.W.Frag} {H H' : Hp} {b : Addr} {v : V} {h n a t c : Int} (d : Dp K H v (addrD h n a t c)) (hb : GR.Bag H b) (e : GR.SameX b H H') : Dp K H' v (addrD h n a t c) := by
  obtain ⟨p, y, rfl, hp, dy⟩ := dp_addr d
  exact dp_ofA (GR.SqT_x e hb.ex hp) (Dp_x dy hb e)
theorem okLawPair : FnOk P w K mg bs CX0 3 T.fLawPair T.dLawPair ["_law_bag_here"] (spPair K) := by
  have GLawTake : FnOk P w K mg bs CX0 1 T.fLawTake T.dLawTake ["_law_bag_here", "_law_many"] spTake := okLawTake T
  have GLawPart : FnOk P w K mg bs CX0 2 T.fLawPart T.dLawPart ["_law_bag_here", "_law_most"] (spPart K) := okLawPart T
  have GLawHalf : FnOk P w K mg bs CX0 1 T.fLawHalf T.dLawHalf ["_law_part_here"] (spLHalf K) := okLawHalf T
  refine T.FLawPair.ok scLawPair (fun vs H Q E h => ?_) (fun cdv A outer s H vs Q E hr h => ?_)
  · obtain ⟨b, rfl, _⟩ := h
    rfl
  · obtain ⟨b, rfl, hb, q⟩ := h
    refine ⟨_, (pss_cons (ps_par3 (i := 1) (j := 2) (l := 3) (by rfl) scLawPair.nd rfl rfl rfl (by decide) (by decide) (by decide) rfl rfl rfl (pa_cons (pe_call GLawTake (hr.mono (by decide)) (by rfl) T.gLawTake T.FLawTake.kp T.bLawTake .nil pass0 (pa_cons (pv 0) (pa_cons pe_int pa_nil))) (pa_cons (pe_call GLawTake (hr.mono (by decide)) (by rfl) T.gLawTake T.FLawTake.kp T.bLawTake .nil pass0 (pa_cons (pv 0) (pa_cons pe_int pa_nil))) (pa_cons (pe_call GLawTake (hr.mono (by decide)) (by rfl) T.gLawTake T.FLawTake.kp T.bLawTake .nil pass0 (pa_cons (pv 0) (pa_cons pe_int pa_nil))) pa_nil))) (by rfl))
      (pss_cons (ps_par (i := 4) (j := 5) (by rfl) scLawPair.nd rfl rfl (by decide) rfl rfl (pa_cons (pe_call GLawPart (hr.mono (by decide)) (by rfl) T.gLawPart T.FLawPart.kp T.bLawPart .nil pass0 (pa_cons (pv 0) (pa_cons pe_int pa_nil))) (pa_cons (pe_call GLawPart (hr.mono (by decide)) (by rfl) T.gLawPart T.FLawPart.kp T.bLawPart .nil pass0 (pa_cons (pv 0) (pa_cons pe_int pa_nil))) pa_nil)) (by rfl))
      (pss_cons (ps_if (pt_cmpR op_eq (pe_call GLawTake (hr.mono (by decide)) (by rfl) T.gLawTake T.FLawTake.kp T.bLawTake .nil pass0 (pa_cons (pv 0) (pa_cons pe_int pa_nil))) pe_int (nomark _)) (pss_one (ps_ret (pe_tup (pa_cons (pe_tup (pa_cons (pv 1) (pa_cons (pv 2) (pa_cons (pv 3) (pa_cons (pe_call GLawHalf (hr.mono (by decide)) (by rfl) T.gLawHalf T.FLawHalf.kp T.bLawHalf .nil pass0 (pa_cons (pv 4) pa_nil)) pa_nil))))) (pa_cons (pe_tup (pa_cons (pv 1) (pa_cons (pv 2) (pa_cons (pv 3) (pa_cons (pe_call GLawHalf (hr.mono (by decide)) (by rfl) T.gLawHalf T.FLawHalf.kp T.bLawHalf .nil pass0 (pa_cons (pv 5) pa_nil)) pa_nil))))) pa_nil))))) pss_nil)
      (pss_cons (ps_set (i := 6) scLawPair.nd rfl (Or.inl rfl) (GR.pe_cut (pe_ix ix_list (pe_lst (pa_cons (pe_tup (pa_cons (pv 1) (pa_cons (pv 2) pa_nil))) (pa_cons (pe_tup (pa_cons (pe_call GLawTake (hr.mono (by decide)) (by rfl) T.gLawTake T.FLawTake.kp T.bLawTake .nil pass0 (pa_cons (pv 0) (pa_cons pe_int pa_nil))) (pa_cons (pe_call GLawTake (hr.mono (by decide)) (by rfl) T.gLawTake T.FLawTake.kp T.bLawTake .nil pass0 (pa_cons (pv 0) (pa_cons pe_int pa_nil))) pa_nil))) pa_nil))) (pe_call GLawTake (hr.mono (by decide)) (by rfl) T.gLawTake T.FLawTake.kp T.bLawTake .nil pass0 (pa_cons (pv 0) (pa_cons pe_int pa_nil))) (fun _ _ => rfl))))
      (pss_cons (ps_set (i := 7) scLawPair.nd rfl (Or.inl rfl) (GR.pe_cut (pe_op op_add (pe_op op_add (pe_op op_add (pv 3) pe_int) (pe_callTy call_int1 (by rfl) T.n_int (by decide +kernel) (pa_cons (pe_cmpR op_eq (pe_ix ix_tup (pv 6) pe_int (fun _ _ => rfl)) (pv 1) (nomark _)) pa_nil))) (pe_call GLawTake (hr.mono (by decide)) (by rfl) T.gLawTake T.FLawTake.kp T.bLawTake .nil pass0 (pa_cons (pv 0) (pa_cons pe_int pa_nil))))))
      (pss_cons (ps_set (i := 8) scLawPair.nd rfl (Or.inl rfl) (pe_lst (pa_cons (pe_tup (pa_cons (pv 1) (pa_cons (pv 2) (pa_cons (pv 3) (pa_cons (pv 4) pa_nil))))) (pa_cons (pe_op op_catT (pv 6) (pe_tup (pa_cons (pv 7) (pa_cons (pv 5) pa_nil)))) pa_nil))))
      (pss_one (ps_ret (GR.pe_cut (pe_ifExp (pt_cmpR op_eq (pe_call GLawTake (hr.mono (by decide)) (by rfl) T.gLawTake T.FLawTake.kp T.bLawTake .nil pass0 (pa_cons (pv 0) (pa_cons pe_int pa_nil))) pe_int (nomark _)) (pe_tup (pa_cons (pe_ix ix_list (pv 8) pe_int (fun _ _ => rfl)) (pa_cons (pe_ix ix_list (pv 8) pe_int (fun _ _ => rfl)) pa_nil))) (pe_tup (pa_cons (pe_ix ix_list (pv 8) pe_int (fun _ _ => rfl)) (pa_cons (pe_ix ix_list (pv 8) pe_int (fun _ _ => rfl)) pa_nil))))))))))))), ?_⟩
    -- house, number, age
    refine ⟨_, rfl, b, 6, rfl, hb, by decide, by decide, fun r1 H1 r10 r11 hb1 f1 => ?_⟩
    refine ⟨_, rfl, b, 40, rfl, hb1, by decide, by decide, fun r2 H2 r20 r21 hb2 f2 => ?_⟩
    refine ⟨_, rfl, b, 30, rfl, hb2, by decide, by decide, fun r3 H3 r30 r31 hb3 f3 => ⟨_, _, _, rfl, ?_⟩⟩
    -- part, other
    refine ⟨_, rfl, b, 40, rfl, hb3, by decide, fun H4 y t bt f4 hb4 dr dy => ?_⟩
    refine ⟨_, rfl, b, 40, rfl, hb4, by decide, fun H5 y2 u bu f5 hb5 dr2 dy2 => ⟨_, _, rfl, ?_⟩⟩
    have dy5 := Dp_x dy hb4 f5
    have fx : GR.SameX b H H5 := (((f1.x.trans f2.x).trans f3.x).trans f4).trans f5
    -- if take(bag, 2) == 0
    refine ⟨_, rfl, b, 2, rfl, hb5, by decide, by decide, fun r6 H6 r60 r61 hb6 f6 => ⟨rfl, _, rfl, ?_⟩⟩
    have dy6 := Dp_x dy5 hb5 f6.x
    have dy26 := Dp_x dy2 hb5 f6.x
    refine ite2 (fun e => ?_) (fun e => ?_)
    · -- halves of one slot
      refine ⟨_, rfl, _, rfl, _, rfl, _, rfl, y, t, bt, rfl, dy6, fun H7 z7 s7 dz7 => ⟨(by show 4 ≤ sizeLine; decide), fun p8 n8 => ?_⟩⟩
      have s8 := GR.same_upd (o := .tup [.int r1, .int r2, .int r3, z7]) n8
      refine ⟨_, rfl, _, rfl, _, rfl, _, rfl, y2, u, bu, rfl, GR.Dp_same (s7.trans s8) _ _ dy26, fun H9 z9 s9 dz9 => ⟨(by show 4 ≤ sizeLine; decide), fun p10 n10 => ?_⟩⟩
      have s10 := GR.same_upd (o := .tup [.int r1, .int r2, .int r3, z9]) n10
      refine ⟨(by show 2 ≤ sizeLine; decide), fun p11 n11 => ?_⟩
      have s11 := GR.same_upd (o := .tup [.ref p8, .ref p10]) n11
      obtain ⟨i, hi, e1, e2, po⟩ := half_ok dr
      obtain ⟨j, hj, e3, e4, po2⟩ := half_ok dr2
      have t1 := dr.t1
      have u1 := dr2.t1
      have tb := dr.tb
      have ub := dr2.tb
      rw [e2] at dz7
      rw [e4] at dz9
      rw [e1] at tb
      rw [e3] at ub
      have sall := (((s7.trans s8).trans s9).trans s10).trans s11
      have hb11 : GR.Bag (upd (upd H9 p10 (.tup [.int r1, .int r2, .int r3, z9])) p11 (.tup [.ref p8, .ref p10])) b := by
        obtain ⟨x, m, z, V⟩ := hb6
        exact ⟨x, m, sall _ _ z, V⟩
      refine q _ _ r1 r2 r3 t (i + 1) r1 r2 r3 u (j + 1) ((fx.trans f6.x).trans (.of sall)) hb11 ⟨⟨⟨by omega, by omega⟩, ⟨by omega, by omega⟩, ⟨by omega, by omega⟩, ⟨by omega, by omega⟩, ⟨by omega, by omega⟩, ⟨by omega, by omega⟩⟩, by omega, by omega, ⟨t1, ?_⟩, ⟨u1, ?_⟩, po, po2, fun _ => fit_half (by omega) tb (by omega) ub⟩ (.tup (.inl (.inl upd_same)) (.cons ?_ (.cons ?_ .nil)))
      · rw [Int.pow_succ]
        omega
      · rw [Int.pow_succ]
        omega
      · exact GR.Dp_same ((s9.trans s10).trans s11) _ _ (dp_ofA (.inl (.inl upd_same)) (GR.Dp_same s8 _ _ dz7))
      · exact GR.Dp_same s11 _ _ (dp_ofA (.inl (.inl upd_same)) (GR.Dp_same s10 _ _ dz9))
    · -- slots of unlike ages
      refine ⟨fun v H7 => ∃ p g m, v = .ref p ∧ SqT K H7 p [.int g, .int m] ∧ small g ∧ small m ∧ GR.SameX b H6 H7 ∧ GR.Bag H7 b, ?_, ?_⟩
      · refine ⟨_, rfl, _, rfl, (by show 2 ≤ sizeLine; decide), fun p7 n7 => ?_⟩
        have hb7 := bag_new (o := .tup [.int r1, .int r2]) hb6 n7
        refine ⟨_, rfl, b, 6, rfl, hb7, by decide, by decide, fun r8 H8 r80 r81 hb8 f8 => ?_⟩
        refine ⟨_, rfl, b, 40, rfl, hb8, by decide, by decide, fun r9 H9 r90 r91 hb9 f9 => ⟨(by show 2 ≤ sizeLine; decide), fun p10 n10 => ?_⟩⟩
        have hb10 := bag_new (o := .tup [.int r8, .int r9]) hb9 n10
        refine ⟨(by show 2 ≤ sizeLine; decide), fun p11 n11 => ?_⟩
        have hb11 := bag_new (o := .lst [.ref p7, .ref p10]) hb10 n11
        refine ⟨_, rfl, b, 2, rfl, hb11, by decide, by decide, fun r12 H12 r120 r121 hb12 f12 => ?_⟩
        have g10 : GR.SameX b H6 (upd H9 p10 (.tup [.int r8, .int r9])) := ((GR.SameX.new n7).trans (f8.x.trans f9.x)).trans (.new n10)
        have a7 : SqT K (upd H6 p7 (.tup [.int r1, .int r2])) p7 [.int r1, .int r2] := .inl (.inl upd_same)
        have a7' : SqT K H12 p7 [.int r1, .int r2] := GR.SqT_x f12.x hb11.ex (GR.SqT_same (GR.same_upd n11) (GR.SqT_same (GR.same_upd n10) (GR.SqT_x (f8.x.trans f9.x) hb7.ex a7)))
        have a10 : SqT K (upd H9 p10 (.tup [.int r8, .int r9])) p10 [.int r8, .int r9] := .inl (.inl upd_same)
        have a10' : SqT K H12 p10 [.int r8, .int r9] := GR.SqT_x f12.x hb11.ex (GR.SqT_same (GR.same_upd n11) a10)
        have nb11 : p11 ≠ b := by
          intro z
          subst z
          obtain ⟨_, _, z, _⟩ := hb10
          rw [n11] at z
          cases z
        have hl : H12 p11 = some (.lst [.ref p7, .ref p10]) := by rw [f12 _ nb11, upd_same]
        have c : r12 = 0 ∨ r12 = 1 := by omega
        rcases c with rfl | rfl
        · exact ⟨p11, _, _, _, rfl, rfl, SqL.of hl, atI_nat (j := 0) rfl, p7, r1, r2, rfl, a7', ⟨by omega, by omega⟩, ⟨by omega, by omega⟩, (g10.trans (.new n11)).trans f12.x, hb12⟩
        · exact ⟨p11, _, _, _, rfl, rfl, SqL.of hl, atI_nat (j := 1) rfl, p10, r8, r9, rfl, a10', ⟨by omega, by omega⟩, ⟨by omega, by omega⟩, (g10.trans (.new n11)).trans f12.x, hb12⟩
      rintro _ H7 ⟨ps, g, m, rfl, hps, sg, sm, f7, hb7⟩
      have dy7 := Dp_x dy6 hb6 f7
      have dy27 := Dp_x dy26 hb6 f7
      -- later = age + 1 + int(slot[0] == house) + take(bag, 30)
      refine ⟨fun v H8 => ∃ l : Int, v = .int l ∧ r3 < l ∧ l < 1000 ∧ GR.But b H7 H8 ∧ GR.Bag H8 b, ?_, ?_⟩
      · refine ⟨_, rfl, _, _, rfl, rfl, _, rfl, ps, _, _, _, rfl, rfl, hps, atI_nat (j := 0) rfl, _, rfl, rfl, .inr ⟨_, rfl, _, _, rfl, rfl, ?_⟩⟩
        refine ⟨_, rfl, b, 30, rfl, hb7, by decide, by decide, fun r8 H8 r80 r81 hb8 f8 => ⟨_, _, rfl, rfl, _, rfl, ?_, ?_, f8, hb8⟩⟩
        · split <;> omega
        · split <;> omega
      rintro _ H8 ⟨l, rfl, l1, l2, f8, hb8⟩
      have dy8 := Dp_x dy7 hb7 f8.x
      have dy28 := Dp_x dy27 hb7 f8.x
      have hps8 := GR.SqT_x f8.x hb7.ex hps
      -- both
      refine ⟨_, rfl, _, rfl, _, rfl, _, rfl, (by show 4 ≤ sizeLine; decide), fun p9 n9 => ?_⟩
      have s9 := GR.same_upd (o := .tup [.int r1, .int r2, .int r3, y]) n9
      refine ⟨_, rfl, _, rfl, _, rfl, (by show 2 ≤ sizeLine; decide), fun p10 n10 => ?_⟩
      have s10 := GR.same_upd (o := .tup [.int l, y2]) n10
      refine ⟨ps, p10, _, _, rfl, rfl, GR.SqT_same (s9.trans s10) hps8, .inl (.inl upd_same), by simp, (by show 4 ≤ sizeLine; decide), (fun z => nomatch z), fun _ p11 n11 => ?_⟩
      have s11 := GR.same_upd (o := .tup ([.int g, .int m] ++ [.int l, y2])) n11
      refine ⟨(by show 2 ≤ sizeLine; decide), fun p12 n12 => ?_⟩
      have s12 := GR.same_upd (o := .lst [.ref p9, .ref p11]) n12
      obtain ⟨i, hi, e1⟩ := dr.pw
      obtain ⟨j, hj, e3⟩ := dr2.pw
      have t1 := dr.t1
      have u1 := dr2.t1
      have tb := dr.tb
      have ub := dr2.tb
      have po := dr.ok
      have po2 := dr2.ok
      rw [e1] at tb po dy8
      rw [e3] at ub po2 dy28
      have sall := ((s9.trans s10).trans s11).trans s12
      have dA : Dp K (upd (upd (upd (upd H8 p9 (.tup [.int r1, .int r2, .int r3, y])) p10 (.tup [.int l, y2])) p11 (.tup ([.int g, .int m] ++ [.int l, y2]))) p12 (.lst [.ref p9, .ref p11])) (.ref p9) (addrD r1 r2 r3 t (2 ^ i)) :=
        GR.Dp_same ((s10.trans s11).trans s12) _ _ (dp_ofA (.inl (.inl upd_same)) (GR.Dp_same s9 _ _ dy8))
      have dB : Dp K (upd (upd (upd (upd H8 p9 (.tup [.int r1, .int r2, .int r3, y])) p10 (.tup [.int l, y2])) p11 (.tup ([.int g, .int m] ++ [.int l, y2]))) p12 (.lst [.ref p9, .ref p11])) (.ref p11) (addrD g m l u (2 ^ j)) :=
        GR.Dp_same s12 _ _ (dp_ofA (.inl (.inl upd_same)) (GR.Dp_same ((s9.trans s10).trans s11) _ _ dy28))
      have hb12 : GR.Bag (upd (upd (upd (upd H8 p9 (.tup [.int r1, .int r2, .int r3, y])) p10 (.tup [.int l, y2])) p11 (.tup ([.int g, .int m] ++ [.int l, y2]))) p12 (.lst [.ref p9, .ref p11])) b := by
        obtain ⟨x, mm, z, V⟩ := hb8
        exact ⟨x, mm, sall _ _ z, V⟩
      have hl : (upd (upd (upd (upd H8 p9 (.tup [.int r1, .int r2, .int r3, y])) p10 (.tup [.int l, y2])) p11 (.tup ([.int g, .int m] ++ [.int l, y2]))) p12 (.lst [.ref p9, .ref p11])) p12 = some (.lst [.ref p9, .ref p11]) := upd_same
      have fA : GR.SameX b H (upd (upd (upd (upd H8 p9 (.tup [.int r1, .int r2, .int r3, y])) p10 (.tup [.int l, y2])) p11 (.tup ([.int g, .int m] ++ [.int l, y2]))) p12 (.lst [.ref p9, .ref p11])) := (((fx.trans f6.x).trans f7).trans f8.x).trans (.of sall)
      revert dA dB hb12 hl fA
      generalize upd (upd (upd (upd H8 p9 (.tup [.int r1, .int r2, .int r3, y])) p10 (.tup [.int l, y2])) p11 (.tup ([.int g, .int m] ++ [.int l, y2]))) p12 (.lst [.ref p9, .ref p11]) = HZ
      intro dA dB hbZ hl fA
      -- return one way or the other
      refine ⟨fun v H9 => (∃ z, v = z ∧ Dp K H9 z (.tuple [addrD r1 r2 r3 t (2 ^ i), addrD g m l u (2 ^ j)]) ∧ GR.SameX b HZ H9 ∧ GR.Bag H9 b) ∨ (∃ z, v = z ∧ Dp K H9 z (.tuple [addrD g m l u (2 ^ j), addrD r1 r2 r3 t (2 ^ i)]) ∧ GR.SameX b HZ H9 ∧ GR.Bag H9 b), ?_, ?_⟩
      · refine ⟨_, rfl, b, 2, rfl, hbZ, by decide, by decide, fun r13 H13 r130 r131 hb13 f13 => ⟨rfl, _, rfl, ?_⟩⟩
        have nb12 : p12 ≠ b := by
          intro z
          subst z
          obtain ⟨_, _, z, _⟩ := hbZ
          rw [hl] at z
          cases z
        have hl13 : H13 p12 = some (.lst [.ref p9, .ref p11]) := by rw [f13 _ nb12, hl]
        have dA13 := Dp_addr_x dA hbZ f13.x
        have dB13 := Dp_addr_x dB hbZ f13.x
        refine ite2 (fun e => ?_) (fun e => ?_)
        · refine ⟨_, rfl, p12, _, _, _, rfl, rfl, SqL.of hl13, atI_nat (j := 0) rfl, _, rfl, p12, _, _, _, rfl, rfl, SqL.of hl13, atI_nat (j := 1) rfl, (by show 2 ≤ sizeLine; decide), fun p14 n14 => .inl ⟨_, rfl, ?_, f13.x.trans (.new n14), bag_new hb13 n14⟩⟩
          have s14 := GR.same_upd (o := .tup [.ref p9, .ref p11]) n14
          exact .tup (.inl (.inl upd_same)) (.cons (GR.Dp_same s14 _ _ dA13) (.cons (GR.Dp_same s14 _ _ dB13) .nil))
        · refine ⟨_, rfl, p12, _, _, _, rfl, rfl, SqL.of hl13, atI_nat (j := 1) rfl, _, rfl, p12, _, _, _, rfl, rfl, SqL.of hl13, atI_nat (j := 0) rfl, (by show 2 ≤ sizeLine; decide), fun p14 n14 => .inr ⟨_, rfl, ?_, f13.x.trans (.new n14), bag_new hb13 n14⟩⟩
          have s14 := GR.same_upd (o := .tup [.ref p11, .ref p9]) n14
          exact .tup (.inl (.inl upd_same)) (.cons (GR.Dp_same s14 _ _ dB13) (.cons (GR.Dp_same s14 _ _ dA13) .nil))
      rintro v H9 (⟨z, rfl, dz, f9, hb9⟩ | ⟨z, rfl, dz, f9, hb9⟩)
      · exact q _ _ r1 r2 r3 t i g m l u j (fA.trans f9) hb9 ⟨⟨⟨by omega, by omega⟩, ⟨by omega, by omega⟩, ⟨by omega, by omega⟩, sg, sm, ⟨by omega, by omega⟩⟩, by omega, by omega, ⟨t1, tb⟩, ⟨u1, ub⟩, po, po2, fun z => by omega⟩ dz
      · exact q _ _ g m l u j r1 r2 r3 t i (fA.trans f9) hb9 ⟨⟨sg, sm, ⟨by omega, by omega⟩, ⟨by omega, by omega⟩, ⟨by omega, by omega⟩, ⟨by omega, by omega⟩⟩, by omega, by omega, ⟨u1, ub⟩, ⟨t1, tb⟩, po2, po, fun z => by omega⟩ dz

def spLaw (K : PySem.W.Frag) : Sp := fun vs H Q _ => ∃ (a : Addr) (ns : List Int), vs = [.ref a] ∧ SqL K H a (ns.map V.int) ∧ ns.length ≤ 63 ∧
  (∀ z ∈ ns, Builtin.Int.intBits z ≤ 1048576) ∧ ∀ H', Q (.bl true) H'
theorem few (n : Nat) : ∃ k : Nat, k ≤ 6 ∧ (if (if ((n : Nat) : Int) < 6 then ((n : Nat) : Int) else 6) > 2 then (if ((n : Nat) : Int) < 6 then ((n : Nat) : Int) else 6) else 2) = (k : Int) := by
  by_cases h : ((n : Nat) : Int) < 6
  · rw [if_pos h]
    by_cases h2 : ((n : Nat) : Int) > 2
    · rw [if_pos h2]
      exact ⟨n, by omega, rfl⟩
    · rw [if_neg h2]
      exact ⟨2, by decide, rfl⟩
  · rw [if_neg h]
    exact ⟨6, by decide, rfl⟩
theorem int_show {i : Int} (h : i.natAbs < 2 ^ 1900) : (PyData.int i).showable = true := by
  show decide (i.natAbs.log2 < 1920) = true
  refine decide_eq_true ?_
  by_cases hz : i.natAbs = 0
  · rw [hz]; decide
  · exact (Nat.log2_lt hz).mpr (Nat.lt_of_lt_of_le h (Nat.pow_le_pow_right (by decide) (by decide)))
theorem big_of {i : Int} {k : Nat} (hk : k ≤ 1900) (h : i.natAbs < 2 ^ k) : i.natAbs < 2 ^ 1900 := Nat.lt_of_lt_of_le h (Nat.pow_le_pow_right (by decide) hk)
theorem addr_show {h n a t b : Int} (h1 : small h) (h2 : small n) (h3 : small a) (h4 : t.natAbs < 2 ^ 1900) (h5 : b.natAbs < 2 ^ 1900) : (addrD h n a t b).showable = true := by
  have sm : ∀ {z : Int}, small z → (PyData.int z).showable = true := fun {z} q => int_show (big_of (k := 10) (by decide) (by have := q.1; have := q.2; omega))
  have a1 := sm h1
  have a2 := sm h2
  have a3 := sm h3
  have a4 := int_show h4
  have a5 := int_show h5
  simp only [addrD, PyData.showable, PyData.showableAll] at *
  simp only [a1, a2, a3, a4, a5, Bool.and_true]
/-- what updated returns -/
def dueD (h n a t : Int) (i : Nat) (h2 n2 a2 u : Int) (j : Nat) : PyData :=
  if a = a2 then .tuple [addrD h n a (low (sumT t (2 ^ i) u (2 ^ j)) (max i j)).1 (low (sumT t (2 ^ i) u (2 ^ j)) (max i j)).2, .none]
  else if a < a2 then .tuple [addrD h2 n2 a2 u (2 ^ j), addrD h n a t (2 ^ i)] else .tuple [addrD h n a t (2 ^ i), addrD h2 n2 a2 u (2 ^ j)]
theorem pow_abs_lt {t : Int} {i k : Nat} (h1 : 1 ≤ t) (h2 : t ≤ 2 ^ i) (hk : i < k) : t.natAbs < 2 ^ k := by
  have e : ((2 : Int) ^ i) = ((2 ^ i : Nat) : Int) := by simp
  have := Nat.pow_lt_pow_right (show 1 < 2 by decide) hk
  rw [e] at h2
  omega
theorem sumT_abs {t u : Int} {i j : Nat} (h1 : 1 ≤ t) (h2 : t ≤ 2 ^ i) (h3 : 1 ≤ u) (h4 : u ≤ 2 ^ j) (hi : i ≤ 50) (hj : j ≤ 50) : (sumT t (2 ^ i) u (2 ^ j)).natAbs < 2 ^ 1900 := by
  unfold sumT
  rw [sumB_pow, pow_div (Nat.le_max_left _ _), pow_div (Nat.le_max_right _ _)]
  have k1 : ∀ (z : Int) (k m : Nat), m ≤ 50 → k ≤ 50 → 1 ≤ z → z ≤ 2 ^ k → 0 ≤ z * 2 ^ (m - k) ∧ z * 2 ^ (m - k) ≤ 2 ^ 100 := fun z k m hm hk h0 h1 => by
    have h2 : (0 : Int) ≤ 2 ^ (m - k) := Int.le_of_lt (Int.pow_pos (by decide))
    have h3 : z * 2 ^ (m - k) ≤ 2 ^ k * 2 ^ (m - k) := Int.mul_le_mul_of_nonneg_right h1 h2
    rw [← Int.pow_add] at h3
    refine ⟨Int.mul_nonneg (by omega) h2, Int.le_trans h3 ?_⟩
    have e1 : ((2 : Int) ^ (k + (m - k))) = ((2 ^ (k + (m - k)) : Nat) : Int) := by simp
    have := Nat.pow_le_pow_right (show 0 < 2 by decide) (show k + (m - k) ≤ 100 by omega)
    rw [e1]
    omega
  have a := k1 t i (max i j) (by omega) hi h1 h2
  have b := k1 u j (max i j) (by omega) hj h3 h4
  refine big_of (k := 102) (by decide) ?_
  omega
theorem due_show {h n a t i h2 n2 a2 u j} (p : PairOk h n a t i h2 n2 a2 u j) : (dueD h n a t i h2 n2 a2 u j).showable = true ∧ (dueD h n a t i h2 n2 a2 u j).depth ≤ 20 ∧ GR.cost (dueD h n a t i h2 n2 a2 u j) ≤ 1000000 := by
  obtain ⟨⟨s1, s2, s3, s4, s5, s6⟩, hi, hj, ⟨t1, t2⟩, ⟨u1, u2⟩, _, _, _⟩ := p
  have bt := big_of (k := 51) (by decide) (pow_abs_lt t1 t2 (show i < 51 by omega))
  have bu := big_of (k := 51) (by decide) (pow_abs_lt u1 u2 (show j < 51 by omega))
  have bp : ∀ k : Nat, k ≤ 100 → ((2 : Int) ^ k).natAbs < 2 ^ 1900 := fun k hk => by
    rw [abs_pow]
    exact Nat.pow_lt_pow_right (by decide) (by omega)
  have A := addr_show s1 s2 s3 bt (bp i (by omega))
  have B := addr_show s4 s5 s6 bu (bp j (by omega))
  unfold dueD
  split
  · obtain ⟨k, hk, ek⟩ := low_pow (max i j) (sumT t (2 ^ i) u (2 ^ j))
    have C : (addrD h n a (low (sumT t (2 ^ i) u (2 ^ j)) (max i j)).1 (low (sumT t (2 ^ i) u (2 ^ j)) (max i j)).2).showable = true :=
      addr_show s1 s2 s3 (Nat.lt_of_le_of_lt (low_abs _ _) (sumT_abs t1 t2 u1 u2 hi hj)) (by rw [ek]; exact bp k (by omega))
    refine ⟨?_, by simp [addrD, PyData.depth, PyData.depthAll], by simp [addrD, GR.cost, GR.costAll]⟩
    simp only [PyData.showable, PyData.showableAll, Bool.and_true]
    exact C
  · split
    · refine ⟨?_, by simp [addrD, PyData.depth, PyData.depthAll], by simp [addrD, GR.cost, GR.costAll]⟩
      simp only [PyData.showable, PyData.showableAll, Bool.and_true]
      rw [A, B]
      rfl
    · refine ⟨?_, by simp [addrD, PyData.depth, PyData.depthAll], by simp [addrD, GR.cost, GR.costAll]⟩
      simp only [PyData.showable, PyData.showableAll, Bool.and_true]
      rw [A, B]
      rfl
include T in
theorem okLaw {f : Addr} {fd : FuncData} (F : Fun K "law" "law" sLaw f fd) : GR.FnG P w K mg bs CX0 9 f fd ["_law_script"] (spLaw K) := by
  have GLawBag : FnOk P w K mg bs CX0 1 T.fLawBag T.dLawBag ["_law_script", "_law_at"] (spBag K) := okLawBag T
  have GLawPair : FnOk P w K mg bs CX0 3 T.fLawPair T.dLawPair ["_law_bag_here"] (spPair K) := okLawPair T
  have GLawPlus : FnOk P w K mg bs CX0 1 T.fLawPlus T.dLawPlus ["_law_one", "_law_other"] (spLPlus K) := okLawPlus T
  have GUpdated : FnOk P w K mg bs CX0 5 T.fUpdated T.dUpdated ["old", "new"] (spUpdated K) := okUpdated T
  refine GR.okG F scLaw (fun vs H Q E h => ?_) (fun cdv A outer s H vs Q E gd hr h => ?_)
  · obtain ⟨a, ns, rfl, _⟩ := h
    rfl
  · obtain ⟨a, ns, rfl, hS, hlen, hbits, q⟩ := h
    refine ⟨_, (pss_cons (ps_for PassesOwn.never rfl (pi_range1 (by rfl) T.n_range (pa_cons (pe_callB (call_max2 rfl) (by rfl) T.n_max (by decide +kernel) (pa_cons pe_int (pa_cons (pe_callB (call_min2 rfl) (by rfl) T.n_min (by decide +kernel) (pa_cons pe_int (pa_cons (pe_callB call_len_seq (by rfl) T.n_len PySem.boot_len (pa_cons (pv 0) pa_nil)) pa_nil))) pa_nil))) pa_nil)) (pg_name (i := 1) scLaw.nd rfl (Or.inl rfl))
      (pss_cons (ps_set (i := 2) scLaw.nd rfl (Or.inl rfl) (pe_call GLawBag (hr.mono (by decide)) (by rfl) T.gLawBag T.FLawBag.kp T.bLawBag .nil pass0 (pa_cons (pv 0) (pa_cons (pv 1) pa_nil))))
      (pss_one (ps_for PassesOwn.never rfl (pi_range1 (by rfl) T.n_range (pa_cons pe_int pa_nil)) (pg_name (i := 3) scLaw.nd rfl (Or.inl rfl))
      (pss_cons (ps_asg (pe_call GLawPair (hr.mono (by decide)) (by rfl) T.gLawPair T.FLawPair.kp T.bLawPair .nil pass0 (pa_cons (pv 2) pa_nil)) (pg_tup (by rfl) (pgs_cons (pg_name (i := 4) scLaw.nd rfl (Or.inl rfl)) (pgs_cons (pg_name (i := 5) scLaw.nd rfl (Or.inl rfl)) pgs_nil))))
      (pss_cons (ps_set (i := 6) scLaw.nd rfl (Or.inl rfl) (pe_tup (pa_cons (pe_op op_catT (pe_slice sl_tup (pv 4) po_none (po_some pe_int)) (pe_tup (pa_cons (pe_call GLawPlus (hr.mono (by decide)) (by rfl) T.gLawPlus T.FLawPlus.kp T.bLawPlus .nil pass0 (pa_cons (pe_ix ix_tup (pv 4) pe_int (fun _ _ => rfl)) (pa_cons (pe_ix ix_tup (pv 5) pe_int (fun _ _ => rfl)) pa_nil))) pa_nil))) (pa_cons pe_non pa_nil))))
      (pss_cons (GR.ps_cut (ps_if (pt_cmpR op_ne (pe_ix ix_tup (pv 4) pe_int (fun _ _ => rfl)) (pe_ix ix_tup (pv 5) pe_int (fun _ _ => rfl)) (nomark _)) (pss_one (ps_set (i := 6) scLaw.nd rfl (Or.inl rfl) (GR.pe_cut (pe_ifExp (pt_cmpR op_gt (pe_ix ix_tup (pv 5) pe_int (fun _ _ => rfl)) (pe_ix ix_tup (pv 4) pe_int (fun _ _ => rfl)) (nomark _)) (pe_tup (pa_cons (pv 5) (pa_cons (pv 4) pa_nil))) (pe_tup (pa_cons (pv 4) (pa_cons (pv 5) pa_nil))))))) pss_nil))
      (pss_one (ps_for PassesOwn.never rfl (pi_range1 (by rfl) T.n_range (pa_cons pe_int pa_nil)) (pg_name (i := 7) scLaw.nd rfl (Or.inl rfl))
      (pss_one (ps_if (pt_cmpR op_ne (pe_callB (GR.call_reprD hr gd) (by rfl) T.n_repr (by decide +kernel) (pa_cons (pe_call GUpdated (hr.mono (by decide)) (by rfl) T.gUpdated T.FUpdated.kp T.bUpdated .nil pass0 (pa_cons (pv 4) (pa_cons (pv 5) pa_nil))) pa_nil)) (pe_callB (GR.call_reprD hr gd) (by rfl) T.n_repr (by decide +kernel) (pa_cons (pv 6) pa_nil)) (nomark _)) (pss_one (ps_ret pe_bl)) pss_nil)))))))))))
      (pss_one (ps_ret pe_bl))), ?_⟩
    refine ⟨_, rfl, a, _, rfl, .inl hS, _, _, rfl, _, _, rfl, ?_⟩
    obtain ⟨k, hk, ek⟩ := few (ns.map V.int).length
    refine ⟨(k : Int), congrArg (fun z => [V.int z]) ek, by omega, by omega, ?_⟩
    refine for_range (lo := 0) (n := ((k : Nat) : Int).toNat) (fun i σ H1 => ∃ v1 v2 v3 v4 v5 v6 v7, σ = [some (.ref a), v1, v2, v3, v4, v5, v6, v7] ∧ Same H H1) ⟨_, _, _, _, _, _, _, rfl, Same.refl H⟩ ?_ ?_
    · rintro i σ H1 hi ⟨v1, v2, v3, v4, v5, v6, v7, rfl, s1⟩
      rw [Int.toNat_natCast] at hi
      refine ⟨_, rfl, _, rfl, a, ns, _, rfl, s1.seq hS, hlen, hbits, by omega, by omega, fun H2 b s2 nb hb => ?_⟩
      have nb0 : H b = none := s1.free nb
      -- for turn in range(4)
      refine ⟨4, rfl, by decide, by decide, ?_⟩
      refine for_range (lo := 0) (n := ((4 : Nat) : Int).toNat) (fun j σ H3 => ∃ w3 w4 w5 w6 w7, σ = [some (.ref a), some (.int (0 + (i : Nat))), some (.ref b), w3, w4, w5, w6, w7] ∧ GR.SameX b H2 H3 ∧ GR.Bag H3 b) ⟨_, _, _, _, _, rfl, .refl b H2, hb⟩ ?_ ?_
      · rintro tn σ H3 htn ⟨w3, w4, w5, w6, w7, rfl, f3, hb3⟩
        -- old, new = pair(bag)
        refine ⟨_, rfl, b, rfl, hb3, fun H4 z h n ag t i1 h2 n2 a2 u j1 f4 hb4 pk dz => ?_⟩
        obtain ⟨p, ox, nx, rfl, hp, dox, dnx⟩ : ∃ p ox nx, z = .ref p ∧ SqT K H4 p [ox, nx] ∧ Dp K H4 ox (addrD h n ag t (2 ^ i1)) ∧ Dp K H4 nx (addrD h2 n2 a2 u (2 ^ j1)) := by
          cases dz with
          | tup h1 h2 =>
            cases h2 with
            | cons d1 h2 =>
              cases h2 with
              | cons d2 h2 =>
                cases h2
                exact ⟨_, _, _, rfl, h1, d1, d2⟩
        refine ⟨p, _, rfl, hp, rfl, _, _, rfl, _, _, rfl, rfl, ?_⟩
        obtain ⟨po, y3, rfl, hpo, dy3⟩ := dp_addr dox
        obtain ⟨pn, z3, rfl, hpn, dz3⟩ := dp_addr dnx
        have t1 := pk.t1
        have u1 := pk.u1
        have bt := pow_abs_lt t1.1 t1.2 (show i1 < 51 by have := pk.hi; omega)
        have bu := pow_abs_lt u1.1 u1.2 (show j1 < 51 by have := pk.hj; omega)
        have bt' : t.natAbs < 2 ^ 1001 := Nat.lt_of_lt_of_le bt (Nat.pow_le_pow_right (by decide) (by decide))
        have bu' : u.natAbs < 2 ^ 1001 := Nat.lt_of_lt_of_le bu (Nat.pow_le_pow_right (by decide) (by decide))
        have hi1 := pk.hi
        have hj1 := pk.hj
        -- due = (old[:3] + (plus(old[3], new[3]),), None)
        refine ⟨_, rfl, 3, rfl, po, _, rfl, hpo, (by show ¬ ((0 : Nat) = 0 ∧ (3 : Nat) = 4); decide), fun p5 n5 => ?_⟩
        have s5 := GR.same_upd (o := .tup (cutV [.int h, .int n, .int ag, y3] none (some 3))) n5
        refine ⟨_, rfl, po, _, _, _, rfl, rfl, GR.SqT_same s5 hpo, atI_nat (j := 3) rfl, _, rfl, pn, _, _, _, rfl, rfl, GR.SqT_same s5 hpn, atI_nat (j := 3) rfl, y3, z3, t, i1, u, j1, rfl, GR.Dp_same s5 _ _ dy3, GR.Dp_same s5 _ _ dz3, by omega, by omega, bt', bu', fun H6 x6 s6 dx6 => ⟨(by show 1 ≤ sizeLine; decide), fun p7 n7 => ?_⟩⟩
        have s7 := GR.same_upd (o := .tup [x6]) n7
        have h5 : SqT K (upd H6 p7 (.tup [x6])) p5 [.int h, .int n, .int ag] := GR.SqT_same (s6.trans s7) (.inl (.inl upd_same))
        refine ⟨p5, p7, _, _, rfl, rfl, h5, .inl (.inl upd_same), by simp, (by show 4 ≤ sizeLine; decide), (fun z => nomatch z), fun _ p8 n8 => ?_⟩
        have s8 := GR.same_upd (o := .tup ([.int h, .int n, .int ag] ++ [x6])) n8
        refine ⟨(by show 2 ≤ sizeLine; decide), fun p9 n9 => ?_⟩
        have s9 := GR.same_upd (o := .tup [.ref p8, .non]) n9
        have sA := (((s5.trans s6).trans s7).trans s8).trans s9
        have dDue : Dp K (upd (upd (upd H6 p7 (.tup [x6])) p8 (.tup ([.int h, .int n, .int ag] ++ [x6]))) p9 (.tup [.ref p8, .non])) (.ref p9) (.tuple [addrD h n ag (low (sumT t (2 ^ i1) u (2 ^ j1)) (max i1 j1)).1 (low (sumT t (2 ^ i1) u (2 ^ j1)) (max i1 j1)).2, .none]) :=
          .tup (.inl (.inl upd_same)) (.cons (GR.Dp_same s9 _ _ (dp_ofA (.inl (.inl upd_same)) (GR.Dp_same (s7.trans s8) _ _ dx6))) (.cons .non .nil))
        have dO := GR.Dp_same sA _ _ dox
        have dN := GR.Dp_same sA _ _ dnx
        have hO := GR.SqT_same sA hpo
        have hN := GR.SqT_same sA hpn
        have hb9 : GR.Bag (upd (upd (upd H6 p7 (.tup [x6])) p8 (.tup ([.int h, .int n, .int ag] ++ [x6]))) p9 (.tup [.ref p8, .non])) b := by
          obtain ⟨x, m, e, V⟩ := hb4
          exact ⟨x, m, sA _ _ e, V⟩
        revert sA dDue dO dN hO hN hb9
        generalize upd (upd (upd H6 p7 (.tup [x6])) p8 (.tup ([.int h, .int n, .int ag] ++ [x6]))) p9 (.tup [.ref p8, .non]) = HA
        intro sA dDue dO dN hO hN hbA
        -- if old[2] != new[2]: due = ..
        refine ⟨fun σ' H' => ∃ dv, σ' = [some (.ref a), some (.int (0 + (i : Nat))), some (.ref b), some (.int (0 + (tn : Nat))), some (.ref po), some (.ref pn), some dv, w7] ∧ Same HA H' ∧ Dp K H' dv (dueD h n ag t i1 h2 n2 a2 u j1), ?_, ?_⟩
        · refine ⟨_, rfl, po, _, _, _, rfl, rfl, hO, atI_nat (j := 2) rfl, _, rfl, pn, _, _, _, rfl, rfl, hN, atI_nat (j := 2) rfl, rfl, _, rfl, ?_⟩
          by_cases e : ag = a2
          · rw [show (!decide (V.int ag = V.int a2)) = false by rw [e, decide_eq_true rfl]; rfl]
            refine iteF ?_
            refine ⟨_, rfl, Same.refl HA, ?_⟩
            unfold dueD
            rw [if_pos e]
            exact dDue
          · rw [show (!decide (V.int ag = V.int a2)) = true by rw [decide_eq_false (fun z => e (V.int.inj z))]; rfl]
            refine iteT ?_
            refine ⟨fun v H' => Same HA H' ∧ Dp K H' v (dueD h n ag t i1 h2 n2 a2 u j1), ?_, fun v H' ⟨z1, z2⟩ => ⟨v, rfl, z1, z2⟩⟩
            refine ⟨_, rfl, pn, _, _, _, rfl, rfl, hN, atI_nat (j := 2) rfl, _, rfl, po, _, _, _, rfl, rfl, hO, atI_nat (j := 2) rfl, _, _, rfl, rfl, _, rfl, ?_⟩
            refine ite2 (fun e2 => ?_) (fun e2 => ?_)
            · refine ⟨_, rfl, _, rfl, (by show 2 ≤ sizeLine; decide), fun p10 n10 => ⟨GR.same_upd n10, ?_⟩⟩
              have s10 := GR.same_upd (o := .tup [.ref pn, .ref po]) n10
              unfold dueD
              rw [if_neg e, if_pos (of_decide_eq_true e2)]
              exact .tup (.inl (.inl upd_same)) (.cons (GR.Dp_same s10 _ _ dN) (.cons (GR.Dp_same s10 _ _ dO) .nil))
            · refine ⟨_, rfl, _, rfl, (by show 2 ≤ sizeLine; decide), fun p10 n10 => ⟨GR.same_upd n10, ?_⟩⟩
              have s10 := GR.same_upd (o := .tup [.ref po, .ref pn]) n10
              unfold dueD
              rw [if_neg e, if_neg (fun z => e2 (decide_eq_true z))]
              exact .tup (.inl (.inl upd_same)) (.cons (GR.Dp_same s10 _ _ dO) (.cons (GR.Dp_same s10 _ _ dN) .nil))
        rintro _ HB ⟨dv, rfl, sB, dD⟩
        obtain ⟨hs, hdp, hct⟩ := due_show pk
        have fX : GR.SameX b H2 HB := (f3.trans f4).trans (.of (sA.trans sB))
        have hbB : GR.Bag HB b := by
          obtain ⟨x, m, e, V⟩ := hbA
          exact ⟨x, m, sB _ _ e, V⟩
        -- for again in range(2)
        refine ⟨2, rfl, by decide, by decide, ?_⟩
        refine for_range (lo := 0) (n := ((2 : Nat) : Int).toNat) (fun j σ H9 => ∃ w7, σ = [some (.ref a), some (.int (0 + (i : Nat))), some (.ref b), some (.int (0 + (tn : Nat))), some (.ref po), some (.ref pn), some dv, w7] ∧ Same HB H9) ⟨_, rfl, Same.refl HB⟩ ?_ ?_
        · rintro j σ HC hj ⟨w7', rfl, sC⟩
          have go : ∀ (HD : Hp) (z : V), Same HC HD → Dp K HD z (dueD h n ag t i1 h2 n2 a2 u j1) → _ := fun HD z sD dz =>
            (show _ from (⟨z, _, rfl, dz, hs, hdp, GR.repr_len dz hs hct, fun tx1 e1 => ⟨dv, rfl, dv, _, rfl, GR.Dp_same (sC.trans sD) _ _ dD, hs, hdp, GR.repr_len dD hs hct, fun tx2 e2 => ⟨rfl, _, rfl, iteNS (congrArg V.str (e1.trans e2.symm)) ⟨_, rfl, sC.trans sD⟩⟩⟩⟩ : tCB (GR.rRepr K) (tCons (tC z) tNil) [] HD fun x H1 => tCB (GR.rRepr K) (tCons (tVar 6) tNil) [some (.ref a), some (.int (0 + (i : Nat))), some (.ref b), some (.int (0 + (tn : Nat))), some (.ref po), some (.ref pn), some dv, some (.int (0 + (j : Nat)))] H1 fun y H2 => rNe x y H2 fun x H' => ∃ k, x = .bl k ∧ (if k = true then Q (.bl false) H' else ∃ w7, [some (.ref a), some (.int (0 + (i : Nat))), some (.ref b), some (.int (0 + (tn : Nat))), some (.ref po), some (.ref pn), some dv, some (V.int (0 + (j : Nat)))] = [some (.ref a), some (.int (0 + (i : Nat))), some (.ref b), some (.int (0 + (tn : Nat))), some (.ref po), some (.ref pn), some dv, w7] ∧ Same HB H')))
          have sAC := (sB.trans sC)
          refine ⟨_, rfl, _, rfl, .ref po, .ref pn, h, n, ag, t, i1, h2, n2, a2, u, j1, rfl, GR.Dp_same sAC _ _ dO, GR.Dp_same sAC _ _ dN, fun e HD z sD dz => go HD z sD ?_, fun e HD z sD dz => go HD z sD ?_, fun e => ⟨⟨by omega, by omega, pk.pt, pk.pu, bt', bu', pk.fit e⟩, fun HD z sD dz => go HD z sD ?_⟩⟩
          · unfold dueD
            rw [if_neg (by omega), if_pos e]
            exact dz
          · unfold dueD
            rw [if_neg (by omega), if_neg (by omega)]
            exact dz
          · unfold dueD
            rw [if_pos e]
            exact dz
        · rintro σ HC ⟨w7', rfl, sC⟩
          refine ⟨_, _, _, _, _, rfl, fX.trans (.of sC), ?_⟩
          obtain ⟨x, m, e, V⟩ := hbB
          exact ⟨x, m, sC _ _ e, V⟩
      · rintro σ H3 ⟨w3, w4, w5, w6, w7, rfl, f3, hb3⟩
        exact ⟨_, _, _, _, _, _, _, rfl, f3.same (s1.trans s2) nb0⟩
    · rintro σ H1 ⟨v1, v2, v3, v4, v5, v6, v7, rfl, s1⟩
      exact q H1
end
theorem all_mk {l : PySem.W.OpenLaw} {w : World} {K : PySem.W.Frag} {h : Heap} {mg : Str → Option Value} {fa : Addr}
    (X : K.In h) (G : h.Ns mainGlobals mg) (hfa : mg "law" = some (.ref fa))
    {f0 : Addr} {od0 an0 : Option Addr} {sl0 : Array (Option Value)} {oc0 kV0 dc0 pm0 cd0 ct0 : Value}
    {f1 : Addr} {od1 an1 : Option Addr} {sl1 : Array (Option Value)} {oc1 kV1 dc1 pm1 cd1 ct1 : Value}
    {f2 : Addr} {od2 an2 : Option Addr} {sl2 : Array (Option Value)} {oc2 kV2 dc2 pm2 cd2 ct2 : Value}
    {f3 : Addr} {od3 an3 : Option Addr} {sl3 : Array (Option Value)} {oc3 kV3 dc3 pm3 cd3 ct3 : Value}
    {f4 : Addr} {od4 an4 : Option Addr} {sl4 : Array (Option Value)} {oc4 kV4 dc4 pm4 cd4 ct4 : Value}
    {f5 : Addr} {od5 an5 : Option Addr} {sl5 : Array (Option Value)} {oc5 kV5 dc5 pm5 cd5 ct5 : Value}
    {f6 : Addr} {od6 an6 : Option Addr} {sl6 : Array (Option Value)} {oc6 kV6 dc6 pm6 cd6 ct6 : Value}
    {f7 : Addr} {od7 an7 : Option Addr} {sl7 : Array (Option Value)} {oc7 kV7 dc7 pm7 cd7 ct7 : Value}
    {f8 : Addr} {od8 an8 : Option Addr} {sl8 : Array (Option Value)} {oc8 kV8 dc8 pm8 cd8 ct8 : Value}
    {f9 : Addr} {od9 an9 : Option Addr} {sl9 : Array (Option Value)} {oc9 kV9 dc9 pm9 cd9 ct9 : Value}
    {f10 : Addr} {od10 an10 : Option Addr} {sl10 : Array (Option Value)} {oc10 kV10 dc10 pm10 cd10 ct10 : Value}
    {f11 : Addr} {od11 an11 : Option Addr} {sl11 : Array (Option Value)} {oc11 kV11 dc11 pm11 cd11 ct11 : Value}
    {f12 : Addr} {od12 an12 : Option Addr} {sl12 : Array (Option Value)} {oc12 kV12 dc12 pm12 cd12 ct12 : Value}
    {f13 : Addr} {od13 an13 : Option Addr} {sl13 : Array (Option Value)} {oc13 kV13 dc13 pm13 cd13 ct13 : Value}
    (a0 : PySem.W.nsIn K mainGlobals "is_whole" = some (some (.ref f0)))
    (l0 : K.lookup f0 = some ⟨oc0, od0, .func (PySem.W.fnOf "is_whole" "is_whole" (defArgs sIsWhole) (defBody sIsWhole) (defScope sIsWhole) .none kV0 dc0 pm0 an0 cd0 ct0), sl0⟩)
    (c0 : PySem.W.codeIn K cd0 "is_whole" = true)
    (k0 : PySem.W.keepIn K (.ref f0) = true)
    (a1 : PySem.W.nsIn K mainGlobals "is_power" = some (some (.ref f1)))
    (l1 : K.lookup f1 = some ⟨oc1, od1, .func (PySem.W.fnOf "is_power" "is_power" (defArgs sIsPower) (defBody sIsPower) (defScope sIsPower) .none kV1 dc1 pm1 an1 cd1 ct1), sl1⟩)
    (c1 : PySem.W.codeIn K cd1 "is_power" = true)
    (k1 : PySem.W.keepIn K (.ref f1) = true)
    (a2 : PySem.W.nsIn K mainGlobals "is_part" = some (some (.ref f2)))
    (l2 : K.lookup f2 = some ⟨oc2, od2, .func (PySem.W.fnOf "is_part" "is_part" (defArgs sIsPart) (defBody sIsPart) (defScope sIsPart) .none kV2 dc2 pm2 an2 cd2 ct2), sl2⟩)
    (c2 : PySem.W.codeIn K cd2 "is_part" = true)
    (k2 : PySem.W.keepIn K (.ref f2) = true)
    (a3 : PySem.W.nsIn K mainGlobals "look_part" = some (some (.ref f3)))
    (l3 : K.lookup f3 = some ⟨oc3, od3, .func (PySem.W.fnOf "look_part" "look_part" (defArgs sLookPart) (defBody sLookPart) (defScope sLookPart) .none kV3 dc3 pm3 an3 cd3 ct3), sl3⟩)
    (c3 : PySem.W.codeIn K cd3 "look_part" = true)
    (k3 : PySem.W.keepIn K (.ref f3) = true)
    (a4 : PySem.W.nsIn K mainGlobals "lowest" = some (some (.ref f4)))
    (l4 : K.lookup f4 = some ⟨oc4, od4, .func (PySem.W.fnOf "lowest" "lowest" (defArgs sLowest) (defBody sLowest) (defScope sLowest) .none kV4 dc4 pm4 an4 cd4 ct4), sl4⟩)
    (c4 : PySem.W.codeIn K cd4 "lowest" = true)
    (k4 : PySem.W.keepIn K (.ref f4) = true)
    (a5 : PySem.W.nsIn K mainGlobals "plus" = some (some (.ref f5)))
    (l5 : K.lookup f5 = some ⟨oc5, od5, .func (PySem.W.fnOf "plus" "plus" (defArgs sPlus) (defBody sPlus) (defScope sPlus) .none kV5 dc5 pm5 an5 cd5 ct5), sl5⟩)
    (c5 : PySem.W.codeIn K cd5 "plus" = true)
    (k5 : PySem.W.keepIn K (.ref f5) = true)
    (a6 : PySem.W.nsIn K mainGlobals "updated" = some (some (.ref f6)))
    (l6 : K.lookup f6 = some ⟨oc6, od6, .func (PySem.W.fnOf "updated" "updated" (defArgs sUpdated) (defBody sUpdated) (defScope sUpdated) .none kV6 dc6 pm6 an6 cd6 ct6), sl6⟩)
    (c6 : PySem.W.codeIn K cd6 "updated" = true)
    (k6 : PySem.W.keepIn K (.ref f6) = true)
    (a7 : PySem.W.nsIn K mainGlobals "_law_bag" = some (some (.ref f7)))
    (l7 : K.lookup f7 = some ⟨oc7, od7, .func (PySem.W.fnOf "_law_bag" "_law_bag" (defArgs sLawBag) (defBody sLawBag) (defScope sLawBag) .none kV7 dc7 pm7 an7 cd7 ct7), sl7⟩)
    (c7 : PySem.W.codeIn K cd7 "_law_bag" = true)
    (k7 : PySem.W.keepIn K (.ref f7) = true)
    (a8 : PySem.W.nsIn K mainGlobals "_law_take" = some (some (.ref f8)))
    (l8 : K.lookup f8 = some ⟨oc8, od8, .func (PySem.W.fnOf "_law_take" "_law_take" (defArgs sLawTake) (defBody sLawTake) (defScope sLawTake) .none kV8 dc8 pm8 an8 cd8 ct8), sl8⟩)
    (c8 : PySem.W.codeIn K cd8 "_law_take" = true)
    (k8 : PySem.W.keepIn K (.ref f8) = true)
    (a9 : PySem.W.nsIn K mainGlobals "_law_part" = some (some (.ref f9)))
    (l9 : K.lookup f9 = some ⟨oc9, od9, .func (PySem.W.fnOf "_law_part" "_law_part" (defArgs sLawPart) (defBody sLawPart) (defScope sLawPart) .none kV9 dc9 pm9 an9 cd9 ct9), sl9⟩)
    (c9 : PySem.W.codeIn K cd9 "_law_part" = true)
    (k9 : PySem.W.keepIn K (.ref f9) = true)
    (a10 : PySem.W.nsIn K mainGlobals "_law_plus" = some (some (.ref f10)))
    (l10 : K.lookup f10 = some ⟨oc10, od10, .func (PySem.W.fnOf "_law_plus" "_law_plus" (defArgs sLawPlus) (defBody sLawPlus) (defScope sLawPlus) .none kV10 dc10 pm10 an10 cd10 ct10), sl10⟩)
    (c10 : PySem.W.codeIn K cd10 "_law_plus" = true)
    (k10 : PySem.W.keepIn K (.ref f10) = true)
    (a11 : PySem.W.nsIn K mainGlobals "_law_half" = some (some (.ref f11)))
    (l11 : K.lookup f11 = some ⟨oc11, od11, .func (PySem.W.fnOf "_law_half" "_law_half" (defArgs sLawHalf) (defBody sLawHalf) (defScope sLawHalf) .none kV11 dc11 pm11 an11 cd11 ct11), sl11⟩)
    (c11 : PySem.W.codeIn K cd11 "_law_half" = true)
    (k11 : PySem.W.keepIn K (.ref f11) = true)
    (a12 : PySem.W.nsIn K mainGlobals "_law_pair" = some (some (.ref f12)))
    (l12 : K.lookup f12 = some ⟨oc12, od12, .func (PySem.W.fnOf "_law_pair" "_law_pair" (defArgs sLawPair) (defBody sLawPair) (defScope sLawPair) .none kV12 dc12 pm12 an12 cd12 ct12), sl12⟩)
    (c12 : PySem.W.codeIn K cd12 "_law_pair" = true)
    (k12 : PySem.W.keepIn K (.ref f12) = true)
    (a13 : PySem.W.nsIn K mainGlobals "law" = some (some (.ref f13)))
    (l13 : K.lookup f13 = some ⟨oc13, od13, .func (PySem.W.fnOf "law" "law" (defArgs sLaw) (defBody sLaw) (defScope sLaw) .none kV13 dc13 pm13 an13 cd13 ct13), sl13⟩)
    (c13 : PySem.W.codeIn K cd13 "law" = true)
    (k13 : PySem.W.keepIn K (.ref f13) = true)
    (z_isinstance : PySem.W.nsIn K mainGlobals "isinstance" = some none)
    (z_int : PySem.W.nsIn K mainGlobals "int" = some none)
    (z_bool : PySem.W.nsIn K mainGlobals "bool" = some none)
    (z_tuple : PySem.W.nsIn K mainGlobals "tuple" = some none)
    (z_len : PySem.W.nsIn K mainGlobals "len" = some none)
    (z_all : PySem.W.nsIn K mainGlobals "all" = some none)
    (z_max : PySem.W.nsIn K mainGlobals "max" = some none)
    (z_enumerate : PySem.W.nsIn K mainGlobals "enumerate" = some none)
    (z_abs : PySem.W.nsIn K mainGlobals "abs" = some none)
    (z_range : PySem.W.nsIn K mainGlobals "range" = some none)
    (z_min : PySem.W.nsIn K mainGlobals "min" = some none)
    (z_repr : PySem.W.nsIn K mainGlobals "repr" = some none)
    : ∃ fd : FuncData, (∀ (s : Shared) (v : Value), BindsTo s fd ⟨[v], []⟩ [("_law_script", v)]) ∧
      ∀ bs : Heap, K.In bs → bs.Ns mainGlobals mg → GR.FnG l.prog w K mg bs CX0 9 fa fd ["_law_script"] (spLaw K) := by
  have e := hfa.symm.trans (PySem.W.mg_of X G a13)
  cases e
  have F0 := fun_mk (st := sIsWhole) l0 c0 k0
  have b0 := F0.binds (ps := ["thing"]) fun _ _ _ _ _ _ us hl => match us, hl with | [_], _ => rfl
  have F1 := fun_mk (st := sIsPower) l1 c1 k1
  have b1 := F1.binds (ps := ["number"]) fun _ _ _ _ _ _ us hl => match us, hl with | [_], _ => rfl
  have F2 := fun_mk (st := sIsPart) l2 c2 k2
  have b2 := F2.binds (ps := ["thing"]) fun _ _ _ _ _ _ us hl => match us, hl with | [_], _ => rfl
  have F3 := fun_mk (st := sLookPart) l3 c3 k3
  have b3 := F3.binds (ps := ["thing"]) fun _ _ _ _ _ _ us hl => match us, hl with | [_], _ => rfl
  have F4 := fun_mk (st := sLowest) l4 c4 k4
  have b4 := F4.binds (ps := ["top", "bottom"]) fun _ _ _ _ _ _ us hl => match us, hl with | [_, _], _ => rfl
  have F5 := fun_mk (st := sPlus) l5 c5 k5
  have b5 := F5.binds (ps := ["one", "other"]) fun _ _ _ _ _ _ us hl => match us, hl with | [_, _], _ => rfl
  have F6 := fun_mk (st := sUpdated) l6 c6 k6
  have b6 := F6.binds (ps := ["old", "new"]) fun _ _ _ _ _ _ us hl => match us, hl with | [_, _], _ => rfl
  have F7 := fun_mk (st := sLawBag) l7 c7 k7
  have b7 := F7.binds (ps := ["_law_script", "_law_at"]) fun _ _ _ _ _ _ us hl => match us, hl with | [_, _], _ => rfl
  have F8 := fun_mk (st := sLawTake) l8 c8 k8
  have b8 := F8.binds (ps := ["_law_bag_here", "_law_many"]) fun _ _ _ _ _ _ us hl => match us, hl with | [_, _], _ => rfl
  have F9 := fun_mk (st := sLawPart) l9 c9 k9
  have b9 := F9.binds (ps := ["_law_bag_here", "_law_most"]) fun _ _ _ _ _ _ us hl => match us, hl with | [_, _], _ => rfl
  have F10 := fun_mk (st := sLawPlus) l10 c10 k10
  have b10 := F10.binds (ps := ["_law_one", "_law_other"]) fun _ _ _ _ _ _ us hl => match us, hl with | [_, _], _ => rfl
  have F11 := fun_mk (st := sLawHalf) l11 c11 k11
  have b11 := F11.binds (ps := ["_law_part_here"]) fun _ _ _ _ _ _ us hl => match us, hl with | [_], _ => rfl
  have F12 := fun_mk (st := sLawPair) l12 c12 k12
  have b12 := F12.binds (ps := ["_law_bag_here"]) fun _ _ _ _ _ _ us hl => match us, hl with | [_], _ => rfl
  have F13 := fun_mk (st := sLaw) l13 c13 k13
  have b13 := F13.binds (ps := ["_law_script"]) fun _ _ _ _ _ _ us hl => match us, hl with | [_], _ => rfl
  have T : Txt K mg := {
    fIsWhole := _,
    dIsWhole := _,
    FIsWhole := F0,
    bIsWhole := b0,
    gIsWhole := PySem.W.mg_of X G a0,
    fIsPower := _,
    dIsPower := _,
    FIsPower := F1,
    bIsPower := b1,
    gIsPower := PySem.W.mg_of X G a1,
    fIsPart := _,
    dIsPart := _,
    FIsPart := F2,
    bIsPart := b2,
    gIsPart := PySem.W.mg_of X G a2,
    fLookPart := _,
    dLookPart := _,
    FLookPart := F3,
    bLookPart := b3,
    gLookPart := PySem.W.mg_of X G a3,
    fLowest := _,
    dLowest := _,
    FLowest := F4,
    bLowest := b4,
    gLowest := PySem.W.mg_of X G a4,
    fPlus := _,
    dPlus := _,
    FPlus := F5,
    bPlus := b5,
    gPlus := PySem.W.mg_of X G a5,
    fUpdated := _,
    dUpdated := _,
    FUpdated := F6,
    bUpdated := b6,
    gUpdated := PySem.W.mg_of X G a6,
    fLawBag := _,
    dLawBag := _,
    FLawBag := F7,
    bLawBag := b7,
    gLawBag := PySem.W.mg_of X G a7,
    fLawTake := _,
    dLawTake := _,
    FLawTake := F8,
    bLawTake := b8,
    gLawTake := PySem.W.mg_of X G a8,
    fLawPart := _,
    dLawPart := _,
    FLawPart := F9,
    bLawPart := b9,
    gLawPart := PySem.W.mg_of X G a9,
    fLawPlus := _,
    dLawPlus := _,
    FLawPlus := F10,
    bLawPlus := b10,
    gLawPlus := PySem.W.mg_of X G a10,
    fLawHalf := _,
    dLawHalf := _,
    FLawHalf := F11,
    bLawHalf := b11,
    gLawHalf := PySem.W.mg_of X G a11,
    fLawPair := _,
    dLawPair := _,
    FLawPair := F12,
    bLawPair := b12,
    gLawPair := PySem.W.mg_of X G a12,
    fLaw := _,
    dLaw := _,
    FLaw := F13,
    bLaw := b13,
    gLaw := PySem.W.mg_of X G a13,
    n_isinstance := PySem.W.mg_none_of X G z_isinstance,
    n_int := PySem.W.mg_none_of X G z_int,
    n_bool := PySem.W.mg_none_of X G z_bool,
    n_tuple := PySem.W.mg_none_of X G z_tuple,
    n_len := PySem.W.mg_none_of X G z_len,
    n_all := PySem.W.mg_none_of X G z_all,
    n_max := PySem.W.mg_none_of X G z_max,
    n_enumerate := PySem.W.mg_none_of X G z_enumerate,
    n_abs := PySem.W.mg_none_of X G z_abs,
    n_range := PySem.W.mg_none_of X G z_range,
    n_min := PySem.W.mg_none_of X G z_min,
    n_repr := PySem.W.mg_none_of X G z_repr }
  exact ⟨PySem.W.fnOf "law" "law" (defArgs sLaw) (defBody sLaw) (defScope sLaw) .none kV13 dc13 pm13 an13 cd13 ct13, fun s v => .of_eq rfl, fun bs _ _ => okLaw T F13⟩
end K06
open PySem PySem.W PyProof.Rows
set_option maxRecDepth 100000 in
set_option maxHeartbeats 0 in
theorem PySem.Challenge.cw_trailparts_k06_addresses_updated_holds : PySem.Challenge.rw_trailparts_k06_addresses_updated.Holds := by
  w_on; o_law; k_head; (case hw => w_witness2)
  k_fill
  refine GR.walk_g (l := PySem.Challenge.rw_trailparts_k06_addresses_updated) (n := 63) (k := 9) (x := "_law_script") (sp := K06.spLaw) rfl (by decide) rfl ⟨rfl, by decide, by decide⟩ (fun w h Y => PySem.W.kIn_of Y) ?F (fun K H a ns hl hb _ hS => ⟨a, ns, rfl, hS, hl, hb, fun _ => rfl⟩)
  case F =>
    intro w mg fa h KX G hmg
    refine' K06.all_mk KX G hmg ?a0 ?l0 ?c0 ?k0 ?a1 ?l1 ?c1 ?k1 ?a2 ?l2 ?c2 ?k2 ?a3 ?l3 ?c3 ?k3 ?a4 ?l4 ?c4 ?k4 ?a5 ?l5 ?c5 ?k5 ?a6 ?l6 ?c6 ?k6 ?a7 ?l7 ?c7 ?k7 ?a8 ?l8 ?c8 ?k8 ?a9 ?l9 ?c9 ?k9 ?a10 ?l10 ?c10 ?k10 ?a11 ?l11 ?c11 ?k11 ?a12 ?l12 ?c12 ?k12 ?a13 ?l13 ?c13 ?k13 ?z_isinstance ?z_int ?z_bool ?z_tuple ?z_len ?z_all ?z_max ?z_enumerate ?z_abs ?z_range ?z_min ?z_repr
    (case a0 => k_is)
    (case l0 => k_is)
    (case c0 => k_is)
    (case k0 => k_is)
    (case a1 => k_is)
    (case l1 => k_is)
    (case c1 => k_is)
    (case k1 => k_is)
    (case a2 => k_is)
    (case l2 => k_is)
    (case c2 => k_is)
    (case k2 => k_is)
    (case a3 => k_is)
    (case l3 => k_is)
    (case c3 => k_is)
    (case k3 => k_is)
    (case a4 => k_is)
    (case l4 => k_is)
    (case c4 => k_is)
    (case k4 => k_is)
    (case a5 => k_is)
    (case l5 => k_is)
    (case c5 => k_is)
    (case k5 => k_is)
    (case a6 => k_is)
    (case l6 => k_is)
    (case c6 => k_is)
    (case k6 => k_is)
    (case a7 => k_is)
    (case l7 => k_is)
    (case c7 => k_is)
    (case k7 => k_is)
    (case a8 => k_is)
    (case l8 => k_is)
    (case c8 => k_is)
    (case k8 => k_is)
    (case a9 => k_is)
    (case l9 => k_is)
    (case c9 => k_is)
    (case k9 => k_is)
    (case a10 => k_is)
    (case l10 => k_is)
    (case c10 => k_is)
    (case k10 => k_is)
    (case a11 => k_is)
    (case l11 => k_is)
    (case c11 => k_is)
    (case k11 => k_is)
    (case a12 => k_is)
    (case l12 => k_is)
    (case c12 => k_is)
    (case k12 => k_is)
    (case a13 => k_is)
    (case l13 => k_is)
    (case c13 => k_is)
    (case k13 => k_is)
    (case z_isinstance => k_is)
    (case z_int => k_is)
    (case z_bool => k_is)
    (case z_tuple => k_is)
    (case z_len => k_is)
    (case z_all => k_is)
    (case z_max => k_is)
    (case z_enumerate => k_is)
    (case z_abs => k_is)
    (case z_range => k_is)
    (case z_min => k_is)
    (case z_repr => k_is)
