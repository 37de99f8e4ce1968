import PyProof.Rows.All
import Wide.All
import OpenK.AllK
import Wide.FinOn
import HandS.ForMost
import HandS.ForExc
import HandS.EndBits
import HandS.RaiseMore
import HandS.IsInst
import HandS.Wide
import PySem.Challenge.RW_trailparts_k05_addresses_split
set_option Elab.async false
set_option linter.all false
set_option maxRecDepth 100000
set_option maxHeartbeats 4000000
/-! # Calls that know that no repr is under way (guards empty) -/
namespace GR
open PySem PySem.Spec PyProof.Rows L2
/-- as FnOk, where nobody around is within a repr -/
structure FnG (P : Program) (w : World) (K : PySem.W.Frag) (mg : Str → Option Value) (bs : Heap) (CX : CXT)
    (k : Nat) (f : Addr) (fd : FuncData) (ps : List Str) (sp : Sp) : Prop where
  len : ∀ vs H Q E, sp vs H Q E → vs.length = ps.length
  run : ∀ (A : Around) (out : List Env) (s : Shared) (H : Hp) (ar : Args) (us : List Value) (vs : List V) (Q : VK) (E : XK),
    A.guards = some [] → Room k A → Env0 P w K mg bs A out s H → BindsTo s fd ar (ps.zip us) → Vals vs us → sp vs H Q E →
    codeAny (model P w) A (.call (.ref f) ar) (CR CX out P w H s Q E) s
section
variable {P : Program} {w : World} {K : PySem.W.Frag} {mg : Str → Option Value} {bs : Heap} {CX : CXT} {j k : Nat}
  {f : Addr} {fd : FuncData} {ps : List Str} {sp sp' : Sp}
theorem FnG.of (F : FnOk P w K mg bs CX k f fd ps sp) : FnG P w K mg bs CX k f fd ps sp :=
  ⟨F.len, fun A out s H ar us vs Q E _ => F.run A out s H ar us vs Q E⟩
theorem FnG.mono (F : FnG P w K mg bs CX j f fd ps sp) (h : j ≤ k) : FnG P w K mg bs CX k f fd ps sp :=
  ⟨F.len, fun A out s H ar us vs Q E g hr => F.run A out s H ar us vs Q E g (hr.mono h)⟩
/-- a def by its body -/
theorem fn_g {nm qual : Str} {params : Arguments} {body : List Stmt} {scope : Scope} {dV kV doc pm cdv ct oc : Value}
    {an od : Option Addr} {osl : Array (Option Value)} {N : List Str}
    (lk : K.lookup f = some ⟨oc, od, .func (PySem.W.fnOf nm qual params body scope dV kV doc pm an cdv ct), osl⟩)
    (hcd : PySem.W.codeIn K cdv qual = true) (S : FnScope N ps scope)
    (len : ∀ vs H Q E, sp vs H Q E → vs.length = ps.length)
    (hbody : ∀ (A : Around) (out : List Env) (s : Shared) (H : Hp) (vs : List V) (Q : VK) (E : XK), A.guards = some [] →
      Room k (A.deeper (envOfC qual scope s.heap.objs.size f cdv)) → sp vs H Q E →
      ∃ t, PSs (cxOf CX P w K mg bs N qual scope f cdv A out s H E) body t ∧
        t { nx := fun _ H' => Q .non H', rt := Q } (start N vs) H) :
    FnG P w K mg bs CX (k + 1) f (PySem.W.fnOf nm qual params body scope dV kV doc pm an cdv ct) ps sp := by
  refine ⟨len, fun A out s H ar us vs Q E hgd hr e0 hb r hsp => ?_⟩
  have hl := len _ _ _ _ hsp
  have KX : K.In s.heap := e0.mod.kin.keeps fun b o z => (e0.bs b o z).1
  have lim : s.heap.NoLimit := e0.mod.nolimit.keeps fun b o z => (e0.bs b o z).1
  have hkd : ∀ y ∈ ps.zip us, scope.names.lookup y.1 = some .local ∨
      (scope.names.lookup y.1 = some .cell ∧ ((cellsFrom (s.heap.objs.size + 1) scope.names []).lookup y.1).isSome = true) := fun ⟨n, v⟩ hy => by
    rcases S.par n (List.of_mem_zip hy).1 with z | z
    · exact .inl z
    · exact .inr ⟨z, PySem.W.cellsFrom_some _ _ _ (.inl z)⟩
  refine codeAny_call_function hr.depth (KX _ _ lk) rfl S.co S.gen rfl
    (PySem.W.codeRec_of KX hcd) (hb _ _ _ _ ?_)
  refine wpAny_newFunctionEnv_cells S.kind hkd fun ev hev s1 x => ?_
  subst hev
  refine ⟨lim.keeps x.toInCall.keep, codeAny_func ?_⟩
  obtain ⟨t, ht, hq⟩ := hbody A out s H vs Q E hgd (hr.deeper _) hsp
  have I : Inv (cxOf CX P w K mg bs N qual scope f cdv A out s H E) [] (start N vs) H s1 := inv_start S hr.hd e0 hl r x
  refine wpAny_mono (ht.run [] s1 (start N vs) H _ I hq) (fun fl s' hs => ?_) fun _ _ hs => hs
  have fin : ∀ {σ' : L2.St} {H' : Hp} {v : V} {u : Value},
      Inv (cxOf CX P w K mg bs N qual scope f cdv A out s H E) [] σ' H' s' → RelV v u → Q v H' → CE out P w H s Q u s' :=
    fun {σ' H' v u} J rv q => ⟨v, H', J.os, J.bare, J.base, J.hok, rv, q⟩
  cases fl with
  | ret u =>
    obtain ⟨v, _, _, J, rv, z⟩ := hs
    exact fin J rv z
  | next =>
    obtain ⟨_, _, J, z⟩ := hs
    exact fin (v := V.non) (u := Value.none) J rfl z
  | brk =>
    obtain ⟨_, _, _, z⟩ := hs
    exact z.elim
  | cont =>
    obtain ⟨_, _, _, z⟩ := hs
    exact z.elim
theorem okG {x qual : Str} {st : Stmt} {N : List Str} (F : Fun K x qual st f fd) (S : FnScope N ps (defScope st))
    (len : ∀ vs H Q E, sp vs H Q E → vs.length = ps.length)
    (hbody : ∀ (cdv : Value) (A : Around) (out : List Env) (s : Shared) (H : Hp) (vs : List V) (Q : VK) (E : XK), A.guards = some [] →
      Room k (A.deeper (envOfC qual (defScope st) s.heap.objs.size f cdv)) → sp vs H Q E →
      ∃ t, PSs (cxOf CX0 P w K mg bs N qual (defScope st) f cdv A out s H E).nox (defBody st) t ∧
        t { nx := fun _ H' => Q .non H', rt := Q } (start N vs) H) : FnG P w K mg bs CX0 (k + 1) f fd ps sp := by
  obtain ⟨oc, od, kV, doc, pm, an, cdv, ct, osl, rfl, lk, hcd⟩ := F.ex
  refine fn_g lk hcd S len fun A out s H vs Q E hg hr hsp => ?_
  obtain ⟨t, h, q⟩ := hbody cdv A out s H vs Q E hg hr hsp
  exact ⟨t, h.nox, q⟩
theorem okXG {x qual : Str} {st : Stmt} {N : List Str} (F : Fun K x qual st f fd) (S : FnScope N ps (defScope st))
    (len : ∀ vs H Q E, sp vs H Q E → vs.length = ps.length)
    (hbody : ∀ (cdv : Value) (A : Around) (out : List Env) (s : Shared) (H : Hp) (vs : List V) (Q : VK) (E : XK), A.guards = some [] →
      Room k (A.deeper (envOfC qual (defScope st) s.heap.objs.size f cdv)) → sp vs H Q E →
      ∃ t, PSs (cxOf (L2.CX P w) P w K mg bs N qual (defScope st) f cdv A out s H E) (defBody st) t ∧
        t { nx := fun _ H' => Q .non H', rt := Q } (start N vs) H) : FnG P w K mg bs (L2.CX P w) (k + 1) f fd ps sp := by
  obtain ⟨oc, od, kV, doc, pm, an, cdv, ct, osl, rfl, lk, hcd⟩ := F.ex
  exact fn_g lk hcd S len fun A out s H vs Q E hg hr hsp => hbody cdv A out s H vs Q E hg hr hsp
end
section
variable {X : Cx} {CX : CXT} {k : Nat} {f : Addr} {fd : FuncData} {ps : List Str} {sp : Sp} {dvs : List V} {ds : List Value}
  {E : XK} {x : Str} {p pos : Pos} {e : Expr} {es : List Expr} {t : TA}
theorem run_g {pins : List (Addr × Obj)} {σ : L2.St} {H : Hp} {s : Shared} {Q : VK} {us : List Value} {vs : List V}
    (F : FnG X.prog X.w X.K X.mg X.base CX k f fd ps sp) (gd : X.A.guards = some []) (hr : Room k X.A) (hb : Binds X.K fd ps ds)
    (hd : Vals dvs ds) (hx : Passes CX X E) (I : Inv X pins σ H s) (r : Vals vs us) (h : sp (vs ++ dvs) H Q E) :
    wpAny (model X.prog X.w) X.A (call (.ref f) us) (EP X pins σ Q) X.xe s := by
  have r2 : Vals (vs ++ dvs) (us ++ ds) := r.append hd
  have hl : (us ++ ds).length = ps.length := by rw [← r2.length]; exact F.len _ _ _ _ h
  refine wpAny_call (codeAny_mono (F.run X.A X.stack s H ⟨us, []⟩ (us ++ ds) (vs ++ dvs) Q E gd hr I.env0
    (hb s us I.kIn hl) r2 h) fun r s' hq => ?_)
  cases r with
  | error e => exact hx pins σ H s e s' I hq
  | ok fl =>
    cases fl with
    | ret u => exact I.after hq
    | next => exact hq.elim
    | brk => exact hq.elim
    | cont => exact hq.elim
/-- f(e, ..) -/
theorem pe_callG (F : FnG X.prog X.w X.K X.mg X.base CX k f fd ps sp) (gd : X.A.guards = some []) (hr : Room k X.A) (hg : Gl X x)
    (hm : X.mg x = some (.ref f)) (hk : PySem.W.keepIn X.K (.ref f) = true) (hb : Binds X.K fd ps ds) (hd : Vals dvs ds) (hx : Passes CX X E)
    (ha : PA X (e :: es) t) (hdb : (x == ("__debug__" : Str)) = false := by decide)
    (he : starEach (e :: es) X.env = (false, eval e X.env) :: starEach es X.env := by rfl)
    (hpl : (backTo pos (starEach es X.env)).any (·.1) = false := by rfl) :
    PE X (.Call (.Name x p) (e :: es) [] pos) (tCall sp dvs E t) := by
  refine ⟨fun pins s σ H Q I h => ?_⟩
  refine wpAny_Call_Name_kw (ld_glob I hg hm ?_ hdb)
  refine PySem.W.callWith_K (h₀ := X.base) I.ok.mod.kin hk (thn (ha.run pos pins s σ H _ I h)
    fun us s1 ⟨vs, H1, I1, r, q⟩ => ⟨I1.kIn, ?_⟩) he hpl
  exact run_g F gd hr hb hd hx I1 r q
end
/-! ## repr of data -/
section
variable {X : Cx}
mutual
theorem Dp_noDict {K : PySem.W.Frag} {H : Hp} : ∀ (d : PyData) (v : V), Dp K H v d → d.hasDict = false
  | .none, _, _ => rfl
  | .bool _, _, _ => rfl
  | .int _, _, _ => rfl
  | .str _, _, _ => rfl
  | .list ds, _, .lst _ h => by simpa only [PyData.hasDict] using DpAll_noDict ds _ h
  | .tuple ds, _, .tup _ h => by simpa only [PyData.hasDict] using DpAll_noDict ds _ h
  | .dict _, _, h => by cases h
theorem DpAll_noDict {K : PySem.W.Frag} {H : Hp} : ∀ (ds : List PyData) (vs : List V), DpAll K H vs ds → PyData.hasDictAll ds = false
  | [], _, _ => rfl
  | d :: ds, _, .cons h1 h2 => by rw [PyData.hasDictAll, Dp_noDict d _ h1, DpAll_noDict ds _ h2]; rfl
end
/-- repr(x), x data (Dp): its text -/
def rRepr (K : PySem.W.Frag) : List V → Hp → VK → Prop := fun xs H Q => ∃ x d, xs = [x] ∧ Dp K H x d ∧ d.showable = true ∧
  d.depth ≤ 20 ∧ d.shown.length ≤ sizeLine ∧ ∀ tx, tx = d.shown → Q (.str tx) H
theorem call_reprD {k : Nat} (hr : Room k X.A) (gd : X.A.guards = some []) : CallR X (.builtin "repr") (rRepr X.K) := by
  intro pins s σ H xs us Q I r h
  obtain ⟨x, d, rfl, hd, hs, hdp, hl, q0⟩ := h
  have q := q0 d.shown rfl
  cases r with
  | cons r1 r2 =>
    cases r2
    rename_i u
    cases hd with
    | non =>
      obtain rfl : u = Value.none := r1
      exact PySem.P.repr_of_none ⟨.str _, H, I.tok _, ⟨_, rfl⟩, q⟩
    | bl b =>
      obtain rfl : u = Value.bool b := r1
      exact PySem.P.repr_of_bool ⟨.str _, H, I.tok _, ⟨_, rfl⟩, q⟩
    | int i =>
      obtain ⟨t, rfl⟩ := r1
      exact PySem.P.repr_of_int (by simpa [PyData.showable] using hs) ⟨.str _, H, I.tok _, ⟨_, rfl⟩, q⟩
    | str z =>
      obtain ⟨t, rfl⟩ := r1
      exact PySem.P.repr_of_str ⟨.str _, H, I.tok _, ⟨_, rfl⟩, q⟩ hl
    | @lst a xs ds h1 h2 =>
      obtain ⟨as, rd⟩ := Dp.reads I _ _ _ (.lst h1 h2) r1
      cases (show u = Value.ref a from r1)
      have hu := hr.un
      refine repr_of_reads' rd hs (PyData.noDict_hsm ?_) gd (by omega) (fun _ _ z => z) (fun h' u tk hk => ?_) hl
      · exact Dp_noDict _ _ (.lst h1 h2)
      · exact ⟨.str _, H, I.kept hk, ⟨_, rfl⟩, q⟩
    | @tup a xs ds h1 h2 =>
      obtain ⟨as, rd⟩ := Dp.reads I _ _ _ (.tup h1 h2) r1
      cases (show u = Value.ref a from r1)
      have hu := hr.un
      refine repr_of_reads' rd hs (PyData.noDict_hsm ?_) gd (by omega) (fun _ _ z => z) (fun h' u tk hk => ?_) hl
      · exact Dp_noDict _ _ (.tup h1 h2)
      · exact ⟨.str _, H, I.kept hk, ⟨_, rfl⟩, q⟩
end
/-! ## the law's own call -/
theorem law_callG {P : Program} {w : World} {K : PySem.W.Frag} {mg mb : Str → Option Value} {CX : CXT} {k : Nat} {fa a : Addr}
    {fd : FuncData} {x : Str} {sp : Sp} {s1 : Shared} {vs : List Value} {ns : List Int} (KX : K.In s1.heap)
    (hns : s1.heap.Ns mainGlobals mg) (hb : s1.heap.Ns builtinsNs mb) (hbb : ∀ x : Str, x ≠ "__name__" → mb x = bootBuiltins x)
    (hlim : s1.heap.NoLimit) (hg : s1.gens = #[]) (ha : s1.heap.get? a = some { cls := .type "list", data := .seq vs.toArray })
    (hi : IntsAre vs ns) (hl : ns.length ≤ sizeLine) (hr : Room k callerA)
    (F : ∀ bs : Heap, K.In bs → bs.Ns mainGlobals mg → FnG P w K mg bs CX k fa fd [x] sp)
    (hbind : ∀ (s : Shared) (u : Value), BindsTo s fd ⟨[u], []⟩ [(x, u)])
    (hsp : ∀ H : Hp, Only H → SqL K H a (ns.map V.int) → sp [.ref a] H (fun v _ => v = .bl true) fun _ _ _ => False)
    (hCX : ∀ H e s', CX [] H s1 (fun _ _ _ => False) e s' → False) :
    codeAny (model P w) callerA (.call (.ref fa) ⟨[.ref a], []⟩)
      (fun r s' => r = .ok (.ret (.bool true)) ∧ OldK s1.heap s'.heap ∧ s'.os = s1.os ∧ AllBare s'.gens) s1 := by
  have rv := vals_ints hi
  have lenV := hi.length
  have core : ∀ H : Hp, Only H → SqL K H a (ns.map V.int) → HOk P w H s1.heap → (∀ b, H b ≠ none → b = a) →
      (H a ≠ none → K.lookup a = none) → codeAny (model P w) callerA (.call (.ref fa) ⟨[.ref a], []⟩)
      (fun r s' => r = .ok (.ret (.bool true)) ∧ OldK s1.heap s'.heap ∧ s'.os = s1.os ∧ AllBare s'.gens) s1 := by
    intro H hO hS hok hA hK
    have bof : ∀ {b : Addr} {o : Obj}, s1.heap.get? b = some o → H b = none → (hidT s1.heap H).get? b = some o := fun z n => hidT_get z n
    have noA : ∀ {b : Addr} {o : Obj} {es : Array DictEntry} {ep : Nat}, s1.heap.get? b = some o → o.data = .dict es ep → H b = none := by
      intro b o es ep z d
      cases q : H b with
      | none => rfl
      | some u =>
        have z' : b = a := hA b (by rw [q]; simp)
        subst z'
        rw [ha] at z; cases z
        have d' : Data.seq vs.toArray _ = Data.dict es ep := d
        cases d'
    have nsK : ∀ {b : Addr} {m : Str → Option Value}, s1.heap.Ns b m → (hidT s1.heap H).Ns b m :=
      fun {b m} ⟨o, es, ep, z, d, r⟩ => ⟨o, es, ep, bof z (noA z d), d, r⟩
    have hKb : K.In (hidT s1.heap H) := fun b o z => bof (KX b o z) (by
      cases q : H b with
      | none => rfl
      | some u =>
        have z' : b = a := hA b (by rw [q]; simp)
        subst z'
        rw [hK (by rw [q]; simp)] at z; cases z)
    have hM : Mod K mg (hidT s1.heap H) := ⟨hKb, nsK hns, ⟨mb, nsK hb, hbb⟩, let ⟨mc, y1, y2⟩ := hlim; ⟨mc, nsK y1, y2⟩⟩
    have e0 : Env0 P w K mg (hidT s1.heap H) callerA [] s1 H := ⟨rfl, hM, fun b o z => of_hidT z,
      Nat.le_of_eq (hidT_size _ _), trivial, fun b hb => absurd (show b ∈ ([] : List Addr) from hb) (by simp), hok, .of_eq hg⟩
    refine codeAny_mono ((F _ hKb (nsK hns)).run callerA [] s1 H ⟨[.ref a], []⟩ [.ref a] [.ref a] _ _ rfl hr e0
      (hbind s1 (.ref a)) (.cons rfl .nil) (hsp H hO hS)) fun r s' h => ?_
    cases r with
    | error e => exact (hCX H e s' h).elim
    | ok fl =>
      cases fl with
      | next => exact h.elim
      | brk => exact h.elim
      | cont => exact h.elim
      | ret u =>
        obtain ⟨v, H', os, bare, un, hok', r', q⟩ := h
        have q' : v = .bl true := q
        subst q'
        obtain rfl : u = Value.bool true := r'
        refine ⟨rfl, OldK.of_keep fun b o z => ?_, os, bare⟩
        cases q : H b with
        | none => exact un.keep b o z q (by intro y; exact absurd (show b ∈ ([] : List Addr) from y) (by simp)) (by simp)
        | some u =>
          rcases hO b with y | ⟨ob, xs, y⟩
          · rw [q] at y; cases y
          · have y2 := un.frzs b ob _ y
            obtain ⟨y3, _⟩ := hok b _ y
            obtain ⟨y4, _⟩ := hok' b _ y2
            rw [z] at y3; cases y3
            exact y4
  cases hk : K.lookup a with
  | some o =>
    have z := KX a o hk
    rw [ha] at z
    cases z
    refine core (fun _ => none) (fun _ => .inl rfl) (.inr ⟨_, vs.toArray, _, hk, rfl, rfl, rfl, by rw [List.size_toArray, lenV]; exact hl,
      by simpa using rv⟩) (fun b u z => by have z' : (none : Option HO) = some u := z; cases z') (fun b z => absurd rfl z) fun z => absurd rfl z
  | none =>
    refine core (fun b => if b = a then some (.frz { cls := .type "list", data := .seq vs.toArray } (.lst (ns.map V.int))) else none)
      (fun b => ?_) (.inl (.inr ⟨{ cls := .type "list", data := .seq vs.toArray }, if_pos rfl⟩)) (fun b u z => ?_) (fun b z => ?_) fun _ => hk
    · by_cases hb : b = a
      · exact .inr ⟨_, _, if_pos hb⟩
      · exact .inl (if_neg hb)
    · by_cases hb : b = a
      · have z' := (if_pos hb).symm.trans z
        cases z'
        subst hb
        exact ⟨ha, by rw [List.length_map]; exact hl, vs, _, rv, ha⟩
      · have z' := (if_neg hb).symm.trans z
        cases z'
    · by_cases hb : b = a
      · exact hb
      · exact absurd (if_neg hb) z
/-- the goal that the head leaves, from the law's promise; the script's bits are told -/
theorem walk_g {l : PySem.W.OpenLaw} {n k : Nat} {q : Program} {loose : List Str} {XP : (Str → Option Value) → Heap → Prop}
    {YP : World → Heap → Prop} {d : DefRec} {K : Params → PySem.W.Frag} {sp : PySem.W.Frag → Sp} {x : Str}
    (hn : l.most = some n) (hn2 : n ≤ sizeLine) (hdf : d.params.defaults = []) (hr : Room k callerA)
    (hY : ∀ (w : World) (h : Heap), YP w h → (K w.params).In h)
    (F : ∀ (w : World) (mg : Str → Option Value) (fa : Addr) (h : Heap), (K w.params).In h → h.Ns mainGlobals mg → mg d.name = some (.ref fa) →
      ∃ fd : FuncData, (∀ (s : Shared) (u : Value), BindsTo s fd ⟨[u], []⟩ [(x, u)]) ∧
        ∀ bs : Heap, (K w.params).In bs → bs.Ns mainGlobals mg → FnG l.prog w (K w.params) mg bs CX0 k fa fd [x] (sp (K w.params)))
    (hsp : ∀ (K : PySem.W.Frag) (H : Hp) (a : Addr) (ns : List Int), ns.length ≤ n → (∀ z ∈ ns, Builtin.Int.intBits z ≤ 1048576) →
      Only H → SqL K H a (ns.map V.int) → sp K [.ref a] H (fun v _ => v = .bl true) fun _ _ _ => False) :
    PySem.W.WalkO q loose XP YP l.row.toRowW d [] (fun f vs => PySem.call f vs) := by
  refine Att.attach_callB hn hdf fun w s0 s1 mg mb fa o pm cd doc a vs ns G Y ho hd hcd hmg hobj hints hlen hbits hg => ?_
  have KX := hY w _ Y
  obtain ⟨fd, hb, hF⟩ := F w mg fa _ KX G.T.g hmg
  exact law_callG KX G.T.g G.T.b G.T.builtins G.T.nolimit hg hobj hints (Nat.le_trans hlen hn2) hr hF hb
    (fun H hO hS => hsp (K w.params) H a ns hlen hbits hO hS) fun H e s' z => z
end GR

namespace GR
open PySem PySem.Spec L2
/-! ## data stays when nothing tracked changes -/
theorem SqL_same {K : PySem.W.Frag} {H H' : Hp} {a : Addr} {xs : List V} (e : Same H H') (h : SqL K H a xs) : SqL K H' a xs := e.seq h
theorem SqT_same {K : PySem.W.Frag} {H H' : Hp} {a : Addr} {xs : List V} (e : Same H H') (h : SqT K H a xs) : SqT K H' a xs := by
  rcases h with (h | ⟨o, h⟩) | h
  · exact .inl (.inl (e _ _ h))
  · exact .inl (.inr ⟨o, e _ _ h⟩)
  · exact .inr h
mutual
theorem Dp_same {K : PySem.W.Frag} {H H' : Hp} (e : Same H H') : ∀ (d : PyData) (v : V), Dp K H v d → Dp K H' v d
  | _, _, .non => .non
  | _, _, .bl b => .bl b
  | _, _, .int i => .int i
  | _, _, .str x => .str x
  | .list ds, _, .lst h1 h2 => .lst (SqL_same e h1) (DpAll_same e ds _ h2)
  | .tuple ds, _, .tup h1 h2 => .tup (SqT_same e h1) (DpAll_same e ds _ h2)
theorem DpAll_same {K : PySem.W.Frag} {H H' : Hp} (e : Same H H') : ∀ (ds : List PyData) (vs : List V), DpAll K H vs ds → DpAll K H' vs ds
  | [], _, .nil => .nil
  | d :: ds, _, .cons h1 h2 => .cons (Dp_same e d _ h1) (DpAll_same e ds _ h2)
end
theorem same_upd {H : Hp} {p : Addr} {o : HO} (h : H p = none) : Same H (upd H p o) := fun b x e => by
  rw [upd_ne (ne_of_none e h)]
  exact e
/-- the class of data -/
def tyName : PyData → String
  | .none => "NoneType"
  | .bool _ => "bool"
  | .int _ => "int"
  | .str _ => "str"
  | .list _ => "list"
  | .tuple _ => "tuple"
  | .dict _ => "dict"
theorem SqT_ty {K : PySem.W.Frag} {H : Hp} {a : Addr} {xs : List V} (h : SqT K H a xs) : TyX K H (.ref a) (.type "tuple") := by
  rcases h with (h | ⟨o, h⟩) | ⟨o, its, n, h1, h2, _⟩
  · exact .base (.tup h)
  · exact .fTuple h
  · exact .kTuple h1 h2
theorem SqL_ty {K : PySem.W.Frag} {H : Hp} {a : Addr} {xs : List V} (h : SqL K H a xs) : TyX K H (.ref a) (.type "list") := by
  rcases h with (h | ⟨o, h⟩) | ⟨o, its, n, h1, h2, _⟩
  · exact .base (.lst h)
  · exact .base (.frz h)
  · exact .kList h1 h2
theorem Dp_ty {K : PySem.W.Frag} {H : Hp} : ∀ {d : PyData} {v : V}, Dp K H v d → TyX K H v (.type (tyName d))
  | _, _, .non => .base .non
  | _, _, .bl b => .base (.bl b)
  | _, _, .int i => .base (.int i)
  | _, _, .str x => .base (.str x)
  | _, _, .lst h _ => SqL_ty h
  | _, _, .tup h _ => SqT_ty h
/-! ## how long a repr is -/
mutual
def cost : PyData → Nat
  | .none => 4
  | .bool _ => 5
  | .int _ => 1921
  | .str x => (reprText x).length
  | .list xs => costAll xs + 4
  | .tuple xs => costAll xs + 4
  | .dict _ => 0
def costAll : List PyData → Nat
  | [] => 0
  | x :: xs => cost x + 2 + costAll xs
end
theorem textFrom_cost : ∀ (ts : List Str) (k : Nat) (acc : Str), (textFrom k acc ts).length ≤ acc.length + (ts.map (·.length + 2)).sum
  | [], k, acc => by show acc.length ≤ acc.length + 0; omega
  | t :: r, k, acc => by
    have ih := textFrom_cost r (k + 1) (acc ++ (if k > 0 then ", " else "" : String) ++ t)
    have e : (acc ++ (if k > 0 then ", " else "" : String) ++ t).length = acc.length + (if k > 0 then 2 else 0) + t.length := by
      rw [strLen_append, strLen_append]
      split <;> rfl
    rw [e] at ih
    show (textFrom (k + 1) (acc ++ (if k > 0 then ", " else "" : String) ++ t) r).length ≤ _
    rw [List.map_cons, List.sum_cons]
    have z : (if k > 0 then 2 else 0) ≤ 2 := by split <;> omega
    omega
theorem join_cost : ∀ ts : List Str, (Str.join ", " ts).length ≤ (ts.map (·.length + 2)).sum
  | [] => Nat.zero_le _
  | [x] => by show x.length ≤ _; simp
  | x :: y :: r => by
    have ih := join_cost (y :: r)
    show (x ++ ", " ++ Str.join ", " (y :: r)).length ≤ _
    have e2 : ((", " : String) : Str).length = 2 := rfl
    rw [strLen_append, strLen_append, e2, List.map_cons, List.sum_cons]
    omega
theorem tup_cost (ts : List Str) : (tupleText ts).length ≤ (ts.map (·.length + 2)).sum + 4 := by
  unfold tupleText
  have h := join_cost ts
  rw [strLen_append, strLen_append]
  have e1 : (("(" : String) : Str).length = 1 := rfl
  rw [e1]
  have e2 : ∀ b : Bool, ((if b = true then ",)" else ")" : String) : Str).length ≤ 2 := by
    intro b
    cases b
    · show (1 : Nat) ≤ 2; decide
    · show (2 : Nat) ≤ 2; decide
  have := e2 (ts.length == 1)
  omega
theorem lst_cost (ts : List Str) : (listText ts).length ≤ (ts.map (·.length + 2)).sum + 4 := by
  unfold listText
  have h := textFrom_cost ts 0 "["
  rw [strLen_append]
  have e1 : (("[" : String) : Str).length = 1 := rfl
  have e2 : (("]" : String) : Str).length = 1 := rfl
  rw [e1] at h
  rw [e2]
  omega
mutual
theorem shown_cost : ∀ d : PyData, d.showable = true → d.hasDict = false → d.shown.length ≤ cost d
  | .none, _, _ => by
    show (4 : Nat) ≤ cost .none
    rw [cost]
    exact Nat.le_refl _
  | .bool b, _, _ => by
    rw [cost]
    cases b
    · show (5 : Nat) ≤ 5; decide
    · show (4 : Nat) ≤ 5; decide
  | .int i, h, _ => by
    have h' : i.natAbs.log2 < 1920 := by simpa [PyData.showable] using h
    simpa only [cost, PyData.shown] using PyProof.Rows.int_text_len_1921 h'
  | .str x, _, _ => by simp only [cost, PyData.shown]; exact Nat.le_refl _
  | .list xs, h, h2 => by
    have a := shownAll_cost xs (by simpa only [PyData.showable] using h) (by simpa only [PyData.hasDict] using h2)
    have b := lst_cost (PyData.shownAll xs)
    simp only [cost, PyData.shown]
    omega
  | .tuple xs, h, h2 => by
    have a := shownAll_cost xs (by simpa only [PyData.showable] using h) (by simpa only [PyData.hasDict] using h2)
    have b := tup_cost (PyData.shownAll xs)
    simp only [cost, PyData.shown]
    omega
  | .dict _, _, h => by simp [PyData.hasDict] at h
theorem shownAll_cost : ∀ xs : List PyData, PyData.showableAll xs = true → PyData.hasDictAll xs = false → ((PyData.shownAll xs).map (·.length + 2)).sum ≤ costAll xs
  | [], _, _ => by simp [PyData.shownAll, costAll]
  | x :: xs, h, h2 => by
    have h' : x.showable = true ∧ PyData.showableAll xs = true := by simpa [PyData.showableAll] using h
    have h2' : x.hasDict = false ∧ PyData.hasDictAll xs = false := by simpa [PyData.hasDictAll] using h2
    have a := shown_cost x h'.1 h2'.1
    have b := shownAll_cost xs h'.2 h2'.2
    simp only [PyData.shownAll, costAll, List.map_cons, List.sum_cons]
    omega
end
/-- what repr's rule asks of the length -/
theorem repr_len {K : PySem.W.Frag} {H : Hp} {x : V} {d : PyData} (h : Dp K H x d) (hs : d.showable = true) (hc : cost d ≤ 1000000) : d.shown.length ≤ sizeLine :=
  Nat.le_trans (shown_cost d hs (Dp_noDict d x h)) (Nat.le_trans hc (by decide))
/-! ## a bag of draws: [digits left, number mixed] -/
structure BagV (x m : Int) : Prop where
  x0 : 0 ≤ x
  xb : x.natAbs < 2 ^ 1048576
  m0 : 0 ≤ m
  mb : m < 2147483648
/-- a bag stands at b -/
def Bag (H : Hp) (b : Addr) : Prop := ∃ x m : Int, H b = some (.lst [.int x, .int m]) ∧ BagV x m
/-- all but b is as it was -/
def But (b : Addr) (H H' : Hp) : Prop := ∀ c, c ≠ b → H' c = H c
theorem But.refl (b : Addr) (H : Hp) : But b H H := fun _ _ => rfl
theorem But.trans {b : Addr} {H H1 H2 : Hp} (x : But b H H1) (y : But b H1 H2) : But b H H2 := fun c hc => (y c hc).trans (x c hc)
theorem But.upd {b : Addr} {H : Hp} {o : HO} : But b H (upd H b o) := fun c hc => upd_ne hc
theorem bits_lt {z : Int} {n : Nat} (h : Builtin.Int.intBits z ≤ n) : z.natAbs < 2 ^ n := by
  unfold Builtin.Int.intBits at h
  by_cases e : z = 0
  · subst e
    exact Nat.pow_pos (by decide)
  · rw [if_neg (by simpa using e)] at h
    exact Nat.lt_of_lt_of_le Nat.lt_log2_self (Nat.pow_le_pow_right (by decide) h)
end GR
namespace GR
open PySem PySem.Spec L2
/-! ## for i, x in enumerate(xs) -/
theorem for_enum {K : PySem.W.Frag} {a : Addr} {xs : List V} {g : TG} {tb : TS} {D : Ends} {σ : L2.St} {H : Hp} (Pv : Nat → L2.St → Hp → Prop) (h0 : Pv 0 σ H)
    (hl : ∀ i σ H, i ≤ xs.length → Pv i σ H → SqL K H a xs)
    (hs : ∀ i x σ H T, xs[i]? = some x → Pv i σ H → H T = none →
      g (.ref T) σ (upd H T (.tup [.int (i : Nat), x])) fun σ2 H2 => tb { D with nx := Pv (i + 1), ct := Pv (i + 1), bk := D.nx } σ2 H2)
    (hd : ∀ σ H, Pv xs.length σ H → D.nx σ H) :
    ∃ W : Nat → Nat → L2.St → Hp → Prop, (∃ m, W 0 m σ H) ∧ ∀ i m σ H, W i m σ H →
      ((Ite K a).stop i H ∧ D.nx σ H) ∨ ((Ite K a).go i H ∧ ∃ N : L2.St → Hp → Prop, (∀ σ' H', N σ' H' → ∃ m', m' < m ∧ W (i + 1) m' σ' H') ∧
        ∀ x H', (Ite K a).yld i H x H' → g x σ H' fun σ2 H2 => tb { D with nx := N, ct := N, bk := D.nx } σ2 H2) := by
  refine ⟨fun i m σ H => m = xs.length - i ∧ i ≤ xs.length ∧ Pv i σ H, ⟨xs.length, by simp, Nat.zero_le _, h0⟩, ?_⟩
  rintro i m σ H ⟨rfl, hi, p⟩
  have q := hl i σ H hi p
  by_cases hlt : i < xs.length
  · refine .inr ⟨⟨xs, xs[i], q, by simp [hlt]⟩, Pv (i + 1), fun σ' H' p' => ⟨xs.length - (i + 1), by omega, rfl, hlt, p'⟩, fun x H' y => ?_⟩
    obtain ⟨T, z, e1, e2, e3, e4⟩ := y
    subst e1 e3
    exact hs i z σ H T (e4 xs q) p e2
  · have e : i = xs.length := by omega
    subst e
    exact .inl ⟨⟨xs, q, Nat.le_refl _⟩, hd σ H p⟩
theorem pow_and (k : Nat) : Builtin.bitAnd ((2 : Int) ^ k) ((2 : Int) ^ k - 1) = 0 := by
  have h : (0 : Int) ≤ 2 ^ k := Int.le_of_lt (Int.pow_pos (by decide))
  rw [Bits.bitAnd_mask k h]
  exact Int.emod_self
end GR
namespace GR
open PySem PySem.Spec L2
/-! ## cuts: the ways of an expression, a test or a statement meet in one property -/
section
variable {X : Cx} {e : Expr} {t : TE} {tt : TT} {st : Stmt} {ts : TS}
def tCut (t : TE) : TE := fun σ H Q => ∃ Pv : VK, t σ H Pv ∧ ∀ v H', Pv v H' → Q v H'
theorem pe_cut (h : PE X e t) : PE X e (tCut t) := ⟨fun pins s σ H Q I ⟨Pv, hw, hq⟩ =>
  thn (h.run pins s σ H Pv I hw) fun _ _ ⟨v, H', I', r, p⟩ => ⟨v, H', I', r, hq v H' p⟩⟩
def tCutT (t : TT) : TT := fun σ H Q => ∃ Pv : Bool → Hp → Prop, t σ H Pv ∧ ∀ v H', Pv v H' → Q v H'
theorem pt_cut (h : PT X e tt) : PT X e (tCutT tt) := ⟨fun pins s σ H Q I ⟨Pv, hw, hq⟩ =>
  thn (h.run pins s σ H Pv I hw) fun b _ ⟨H', I', p⟩ => ⟨H', I', hq b H' p⟩⟩
def tCutS (t : TS) : TS := fun D σ H => ∃ Pn : L2.St → Hp → Prop, t { D with nx := Pn } σ H ∧ ∀ σ' H', Pn σ' H' → D.nx σ' H'
theorem ps_cut (h : PS X st ts) : PS X st (tCutS ts) := ⟨fun pins s σ H D I ⟨Pn, hw, hq⟩ =>
  thn (h.run pins s σ H { D with nx := Pn } I hw) fun f _ z => by
    cases f with
    | next =>
      obtain ⟨σ', H', I', p⟩ := z
      exact ⟨σ', H', I', hq σ' H' p⟩
    | brk => exact z
    | cont => exact z
    | ret u => exact z⟩
end
end GR
namespace GR
open PySem PySem.Spec L2
/-- what was tracked stays, but at b -/
def SameX (b : Addr) (H H' : Hp) : Prop := ∀ c o, c ≠ b → H c = some o → H' c = some o
theorem SameX.refl (b : Addr) (H : Hp) : SameX b H H := fun _ _ _ h => h
theorem SameX.trans {b : Addr} {H H1 H2 : Hp} (x : SameX b H H1) (y : SameX b H1 H2) : SameX b H H2 := fun c o hc h => y c o hc (x c o hc h)
theorem But.x {b : Addr} {H H' : Hp} (h : But b H H') : SameX b H H' := fun c o hc e => (h c hc).trans e
theorem SameX.of {b : Addr} {H H' : Hp} (h : Same H H') : SameX b H H' := fun c o _ e => h c o e
theorem SameX.new {b : Addr} {H : Hp} {p : Addr} {o : HO} (h : H p = none) : SameX b H (upd H p o) := .of (same_upd h)
/-- b was no tracked thing -/
theorem SameX.same {b : Addr} {H H1 H2 : Hp} (x : Same H H1) (n : H b = none) (y : SameX b H1 H2) : Same H H2 := fun c o h => y c o (ne_of_none h n) (x c o h)
theorem SqT_x {K : PySem.W.Frag} {b : Addr} {H H' : Hp} {a : Addr} {xs : List V} (e : SameX b H H') (hb : ∃ l, H b = some (.lst l)) (h : SqT K H a xs) : SqT K H' a xs := by
  obtain ⟨l, hb⟩ := hb
  rcases h with (h | ⟨o, h⟩) | h
  · exact .inl (.inl (e _ _ (ne_of h hb (fun z => nomatch z)) h))
  · exact .inl (.inr ⟨o, e _ _ (ne_of h hb (fun z => nomatch z)) h⟩)
  · exact .inr h
/-- a list that is frozen or of the module stays -/
theorem Bag.ex {H : Hp} {b : Addr} (h : Bag H b) : ∃ l, H b = some (.lst l) := by
  obtain ⟨x, m, e, _⟩ := h
  exact ⟨_, e⟩
end GR

namespace K05
open PySem PySem.Spec L2
def top (i : Nat) : Stmt := PySem.Challenge.pw_trailparts_k05_addresses_split.main.body.getD i (.Pass ⟨0, 0, 0, 0⟩)
abbrev sIsWhole : Stmt := top 4
theorem scIsWhole : FnScope ["thing"] ["thing"] (defScope sIsWhole) :=
  ⟨rfl, rfl, rfl, by decide +kernel, rfl, by decide +kernel, by decide +kernel⟩
abbrev sIsPower : Stmt := top 5
theorem scIsPower : FnScope ["number"] ["number"] (defScope sIsPower) :=
  ⟨rfl, rfl, rfl, by decide +kernel, rfl, by decide +kernel, by decide +kernel⟩
abbrev sIsPart : Stmt := top 6
theorem scIsPart : FnScope ["thing", "top", "bottom", "number"] ["thing"] (defScope sIsPart) :=
  ⟨rfl, rfl, rfl, by decide +kernel, rfl, by decide +kernel, by decide +kernel⟩
abbrev sHalf : Stmt := top 7
theorem scHalf : FnScope ["part", "top", "bottom"] ["part"] (defScope sHalf) :=
  ⟨rfl, rfl, rfl, by decide +kernel, rfl, by decide +kernel, by decide +kernel⟩
abbrev sSplit : Stmt := top 9
theorem scSplit : FnScope ["address", "house", "number", "age", "part", "less"] ["address"] (defScope sSplit) :=
  ⟨rfl, rfl, rfl, by decide +kernel, rfl, by decide +kernel, by decide +kernel⟩
abbrev sLawBag : Stmt := top 11
theorem scLawBag : FnScope ["_law_script", "_law_at", "_law_cell", "_law_mixed", "_law_spot", "_law_other"] ["_law_script", "_law_at"] (defScope sLawBag) :=
  ⟨rfl, rfl, rfl, by decide +kernel, rfl, by decide +kernel, by decide +kernel⟩
abbrev sLawTake : Stmt := top 12
theorem scLawTake : FnScope ["_law_bag_here", "_law_many", "_law_digit"] ["_law_bag_here", "_law_many"] (defScope sLawTake) :=
  ⟨rfl, rfl, rfl, by decide +kernel, rfl, by decide +kernel, by decide +kernel⟩
abbrev sLawPart : Stmt := top 13
theorem scLawPart : FnScope ["_law_bag_here", "_law_most", "_law_bottom", "_law_top"] ["_law_bag_here", "_law_most"] (defScope sLawPart) :=
  ⟨rfl, rfl, rfl, by decide +kernel, rfl, by decide +kernel, by decide +kernel⟩
abbrev sLawHalf : Stmt := top 14
theorem scLawHalf : FnScope ["_law_part_here"] ["_law_part_here"] (defScope sLawHalf) :=
  ⟨rfl, rfl, rfl, by decide +kernel, rfl, by decide +kernel, by decide +kernel⟩
abbrev sLaw : Stmt := top 15
theorem scLaw : FnScope ["_law_script", "_law_k", "_law_bag_here", "_law_address", "_law_less", "_law_again"] ["_law_script"] (defScope sLaw) :=
  ⟨rfl, rfl, rfl, by decide +kernel, rfl, by decide +kernel, by decide +kernel⟩
/-- what the top has written -/
structure Txt (K : PySem.W.Frag) (mg : Str → Option Value) where
  fIsWhole : Addr
  dIsWhole : FuncData
  FIsWhole : Fun K "is_whole" "is_whole" sIsWhole fIsWhole dIsWhole
  gIsWhole : mg "is_whole" = some (.ref fIsWhole)
  bIsWhole : Binds K dIsWhole ["thing"] []
  fIsPower : Addr
  dIsPower : FuncData
  FIsPower : Fun K "is_power" "is_power" sIsPower fIsPower dIsPower
  gIsPower : mg "is_power" = some (.ref fIsPower)
  bIsPower : Binds K dIsPower ["number"] []
  fIsPart : Addr
  dIsPart : FuncData
  FIsPart : Fun K "is_part" "is_part" sIsPart fIsPart dIsPart
  gIsPart : mg "is_part" = some (.ref fIsPart)
  bIsPart : Binds K dIsPart ["thing"] []
  fHalf : Addr
  dHalf : FuncData
  FHalf : Fun K "half" "half" sHalf fHalf dHalf
  gHalf : mg "half" = some (.ref fHalf)
  bHalf : Binds K dHalf ["part"] []
  fSplit : Addr
  dSplit : FuncData
  FSplit : Fun K "split" "split" sSplit fSplit dSplit
  gSplit : mg "split" = some (.ref fSplit)
  bSplit : Binds K dSplit ["address"] []
  fLawBag : Addr
  dLawBag : FuncData
  FLawBag : Fun K "_law_bag" "_law_bag" sLawBag fLawBag dLawBag
  gLawBag : mg "_law_bag" = some (.ref fLawBag)
  bLawBag : Binds K dLawBag ["_law_script", "_law_at"] []
  fLawTake : Addr
  dLawTake : FuncData
  FLawTake : Fun K "_law_take" "_law_take" sLawTake fLawTake dLawTake
  gLawTake : mg "_law_take" = some (.ref fLawTake)
  bLawTake : Binds K dLawTake ["_law_bag_here", "_law_many"] []
  fLawPart : Addr
  dLawPart : FuncData
  FLawPart : Fun K "_law_part" "_law_part" sLawPart fLawPart dLawPart
  gLawPart : mg "_law_part" = some (.ref fLawPart)
  bLawPart : Binds K dLawPart ["_law_bag_here", "_law_most"] []
  fLawHalf : Addr
  dLawHalf : FuncData
  FLawHalf : Fun K "_law_half" "_law_half" sLawHalf fLawHalf dLawHalf
  gLawHalf : mg "_law_half" = some (.ref fLawHalf)
  bLawHalf : Binds K dLawHalf ["_law_part_here"] []
  fLaw : Addr
  dLaw : FuncData
  FLaw : Fun K "law" "law" sLaw fLaw dLaw
  gLaw : mg "law" = some (.ref fLaw)
  bLaw : Binds K dLaw ["_law_script"] []
  n_isinstance : mg "isinstance" = none
  n_int : mg "int" = none
  n_bool : mg "bool" = none
  n_tuple : mg "tuple" = none
  n_len : mg "len" = none
  n_all : mg "all" = none
  n_enumerate : mg "enumerate" = none
  n_abs : mg "abs" = none
  n_max : mg "max" = none
  n_range : mg "range" = none
  n_min : mg "min" = none
  n_repr : mg "repr" = none
  cNOTHING : Addr
  gNOTHING : mg "NOTHING" = some (.ref cNOTHING)
  qNOTHING : ∀ H : Hp, SqT K H cNOTHING [.int 0, .int 1]

/-! ## promises -/
def isIntD : PyData → Bool
  | .int _ => true
  | _ => false
/-- number > 0 and number & number - 1 == 0 -/
def isPow (n : Int) : Bool := if decide (0 < n) = true then decide (V.int (Builtin.bitAnd n (n - 1)) = V.int 0) else false
def partOk (t b : Int) : Bool := isPow b && (decide (0 ≤ t) && decide (t ≤ b) && (decide (b = 1) || decide (t % 2 = 1)))
def isPartD : PyData → Bool
  | .tuple [.int t, .int b] => partOk t b
  | _ => false
def spIsWhole (K : PySem.W.Frag) : Sp := fun vs H Q _ => ∃ x d, vs = [x] ∧ Dp K H x d ∧ Q (.bl (isIntD d)) H
def spIsPower : Sp := fun vs H Q _ => ∃ n : Int, vs = [.int n] ∧ Q (.bl (isPow n)) H
def spIsPart (K : PySem.W.Frag) : Sp := fun vs H Q _ => ∃ x, vs = [x] ∧
  ((∃ d, Dp K H x d ∧ ∀ H', Same H H' → Q (.bl (isPartD d)) H') ∨ (∃ ty, TyX K H x (.type ty) ∧ kitB ty "tuple" = some false ∧ Q (.bl false) H))
theorem allInt_two (t : PyData) : ∀ ds : List PyData, ds.length = 2 → ds.all isIntD = true → ∃ x y, ds = [.int x, .int y]
  | [.int x, .int y], _, _ => ⟨x, y, rfl⟩
  | [.none, _], _, h => by simp [isIntD] at h
  | [.bool _, _], _, h => by simp [isIntD] at h
  | [.str _, _], _, h => by simp [isIntD] at h
  | [.list _, _], _, h => by simp [isIntD] at h
  | [.tuple _, _], _, h => by simp [isIntD] at h
  | [.dict _, _], _, h => by simp [isIntD] at h
  | [.int _, .none], _, h => by simp [isIntD] at h
  | [.int _, .bool _], _, h => by simp [isIntD] at h
  | [.int _, .str _], _, h => by simp [isIntD] at h
  | [.int _, .list _], _, h => by simp [isIntD] at h
  | [.int _, .tuple _], _, h => by simp [isIntD] at h
  | [.int _, .dict _], _, h => by simp [isIntD] at h
theorem isPart_not {ds : List PyData} (h : ¬ (ds.length = 2 ∧ ds.all isIntD = true)) : isPartD (.tuple ds) = false := by
  unfold isPartD
  split
  · rename_i t b e
    cases e
    exact absurd ⟨rfl, rfl⟩ h
  · rfl
theorem DpAll_len {K : PySem.W.Frag} {H : Hp} : ∀ {vs : List V} {ds : List PyData}, DpAll K H vs ds → vs.length = ds.length
  | _, _, .nil => rfl
  | _, _, .cons _ h => by rw [List.length_cons, List.length_cons, DpAll_len h]
theorem DpAll_get {K : PySem.W.Frag} {H : Hp} : ∀ {vs : List V} {ds : List PyData} {i : Nat} {v : V}, DpAll K H vs ds → vs[i]? = some v → ∃ d, ds[i]? = some d ∧ Dp K H v d
  | _, _, _, _, .nil, e => by simp at e
  | _, _, 0, _, .cons h _, e => by
    cases e
    exact ⟨_, rfl, h⟩
  | _, _, i + 1, v, .cons _ h, e => DpAll_get (i := i) h e
section
variable {P : Program} {w : World} {K : PySem.W.Frag} {mg : Str → Option Value} {bs : Heap} (T : Txt K mg)

theorem okIsWhole : FnOk P w K mg bs CX0 1 T.fIsWhole T.dIsWhole ["thing"] (spIsWhole K) := by
  refine T.FIsWhole.ok scIsWhole (fun vs H Q E h => ?_) (fun cdv A outer s H vs Q E hr h => ?_)
  · obtain ⟨x, d, rfl, _⟩ := h
    rfl
  · obtain ⟨x, d, rfl, hd, q⟩ := h
    refine ⟨_, (pss_one (ps_ret (pe_and (pe_callB call_isi (by rfl) T.n_isinstance (by decide +kernel) (pa_cons (pv 0) (pa_cons (pe_bltn (v := .ty "int") (by rfl) T.n_int (by decide +kernel) rfl) pa_nil))) (pe_one (pe_not (pe_callB call_isi (by rfl) T.n_isinstance (by decide +kernel) (pa_cons (pv 0) (pa_cons (pe_bltn (v := .ty "bool") (by rfl) T.n_bool (by decide +kernel) rfl) pa_nil)))))))), ?_⟩
    have ty := GR.Dp_ty hd
    have h1 : ∃ b, kitB (GR.tyName d) "int" = some b ∧ ∃ c, kitB (GR.tyName d) "bool" = some c ∧ (if b = true then !c else false) = isIntD d := by
      cases d
      · exact ⟨false, (show kitB "NoneType" "int" = some false by decide +kernel), false, (show kitB "NoneType" "bool" = some false by decide +kernel), rfl⟩
      · exact ⟨true, (show kitB "bool" "int" = some true by decide +kernel), true, (show kitB "bool" "bool" = some true by decide +kernel), rfl⟩
      · exact ⟨true, (show kitB "int" "int" = some true by decide +kernel), false, (show kitB "int" "bool" = some false by decide +kernel), rfl⟩
      · exact ⟨false, (show kitB "str" "int" = some false by decide +kernel), false, (show kitB "str" "bool" = some false by decide +kernel), rfl⟩
      · exact ⟨false, (show kitB "list" "int" = some false by decide +kernel), false, (show kitB "list" "bool" = some false by decide +kernel), rfl⟩
      · exact ⟨false, (show kitB "tuple" "int" = some false by decide +kernel), false, (show kitB "tuple" "bool" = some false by decide +kernel), rfl⟩
      · exact ⟨false, (show kitB "dict" "int" = some false by decide +kernel), false, (show kitB "dict" "bool" = some false by decide +kernel), rfl⟩
    obtain ⟨b, hb, c, hc, e⟩ := h1
    refine ⟨_, rfl, x, .ty "int", _, _, b, rfl, .ty "int", ty, kit_ty hb, b, rfl, ?_⟩
    cases b with
    | false =>
      refine iteF ?_
      rw [← e] at q
      exact q
    | true =>
      refine iteT ?_
      refine ⟨_, rfl, x, .ty "bool", _, _, c, rfl, .ty "bool", ty, kit_ty hc, c, rfl, ?_⟩
      rw [← e] at q
      exact q

theorem okIsPower : FnOk P w K mg bs CX0 1 T.fIsPower T.dIsPower ["number"] spIsPower := by
  refine T.FIsPower.ok scIsPower (fun vs H Q E h => ?_) (fun cdv A outer s H vs Q E hr h => ?_)
  · obtain ⟨n, rfl, _⟩ := h
    rfl
  · obtain ⟨n, rfl, q⟩ := h
    refine ⟨_, (pss_one (ps_ret (pe_and (pe_cmpR op_gt (pv 0) pe_int (nomark _)) (pe_one (pe_cmpR op_eq (pe_op op_and (pv 0) (pe_op op_sub (pv 0) pe_int)) pe_int (nomark _)))))), ?_⟩
    refine ⟨_, rfl, _, _, rfl, rfl, _, rfl, ?_⟩
    unfold isPow at q
    refine ite2 (fun e => ?_) (fun e => ?_)
    · rw [if_pos e] at q
      exact ⟨_, rfl, _, rfl, _, _, rfl, rfl, _, _, rfl, rfl, rfl, q⟩
    · rw [if_neg e] at q
      exact q

theorem okIsPart : FnOk P w K mg bs CX0 2 T.fIsPart T.dIsPart ["thing"] (spIsPart K) := by
  have GIsWhole : FnOk P w K mg bs CX0 1 T.fIsWhole T.dIsWhole ["thing"] (spIsWhole K) := okIsWhole T
  have GIsPower : FnOk P w K mg bs CX0 1 T.fIsPower T.dIsPower ["number"] spIsPower := okIsPower T
  refine T.FIsPart.ok scIsPart (fun vs H Q E h => ?_) (fun cdv A outer s H vs Q E hr h => ?_)
  · obtain ⟨x, rfl, _⟩ := h
    rfl
  · obtain ⟨x, rfl, h⟩ := h
    refine ⟨_, (pss_cons (ps_if (PW.pt (pw_or (pt_not (pt_val (pe_callB call_isi (by rfl) T.n_isinstance (by decide +kernel) (pa_cons (pv 0) (pa_cons (pe_bltn (v := .ty "tuple") (by rfl) T.n_tuple (by decide +kernel) rfl) pa_nil))))) (pw_or (pt_cmpR op_ne (pe_callB call_len_seq (by rfl) T.n_len PySem.boot_len (pa_cons (pv 0) pa_nil)) pe_int (nomark _)) (pw_or1 (pt_not (pt_val (pe_callB (cr_all rfl) (by rfl) T.n_all (by decide +kernel) (pa_cons (pe_lc (own := [("number", 3)]) (g := gName 3) (tt := tYes) (by rfl) scIsPart.nd (pi_tup (pv 0)) (blkOk_by (own := [("number", 3)]) (N := ["thing", "top", "bottom", "number"]) (sc := defScope sIsPart) (by decide +kernel)) (fun _ _ _ _ _ => (pg_name (i := 3) scIsPart.nd rfl (Or.inl rfl))) (fun _ _ _ _ _ => pts_nil) (fun _ _ _ _ _ => (pe_call GIsWhole (hr.mono (by decide)) (by rfl) T.gIsWhole T.FIsWhole.kp T.bIsWhole .nil pass0 (pa_cons (pv 3) pa_nil)))) pa_nil)))))))) (pss_one (ps_ret pe_bl)) pss_nil)
      (pss_cons (ps_asg (pv 0) (pg_tup (by rfl) (pgs_cons (pg_name (i := 1) scIsPart.nd rfl (Or.inl rfl)) (pgs_cons (pg_name (i := 2) scIsPart.nd rfl (Or.inl rfl)) pgs_nil))))
      (pss_one (ps_ret (pe_and (pe_call GIsPower (hr.mono (by decide)) (by rfl) T.gIsPower T.FIsPower.kp T.bIsPower .nil pass0 (pa_cons (pv 2) pa_nil)) (pe_and (pe_chain op_le op_le pe_int (pv 1) (pv 2)) (pe_one (pe_or (pe_cmpR op_eq (pv 2) pe_int (nomark _)) (pe_one (pe_cmpR op_eq (pe_op op_mod (pv 1) pe_int) pe_int (nomark _))))))))))), ?_⟩
    have two : (∃ ty, TyX K H x (.type ty) ∧ kitB ty "tuple" = some false ∧ Q (.bl false) H) ∨
        (∃ a xs ds, x = .ref a ∧ SqT K H a xs ∧ DpAll K H xs ds ∧ ∀ H', Same H H' → Q (.bl (isPartD (.tuple ds))) H') := by
      rcases h with ⟨d, hd, q⟩ | z
      · cases hd with
        | tup h1 h2 => exact .inr ⟨_, _, _, rfl, h1, h2, q⟩
        | non => exact .inl ⟨"NoneType", .base .non, by decide +kernel, q H (Same.refl H)⟩
        | bl b => exact .inl ⟨"bool", .base (.bl b), by decide +kernel, q H (Same.refl H)⟩
        | int i => exact .inl ⟨"int", .base (.int i), by decide +kernel, q H (Same.refl H)⟩
        | str z => exact .inl ⟨"str", .base (.str z), by decide +kernel, q H (Same.refl H)⟩
        | lst h1 h2 => exact .inl ⟨"list", GR.SqL_ty h1, by decide +kernel, q H (Same.refl H)⟩
      · exact .inl z
    rcases two with ⟨ty, h1, h2, q⟩ | ⟨a, xs, ds, rfl, h1, h2, q⟩
    · exact ⟨_, rfl, x, .ty "tuple", _, _, false, rfl, .ty "tuple", h1, kit_ty h2, _, rfl, iteT (iteT q)⟩
    · skip
      refine ⟨_, rfl, .ref a, .ty "tuple", _, _, true, rfl, .ty "tuple", GR.SqT_ty h1, kit_ty (by decide +kernel), _, rfl, iteF ?_⟩
      have el := DpAll_len h2
      refine ⟨_, rfl, a, xs, rfl, .inr h1, rfl, _, rfl, ?_⟩
      by_cases e2 : xs.length = 2
      · rw [show (!decide (V.int ((xs.length : Nat) : Int) = V.int 2)) = false by rw [e2]; rfl]
        refine iteF ?_
        -- all([is_whole(number) for number in thing])
        refine ⟨_, rfl, a, rfl, ⟨_, h1⟩, fun D hD => ?_⟩
        refine lc_tup (K := K) (a := a) (xs := xs) (fun i H' => (∀ b, b ≠ D → H' b = H b) ∧ H' D = some (.lst ((ds.take i).map fun d => V.bl (isIntD d)))) ⟨fun b hb => upd_ne hb, upd_same⟩ (fun i H' _ hP => GR.SqT_same (fun b o z => by rw [hP.1 b (ne_of_none z hD)]; exact z) h1) (fun i v H' hv hP => ?_) (fun H' hP => ?_)
        · obtain ⟨d, hd, hdv⟩ := DpAll_get h2 hv
          have sm : Same H H' := fun b o z => by rw [hP.1 b (ne_of_none z hD)]; exact z
          refine ⟨rfl, _, rfl, v, d, rfl, GR.Dp_same sm d v hdv, _, hP.2, ?_, fun b hb => by rw [upd_ne hb]; exact hP.1 b hb, ?_⟩
          · rw [List.length_map, List.length_take]
            exact Nat.lt_of_le_of_lt (Nat.min_le_left _ _) (small1000 (by have := (List.getElem?_eq_some_iff.mp hv).1; omega))
          · rw [upd_same, List.take_add_one, hd, List.map_append]
            rfl
        · have sm : Same H H' := fun b o z => by rw [hP.1 b (ne_of_none z hD)]; exact z
          have eD : H' D = some (.lst ((ds.map isIntD).map V.bl)) := by
            rw [hP.2, el, List.take_length, List.map_map]
            rfl
          refine ⟨D, ds.map isIntD, rfl, SqL.of eD, _, rfl, ?_⟩
          have ea : (ds.map isIntD).all id = ds.all isIntD := by rw [List.all_map]; rfl
          by_cases e3 : ds.all isIntD = true
          · rw [ea, e3]
            refine iteF ?_
            obtain ⟨t, b, rfl⟩ := allInt_two .none ds (by omega) e3
            cases h2 with
            | cons d1 h2 =>
              cases h2 with
              | cons d2 h2 =>
                cases h2
                cases d1
                cases d2
                -- top, bottom = thing
                refine ⟨_, rfl, a, _, rfl, GR.SqT_same sm h1, rfl, _, _, rfl, _, _, rfl, rfl, ?_⟩
                have q' : Q (.bl (partOk t b)) H' := q H' sm
                unfold partOk at q'
                refine ⟨_, rfl, b, rfl, _, rfl, ?_⟩
                cases e4 : isPow b with
                | false =>
                  rw [e4] at q'
                  exact iteF q'
                | true =>
                  rw [e4, Bool.true_and] at q'
                  refine iteT ⟨_, rfl, _, _, rfl, rfl, _, rfl, ?_⟩
                  cases e5 : decide ((0 : Int) ≤ t) with
                  | false =>
                    rw [e5, Bool.false_and, Bool.false_and] at q'
                    exact iteF ⟨_, rfl, iteF q'⟩
                  | true =>
                    rw [e5, Bool.true_and] at q'
                    refine iteT ⟨_, rfl, _, _, rfl, rfl, _, rfl, ?_⟩
                    cases e6 : decide (t ≤ b) with
                    | false =>
                      rw [e6, Bool.false_and] at q'
                      exact iteF q'
                    | true =>
                      rw [e6, Bool.true_and] at q'
                      refine iteT ⟨_, rfl, rfl, _, rfl, ?_⟩
                      by_cases e7 : b = 1
                      · subst e7
                        exact iteT q'
                      · rw [show decide (V.int b = V.int 1) = false from decide_eq_false fun z => e7 (V.int.inj z)]
                        refine iteF ⟨_, rfl, _, _, rfl, rfl, (by show (0 : Int) < 2; decide), rfl, ?_⟩
                        rw [decide_eq_false e7, Bool.false_or] at q'
                        have e8 : decide (V.int (t % 2) = V.int 1) = decide (t % 2 = 1) := by
                          by_cases z : t % 2 = 1
                          · rw [decide_eq_true z, decide_eq_true (congrArg V.int z)]
                          · rw [decide_eq_false z, decide_eq_false fun y => z (V.int.inj y)]
                        rw [e8]
                        exact q'
          · have e3' : ds.all isIntD = false := by simpa using e3
            rw [ea, e3']
            refine iteT ?_
            have q' := q H' sm
            rw [isPart_not (fun z => e3 z.2)] at q'
            exact q'
      · rw [show (!decide (V.int ((xs.length : Nat) : Int) = V.int 2)) = true by
          rw [decide_eq_false]
          · rfl
          · intro z
            have := V.int.inj z
            omega]
        refine iteT (iteT ?_)
        have q' := q H (Same.refl H)
        rw [isPart_not (fun z => e2 (by omega))] at q'
        exact q'

/-- half of a part that is not nothing -/
def spHalf (K : PySem.W.Frag) : Sp := fun vs H Q _ => ∃ x t b, vs = [x] ∧ Dp K H x (.tuple [.int t, .int b]) ∧ partOk t b = true ∧ ¬ (t = 0 ∧ b = 1) ∧
  ∀ H' y, Same H H' → Dp K H' y (.tuple [.int t, .int (2 * b)]) → Q y H'
theorem dp_two {K : PySem.W.Frag} {H : Hp} {x : V} {t b : Int} (h : Dp K H x (.tuple [.int t, .int b])) : ∃ a, x = .ref a ∧ SqT K H a [.int t, .int b] := by
  cases h with
  | tup h1 h2 =>
    cases h2 with
    | cons d1 h2 =>
      cases h2 with
      | cons d2 h2 =>
        cases h2
        cases d1
        cases d2
        exact ⟨_, rfl, h1⟩
theorem dp_of2 {K : PySem.W.Frag} {H : Hp} {a : Addr} {t b : Int} (h : SqT K H a [.int t, .int b]) : Dp K H (.ref a) (.tuple [.int t, .int b]) :=
  .tup h (.cons (.int t) (.cons (.int b) .nil))
theorem okHalf : FnOk P w K mg bs CX0 3 T.fHalf T.dHalf ["part"] (spHalf K) := by
  have GIsPart : FnOk P w K mg bs CX0 2 T.fIsPart T.dIsPart ["thing"] (spIsPart K) := okIsPart T
  refine T.FHalf.ok scHalf (fun vs H Q E h => ?_) (fun cdv A outer s H vs Q E hr h => ?_)
  · obtain ⟨x, t, b, rfl, _⟩ := h
    rfl
  · obtain ⟨x, t, b, rfl, hd, hp, hn, q⟩ := h
    refine ⟨_, (pss_cons (ps_if (PW.pt (pw_or (pt_not (pt_val (pe_call GIsPart (hr.mono (by decide)) (by rfl) T.gIsPart T.FIsPart.kp T.bIsPart .nil pass0 (pa_cons (pv 0) pa_nil)))) (pw_or1 (pt_cmpR (op_eqD hr.units) (pv 0) (pe_glob (by rfl) T.gNOTHING (v := .ref T.cNOTHING) rfl) (nomark _))))) (pss_one ps_never) pss_nil)
      (pss_cons (ps_asg (pv 0) (pg_tup (by rfl) (pgs_cons (pg_name (i := 1) scHalf.nd rfl (Or.inl rfl)) (pgs_cons (pg_name (i := 2) scHalf.nd rfl (Or.inl rfl)) pgs_nil))))
      (pss_one (ps_ret (pe_tup (pa_cons (pv 1) (pa_cons (pe_op op_mul pe_int (pv 2)) pa_nil))))))), ?_⟩
    refine ⟨_, rfl, x, rfl, .inl ⟨_, hd, fun H1 s1 => ⟨_, rfl, ?_⟩⟩⟩
    rw [show isPartD (.tuple [.int t, .int b]) = true from hp]
    refine iteF ?_
    have hd1 := GR.Dp_same s1 _ _ hd
    refine ⟨_, rfl, _, .tuple [.int 0, .int 1], hd1, dp_of2 (T.qNOTHING H1), rfl, rfl, _, rfl, ?_⟩
    have ne : PyData.eqv (.tuple [.int t, .int b]) (.tuple [.int 0, .int 1]) = false := by
      show ((t == 0) && ((b == 1) && true)) = false
      by_cases e : t = 0
      · have e2 : ¬ b = 1 := fun z => hn ⟨e, z⟩
        simp [e, e2]
      · simp [e]
    rw [ne]
    refine iteF ?_
    obtain ⟨a, rfl, ha⟩ := dp_two hd1
    refine ⟨_, rfl, a, _, rfl, ha, rfl, _, _, rfl, _, _, rfl, rfl, ?_⟩
    refine ⟨_, rfl, _, rfl, _, _, rfl, rfl, .inl ⟨by decide, by decide⟩, (by show 2 ≤ sizeLine; decide), fun p np => ?_⟩
    exact q _ _ (s1.trans (GR.same_upd np)) (dp_of2 (.inl (.inl upd_same)))

def addrD (h n a t b : Int) : PyData := .tuple [.int h, .int n, .int a, .tuple [.int t, .int b]]
def spSplit (K : PySem.W.Frag) : Sp := fun vs H Q _ => ∃ x h n a t b, vs = [x] ∧ Dp K H x (addrD h n a t b) ∧ partOk t b = true ∧ ¬ (t = 0 ∧ b = 1) ∧
  ∀ H' y, Same H H' → Dp K H' y (.tuple [addrD h n a t (2 * b), addrD h n a t (2 * b)]) → Q y H'
theorem dp_addr {K : PySem.W.Frag} {H : Hp} {x : V} {h n a t b : Int} (d : Dp K H x (addrD h n a t b)) :
    ∃ p y, x = .ref p ∧ SqT K H p [.int h, .int n, .int a, y] ∧ Dp K H y (.tuple [.int t, .int b]) := by
  cases d with
  | tup h1 h2 =>
    cases h2 with
    | cons d1 h2 =>
      cases h2 with
      | cons d2 h2 =>
        cases h2 with
        | cons d3 h2 =>
          cases h2 with
          | cons d4 h2 =>
            cases h2
            cases d1
            cases d2
            cases d3
            exact ⟨_, _, rfl, h1, d4⟩
theorem dp_ofA {K : PySem.W.Frag} {H : Hp} {p : Addr} {y : V} {h n a t b : Int} (s : SqT K H p [.int h, .int n, .int a, y]) (d : Dp K H y (.tuple [.int t, .int b])) :
    Dp K H (.ref p) (addrD h n a t b) := .tup s (.cons (.int h) (.cons (.int n) (.cons (.int a) (.cons d .nil))))
theorem okSplit : FnOk P w K mg bs CX0 4 T.fSplit T.dSplit ["address"] (spSplit K) := by
  have GHalf : FnOk P w K mg bs CX0 3 T.fHalf T.dHalf ["part"] (spHalf K) := okHalf T
  refine T.FSplit.ok scSplit (fun vs H Q E h => ?_) (fun cdv A outer s H vs Q E hr h => ?_)
  · obtain ⟨x, h, n, a, t, b, rfl, _⟩ := h
    rfl
  · obtain ⟨x, h, n, a, t, b, rfl, hd, hp, hn, q⟩ := h
    refine ⟨_, (pss_cons (ps_asg (pv 0) (pg_tup (by rfl) (pgs_cons (pg_name (i := 1) scSplit.nd rfl (Or.inl rfl)) (pgs_cons (pg_name (i := 2) scSplit.nd rfl (Or.inl rfl)) (pgs_cons (pg_name (i := 3) scSplit.nd rfl (Or.inl rfl)) (pgs_cons (pg_name (i := 4) scSplit.nd rfl (Or.inl rfl)) pgs_nil))))))
      (pss_cons (ps_set (i := 5) scSplit.nd rfl (Or.inl rfl) (pe_call GHalf (hr.mono (by decide)) (by rfl) T.gHalf T.FHalf.kp T.bHalf .nil pass0 (pa_cons (pv 4) pa_nil)))
      (pss_one (ps_ret (pe_tup (pa_cons (pe_tup (pa_cons (pv 1) (pa_cons (pv 2) (pa_cons (pv 3) (pa_cons (pv 5) pa_nil))))) (pa_cons (pe_tup (pa_cons (pv 1) (pa_cons (pv 2) (pa_cons (pv 3) (pa_cons (pv 5) pa_nil))))) pa_nil))))))), ?_⟩
    obtain ⟨p, y, rfl, h1, hy⟩ := dp_addr hd
    refine ⟨_, rfl, p, _, rfl, h1, rfl, _, _, rfl, _, _, rfl, _, _, rfl, _, _, rfl, rfl, ?_⟩
    refine ⟨_, rfl, y, t, b, rfl, hy, hp, hn, fun H1 z s1 hz => ?_⟩
    refine ⟨_, rfl, _, rfl, _, rfl, _, rfl, (by show 4 ≤ sizeLine; decide), fun p1 n1 => ?_⟩
    refine ⟨_, rfl, _, rfl, _, rfl, _, rfl, (by show 4 ≤ sizeLine; decide), fun p2 n2 => ⟨(by show 2 ≤ sizeLine; decide), fun p3 n3 => ?_⟩⟩
    have s2 := GR.same_upd (o := .tup [.int h, .int n, .int a, z]) n1
    have s3 := GR.same_upd (o := .tup [.int h, .int n, .int a, z]) n2
    have s4 := GR.same_upd (o := .tup [.ref p1, .ref p2]) n3
    refine q _ _ (((s1.trans s2).trans s3).trans s4) (.tup (.inl (.inl upd_same)) (.cons ?_ (.cons ?_ .nil)))
    · exact dp_ofA (GR.SqT_same (s3.trans s4) (.inl (.inl upd_same))) (GR.Dp_same ((s2.trans s3).trans s4) _ _ hz)
    · exact dp_ofA (GR.SqT_same s4 (.inl (.inl upd_same))) (GR.Dp_same ((s2.trans s3).trans s4) _ _ hz)

def spTake : Sp := fun vs H Q _ => ∃ (b : Addr) (many : Int), vs = [.ref b, .int many] ∧ GR.Bag H b ∧ 0 < many ∧ many.natAbs < 2 ^ 8000 ∧
  ∀ r H', 0 ≤ r → r < many → GR.Bag H' b → GR.But b H H' → Q (.int r) H'
theorem okLawTake : FnOk P w K mg bs CX0 1 T.fLawTake T.dLawTake ["_law_bag_here", "_law_many"] spTake := by
  refine T.FLawTake.ok scLawTake (fun vs H Q E h => ?_) (fun cdv A outer s H vs Q E hr h => ?_)
  · obtain ⟨b, many, rfl, _⟩ := h
    rfl
  · obtain ⟨b, many, rfl, ⟨x, m, hb, V⟩, h0, h8, q⟩ := h
    refine ⟨_, (pss_cons (ps_if (pt_cmpR op_gt (pe_ix ix_list (pv 0) pe_int (fun _ _ => rfl)) pe_int (nomark _)) (pss_cons (ps_set (i := 2) scLawTake.nd rfl (Or.inl rfl) (pe_op op_mod (pe_ix ix_list (pv 0) pe_int (fun _ _ => rfl)) (pv 1)))
      (pss_cons (ps_asg (pe_op op_fdivW (pe_ix ix_list (pv 0) pe_int (fun _ _ => rfl)) (pv 1)) (pg_sub (pv 0) pe_int set_list))
      (pss_one (ps_ret (pv 2))))) pss_nil)
      (pss_cons (ps_asg (pe_op op_mod (pe_op op_add (pe_op op_mul (pe_ix ix_list (pv 0) pe_int (fun _ _ => rfl)) pe_int) pe_int) pe_int) (pg_sub (pv 0) pe_int set_list))
      (pss_one (ps_ret (pe_op op_mod (pe_op op_fdivW (pe_op op_mod (pe_op op_mul (pe_op op_fdivW (pe_ix ix_list (pv 0) pe_int (fun _ _ => rfl)) pe_int) pe_int) pe_int) pe_int) (pv 1)))))), ?_⟩
    refine ⟨_, rfl, b, _, _, _, rfl, rfl, SqL.of hb, atI_nat (j := 0) rfl, _, _, rfl, rfl, _, rfl, ?_⟩
    refine ite2 (fun e => ?_) (fun e => ?_)
    · have e' : 0 < x := of_decide_eq_true e
      refine ⟨_, rfl, b, _, _, _, rfl, rfl, SqL.of hb, atI_nat (j := 0) rfl, _, rfl, _, _, rfl, rfl, h0, ?_⟩
      refine ⟨_, rfl, b, _, _, _, rfl, rfl, SqL.of hb, atI_nat (j := 0) rfl, _, rfl, _, _, rfl, rfl, wide_div h0 h8 (by decide) (by decide), ?_⟩
      refine ⟨_, rfl, b, _, _, 0, rfl, rfl, hb, rfl, ?_⟩
      refine ⟨_, rfl, q _ _ (Int.emod_nonneg _ (by omega)) (Int.emod_lt_of_pos _ h0) ⟨x / many, m, upd_same, ?_, ?_, V.m0, V.mb⟩ GR.But.upd⟩
      · exact Int.ediv_nonneg V.x0 (by omega)
      · exact Nat.lt_of_le_of_lt (by
          have z : x / many ≤ x := Int.ediv_le_self many V.x0
          have z2 : 0 ≤ x / many := Int.ediv_nonneg V.x0 (by omega)
          omega) V.xb
    · refine ⟨_, rfl, b, _, _, _, rfl, rfl, SqL.of hb, atI_nat (j := 1) rfl, _, _, rfl, rfl, .inr ⟨by decide, by decide⟩, _, _, rfl, rfl, _, _, rfl, rfl, (by show (0 : Int) < 2147483399; decide), ?_⟩
      refine ⟨_, rfl, b, _, _, 1, rfl, rfl, hb, rfl, ?_⟩
      refine ⟨_, rfl, b, _, _, _, rfl, rfl, SqL.of upd_same, atI_nat (j := 1) rfl, _, _, rfl, rfl, ⟨by decide, by decide⟩, _, _, rfl, rfl, .inr ⟨by decide, by decide⟩, _, _, rfl, rfl, (by show (0 : Int) < 2147483249; decide), _, _, rfl, rfl, ⟨by decide, by decide⟩, _, rfl, _, _, rfl, rfl, h0, ?_⟩
      refine q _ _ (Int.emod_nonneg _ (by omega)) (Int.emod_lt_of_pos _ h0) ⟨x, _, upd_same, V.x0, V.xb, Int.emod_nonneg _ (by decide), ?_⟩ GR.But.upd
      exact Int.lt_trans (Int.emod_lt_of_pos _ (by decide)) (by decide)

def spBag (K : PySem.W.Frag) : Sp := fun vs H Q _ => ∃ (a : Addr) (ns : List Int) (k : Int), vs = [.ref a, .int k] ∧ SqL K H a (ns.map V.int) ∧ ns.length ≤ 63 ∧
  (∀ z ∈ ns, Builtin.Int.intBits z ≤ 1048576) ∧ 0 ≤ k ∧ k < 100 ∧ ∀ H' b, Same H H' → H b = none → GR.Bag H' b → Q (.ref b) H'
theorem map_get {ns : List Int} {i : Nat} {y : V} (h : (ns.map V.int)[i]? = some y) : ∃ z, ns[i]? = some z ∧ y = V.int z := by
  rw [List.getElem?_map] at h
  cases e : ns[i]? with
  | none =>
    rw [e] at h
    cases h
  | some z =>
    rw [e] at h
    exact ⟨z, rfl, (Option.some.inj h).symm⟩
theorem cut_upto (ns : List Int) (k : Nat) : cutV (ns.map V.int) none (some (k : Int)) = (ns.take k).map V.int := by
  unfold cutV
  rw [HT.sIx_none, show HT.sIx (ns.map V.int).length (ns.map V.int).length (some (k : Int)) = min k (ns.map V.int).length from HT.sIx_nat _ _ k]
  rw [List.map_take, List.drop_zero, Nat.sub_zero]
  by_cases h : k ≤ (ns.map V.int).length
  · rw [Nat.min_eq_left h]
  · rw [Nat.min_eq_right (by omega), List.take_of_length_le (Nat.le_refl _), List.take_of_length_le (by omega)]
theorem okLawBag : FnOk P w K mg bs CX0 1 T.fLawBag T.dLawBag ["_law_script", "_law_at"] (spBag K) := by
  refine T.FLawBag.ok scLawBag (fun vs H Q E h => ?_) (fun cdv A outer s H vs Q E hr h => ?_)
  · obtain ⟨a, ns, k, rfl, _⟩ := h
    rfl
  · obtain ⟨a, ns, k, rfl, hS, hlen, hbits, hk0, hk1, q⟩ := h
    refine ⟨_, (pss_cons (ps_set (i := 2) scLawBag.nd rfl (Or.inl rfl) (GR.pe_cut (pe_ifExp (pt_cmpR op_lt (pv 1) (pe_callB call_len_seq (by rfl) T.n_len PySem.boot_len (pa_cons (pv 0) pa_nil)) (nomark _)) (pe_ix ix_list (pv 0) (pv 1) (fun _ _ => rfl)) pe_int)))
      (pss_cons (ps_set (i := 3) scLawBag.nd rfl (Or.inl rfl) (pe_op op_add (pe_op op_mul pe_int (pv 1)) pe_int))
      (pss_cons (ps_for PassesOwn.never rfl (pi_enum (by rfl) T.n_enumerate (pa_cons (pe_slice sl_list (pv 0) po_none (po_some pe_int)) pa_nil)) (pg_tup (by rfl) (pgs_cons (pg_name (i := 4) scLawBag.nd rfl (Or.inl rfl)) (pgs_cons (pg_name (i := 5) scLawBag.nd rfl (Or.inl rfl)) pgs_nil)))
      (pss_one (ps_set (i := 3) scLawBag.nd rfl (Or.inl rfl) (pe_op op_mod (pe_op op_add (pe_op op_add (pe_op op_mul (pv 3) pe_int) (pe_op op_mod (pv 5) pe_int)) (pe_op op_mul pe_int (pv 4))) pe_int))))
      (pss_one (ps_ret (pe_lst (pa_cons (GR.pe_cut (pe_ifExp (pt_cmpR op_ge (pe_callB call_abs (by rfl) T.n_abs (by decide +kernel) (pa_cons (pv 2) pa_nil)) (pe_op op_pow pe_int pe_int) (nomark _)) (pe_callB call_abs (by rfl) T.n_abs (by decide +kernel) (pa_cons (pv 2) pa_nil)) pe_int)) (pa_cons (pv 3) pa_nil)))))))), ?_⟩
    refine ⟨fun v H1 => H1 = H ∧ ∃ c : Int, v = .int c ∧ c.natAbs < 2 ^ 1048576, ?_, ?_⟩
    · refine ⟨_, rfl, _, rfl, a, _, rfl, .inl hS, _, _, rfl, rfl, _, rfl, ?_⟩
      refine ite2 (fun e => ?_) (fun e => ?_)
      · have e' : k < ((ns.map V.int).length : Int) := of_decide_eq_true e
        rw [List.length_map] at e'
        obtain ⟨j, rfl⟩ : ∃ j : Nat, k = (j : Int) := ⟨k.toNat, by omega⟩
        have hj : j < ns.length := by omega
        refine ⟨_, rfl, _, rfl, a, _, _, _, rfl, rfl, hS, atI_nat (j := j) (v := V.int ns[j]) (by rw [List.getElem?_map, List.getElem?_eq_getElem hj]; rfl), rfl, _, rfl, ?_⟩
        exact GR.bits_lt (hbits _ (List.getElem_mem hj))
      · exact ⟨rfl, 0, rfl, Nat.pow_pos (by decide)⟩
    rintro v H1 ⟨rfl, c, rfl, hc⟩
    refine ⟨_, rfl, _, _, rfl, rfl, .inl ⟨by decide, by decide⟩, _, _, rfl, rfl, ?_⟩
    -- for spot, other in enumerate(script[:30])
    refine ⟨_, rfl, 30, rfl, a, _, rfl, hS, fun l nl => ?_⟩
    have sl : Same H1 (upd H1 l (.lst (cutV (ns.map V.int) none (some 30)))) := GR.same_upd nl
    have ec : cutV (ns.map V.int) none (some 30) = (ns.take 30).map V.int := cut_upto ns 30
    refine ⟨l, (ns.take 30).map V.int, rfl, SqL.of (by rw [upd_same, ec]), ?_⟩
    refine GR.for_enum (K := K) (a := l) (xs := (ns.take 30).map V.int) (fun i σ H2 => ∃ (m : Int) (v4 v5 : Option V), σ = [some (.ref a), some (.int k), some (.int c), some (.int m), v4, v5] ∧ Same H1 H2 ∧ H2 l = some (.lst ((ns.take 30).map V.int)) ∧ 0 ≤ m ∧ m < 2147483648)
      ⟨2713 * k + 419, none, none, rfl, sl, by rw [upd_same, ec], by omega, by omega⟩ (fun i σ H2 _ ⟨_, _, _, _, _, h2, _⟩ => SqL.of h2) ?_ ?_
    · rintro i y σ H2 U hi ⟨m, v4, v5, rfl, sm, h2, m0, m1⟩ nU
      obtain ⟨z, hz, rfl⟩ := map_get hi
      have nlU : l ≠ U := ne_of_none h2 nU
      refine ⟨U, _, rfl, .inl (.inl upd_same), rfl, _, _, rfl, _, _, rfl, rfl, ?_⟩
      refine ⟨_, rfl, _, _, rfl, rfl, .inr ⟨by decide, by decide⟩, _, rfl, _, _, rfl, rfl, (by show (0 : Int) < 2147483563; decide), _, _, rfl, rfl, _, rfl, _, _, rfl, rfl, .inl ⟨by decide, by decide⟩, _, _, rfl, rfl, _, _, rfl, rfl, (by show (0 : Int) < 2147483563; decide), ?_⟩
      refine ⟨_, _, _, rfl, sm.trans (GR.same_upd nU), by rw [upd_ne nlU]; exact h2, Int.emod_nonneg _ (by decide), Int.lt_trans (Int.emod_lt_of_pos _ (by decide)) (by decide)⟩
    · rintro σ H2 ⟨m, v4, v5, rfl, sm, h2, m0, m1⟩
      -- return [..]
      refine ⟨fun v H3 => H3 = H2 ∧ ∃ x : Int, v = .int x ∧ 0 ≤ x ∧ x.natAbs < 2 ^ 1048576, ?_, ?_⟩
      · refine ⟨_, rfl, _, rfl, _, _, rfl, rfl, ⟨by decide, by decide, by decide⟩, _, _, rfl, rfl, _, rfl, ?_⟩
        refine ite2 (fun e => ?_) (fun e => ?_)
        · refine ⟨_, rfl, _, rfl, rfl, _, rfl, ?_, ?_⟩
          · split <;> omega
          · refine Nat.lt_of_le_of_lt ?_ hc
            split <;> omega
        · exact ⟨rfl, 0, rfl, Int.le_refl _, Nat.pow_pos (by decide)⟩
      · rintro v H3 ⟨rfl, x, rfl, x0, xb⟩
        refine ⟨_, rfl, (by show 2 ≤ sizeLine; decide), fun b nb => ?_⟩
        exact q _ _ (sm.trans (GR.same_upd nb)) (sm.free nb) ⟨x, m, upd_same, x0, xb, m0, m1⟩

/-- a drawn part that is not nothing -/
structure Drawn (t b : Int) (most : Nat) : Prop where
  pw : ∃ j : Nat, j ≤ most ∧ b = 2 ^ j
  t1 : 1 ≤ t
  tb : t ≤ b
  odd : b = 1 ∨ t % 2 = 1
theorem pow_isPow (j : Nat) : isPow (2 ^ j) = true := by
  unfold isPow
  have h : (0 : Int) < 2 ^ j := Int.pow_pos (by decide)
  rw [if_pos (decide_eq_true h), GR.pow_and j]
  rfl
theorem Drawn.ok {t b : Int} {m : Nat} (h : Drawn t b m) : partOk t b = true := by
  obtain ⟨⟨j, _, rfl⟩, t1, tb, odd⟩ := h
  unfold partOk
  rw [pow_isPow, decide_eq_true (show (0 : Int) ≤ t by omega), decide_eq_true tb]
  rcases odd with e | e
  · rw [decide_eq_true e]
    rfl
  · rw [decide_eq_true e]
    simp
theorem Drawn.no {t b : Int} {m : Nat} (h : Drawn t b m) : ¬ (t = 0 ∧ b = 1) := fun z => by
  have := h.t1
  omega
def spPart (K : PySem.W.Frag) : Sp := fun vs H Q _ => ∃ (b : Addr) (most : Nat), vs = [.ref b, .int (most : Int)] ∧ GR.Bag H b ∧ most ≤ 1000 ∧
  ∀ H' y t bt, GR.SameX b H H' → GR.Bag H' b → Drawn t bt most → Dp K H' y (.tuple [.int t, .int bt]) → Q y H'
theorem pow_lt_big {j m : Nat} (h : j ≤ m) (hm : m ≤ 1000) : ((2 : Int) ^ j).natAbs < 2 ^ 8000 := by
  rw [Int.natAbs_pow]
  exact Nat.pow_lt_pow_right (by decide) (by omega)
theorem half_pow {j : Nat} (h : (1 : Int) < 2 ^ j) : ∃ i, j = i + 1 ∧ (2 : Int) ^ j / 2 = 2 ^ i := by
  cases j with
  | zero => simp at h
  | succ i =>
    refine ⟨i, rfl, ?_⟩
    rw [Int.pow_succ, Int.mul_ediv_cancel _ (by decide)]
theorem pow_shl (j : Nat) : (1 : Int) * 2 ^ ((j : Int)).toNat = 2 ^ j := by
  rw [Int.toNat_natCast, Int.one_mul]
theorem okLawPart : FnOk P w K mg bs CX0 2 T.fLawPart T.dLawPart ["_law_bag_here", "_law_most"] (spPart K) := by
  have GLawTake : FnOk P w K mg bs CX0 1 T.fLawTake T.dLawTake ["_law_bag_here", "_law_many"] spTake := okLawTake T
  refine T.FLawPart.ok scLawPart (fun vs H Q E h => ?_) (fun cdv A outer s H vs Q E hr h => ?_)
  · obtain ⟨b, most, rfl, _⟩ := h
    rfl
  · obtain ⟨b, most, rfl, hb, hm, q⟩ := h
    refine ⟨_, (pss_cons (ps_set (i := 2) scLawPart.nd rfl (Or.inl rfl) (GR.pe_cut (pe_op op_shl pe_int (pe_call GLawTake (hr.mono (by decide)) (by rfl) T.gLawTake T.FLawTake.kp T.bLawTake .nil pass0 (pa_cons (pv 0) (pa_cons (pe_op op_add (pv 1) pe_int) pa_nil))))))
      (pss_cons (ps_set (i := 3) scLawPart.nd rfl (Or.inl rfl) (pe_ix ix_list (pe_lst (pa_cons pe_int (pa_cons (pv 2) (pa_cons (pe_op op_sub (pv 2) pe_int) (pa_cons (pe_op op_add pe_int (pe_call GLawTake (hr.mono (by decide)) (by rfl) T.gLawTake T.FLawTake.kp T.bLawTake .nil pass0 (pa_cons (pv 0) (pa_cons (pv 2) pa_nil)))) pa_nil))))) (pe_call GLawTake (hr.mono (by decide)) (by rfl) T.gLawTake T.FLawTake.kp T.bLawTake .nil pass0 (pa_cons (pv 0) (pa_cons pe_int pa_nil))) (fun _ _ => rfl)))
      (pss_cons (ps_while PassesOwn.never (GR.pt_cut (PW.pt (pw_and (pt_cmpR op_gt (pv 2) pe_int (nomark _)) (pw_and1 (pt_cmpR op_eq (pe_op op_mod (pv 3) pe_int) pe_int (nomark _)))))) (pss_one (ps_par (i := 3) (j := 2) (by rfl) scLawPart.nd rfl rfl (by decide) rfl rfl (pa_cons (pe_op op_fdivW (pv 3) pe_int) (pa_cons (pe_op op_fdivW (pv 2) pe_int) pa_nil)) (by rfl))))
      (pss_one (ps_ret (pe_tup (pa_cons (pe_callB (call_max2 rfl) (by rfl) T.n_max (by decide +kernel) (pa_cons pe_int (pa_cons (pv 3) pa_nil))) (pa_cons (pv 2) pa_nil)))))))), ?_⟩
    -- bottom = 1 << take(bag, most + 1)
    refine ⟨fun v H1 => ∃ j : Nat, j ≤ most ∧ v = .int (2 ^ j) ∧ GR.Bag H1 b ∧ GR.But b H H1, ?_, ?_⟩
    · refine ⟨_, rfl, _, rfl, _, _, rfl, rfl, b, _, rfl, hb, (by show (0 : Int) < (most : Int) + 1; omega), ?_, fun r H1 r0 r1 hb1 f1 => ?_⟩
      · exact Nat.lt_of_lt_of_le (show ((most : Int) + 1).natAbs < 2 ^ 10 by omega) (Nat.pow_le_pow_right (by decide) (by decide))
      obtain ⟨j, rfl⟩ : ∃ j : Nat, r = (j : Int) := ⟨r.toNat, by omega⟩
      have hj : j ≤ most := by omega
      exact ⟨_, _, rfl, rfl, ⟨by omega, by omega, by decide⟩, j, hj, congrArg V.int (pow_shl j), hb1, f1⟩
    rintro _ H1 ⟨j, hj, rfl, hb1, f1⟩
    have hp : (0 : Int) < 2 ^ j := Int.pow_pos (by decide)
    -- top = [1, bottom, bottom - 1, 1 + take(bag, bottom)][take(bag, 4)]
    refine ⟨_, rfl, _, rfl, _, _, rfl, rfl, _, rfl, _, rfl, b, _, rfl, hb1, hp, pow_lt_big hj hm, fun r2 H2 s0 s1 hb2 f2 => ?_⟩
    refine ⟨_, _, rfl, rfl, (by show 4 ≤ sizeLine; decide), fun l nl => ?_⟩
    have hb3 : GR.Bag (upd H2 l (.lst [.int 1, .int (2 ^ j), .int (2 ^ j - 1), .int (1 + r2)])) b := by
      obtain ⟨x, m, e, V⟩ := hb2
      exact ⟨x, m, by rw [upd_ne (ne_of_none e nl)]; exact e, V⟩
    refine ⟨_, rfl, b, 4, rfl, hb3, by decide, by decide, fun r3 H3 t0 t1 hb4 f3 => ?_⟩
    have nlb : l ≠ b := by
      intro e
      subst e
      obtain ⟨_, _, e, _⟩ := hb2
      rw [nl] at e
      cases e
    have hl3 : H3 l = some (.lst [.int 1, .int (2 ^ j), .int (2 ^ j - 1), .int (1 + r2)]) := by
      rw [f3 l nlb, upd_same]
    obtain ⟨top, e3, ht0, ht1⟩ : ∃ top : Int, atI [V.int 1, .int (2 ^ j), .int (2 ^ j - 1), .int (1 + r2)] r3 = some (V.int top) ∧ 0 ≤ top ∧ top ≤ 2 ^ j := by
      have c : r3 = 0 ∨ r3 = 1 ∨ r3 = 2 ∨ r3 = 3 := by omega
      rcases c with rfl | rfl | rfl | rfl
      · exact ⟨1, rfl, by omega, by omega⟩
      · exact ⟨2 ^ j, rfl, by omega, by omega⟩
      · exact ⟨2 ^ j - 1, rfl, by omega, by omega⟩
      · exact ⟨1 + r2, rfl, by omega, by omega⟩
    refine ⟨l, _, _, _, rfl, rfl, SqL.of hl3, e3, ?_⟩
    have fx : GR.SameX b H H3 := ((f1.x.trans f2.x).trans (.new nl)).trans f3.x
    -- while bottom > 1 and top % 2 == 0
    refine ⟨fun m σ H4 => H4 = H3 ∧ ∃ (i : Nat) (u : Int), i ≤ most ∧ m = i ∧ σ = [some (.ref b), some (.int (most : Int)), some (.int (2 ^ i)), some (.int u)] ∧ 0 ≤ u ∧ u ≤ 2 ^ i,
      ⟨j, rfl, j, top, hj, rfl, rfl, ht0, ht1⟩, ?_⟩
    rintro m σ H4 ⟨rfl, i, u, hi, rfl, rfl, u0, u1⟩
    have hpm : (0 : Int) < 2 ^ m := Int.pow_pos (by decide)
    refine ⟨fun c H' => H' = H4 ∧ (c = true → (1 : Int) < 2 ^ m ∧ u % 2 = 0) ∧ (c = false → (2 : Int) ^ m = 1 ∨ u % 2 = 1), ?_, ?_⟩
    · refine ⟨_, rfl, _, _, rfl, rfl, _, rfl, ?_⟩
      refine ite2 (fun e => ?_) (fun e => ?_)
      · have e' : (1 : Int) < 2 ^ m := of_decide_eq_true e
        refine ⟨_, rfl, _, _, rfl, rfl, (by show (0 : Int) < 2; decide), rfl, _, rfl, rfl, fun z => ⟨e', V.int.inj (of_decide_eq_true z)⟩, fun z => .inr ?_⟩
        have z' : ¬ u % 2 = 0 := fun y => of_decide_eq_false z (congrArg V.int y)
        omega
      · have : ¬ (1 : Int) < 2 ^ m := fun z => e (decide_eq_true z)
        exact ⟨rfl, fun z => (nomatch z), fun _ => .inl (by omega)⟩
    rintro c H5 ⟨rfl, ct, cf⟩
    cases c with
    | true =>
      obtain ⟨e', e2'⟩ := ct rfl
      refine iteT ?_
      obtain ⟨i, rfl, ei⟩ := half_pow e'
      refine ⟨fun σ' H' => H' = H5 ∧ σ' = [some (.ref b), some (.int (most : Int)), some (.int (2 ^ i)), some (.int (u / 2))], ?_, ?_⟩
      · rintro σ' H' ⟨rfl, rfl⟩
        refine ⟨i, by omega, rfl, i, u / 2, by omega, rfl, rfl, by omega, ?_⟩
        rw [Int.pow_succ] at u1
        omega
      · refine ⟨_, rfl, _, _, rfl, rfl, ⟨by decide, by decide⟩, _, rfl, _, _, rfl, rfl, ⟨by decide, by decide⟩, _, _, rfl, rfl, ?_⟩
        show [some (V.ref b), some (.int (most : Int)), some (.int (2 ^ (i + 1) / 2)), some (.int (u / 2))] = _
        rw [ei]
    | false =>
      have z := cf rfl
      refine iteF ?_
      refine ⟨_, rfl, _, _, rfl, _, rfl, (by show 2 ≤ sizeLine; decide), fun p np => ?_⟩
      refine q _ _ (if u > 1 then u else 1) (2 ^ m) (fx.trans (.new np)) ?_ ?_ (dp_of2 (.inl (.inl upd_same)))
      · obtain ⟨x, m', e, V⟩ := hb4
        exact ⟨x, m', by rw [upd_ne (ne_of_none e np)]; exact e, V⟩
      · refine ⟨⟨m, hi, rfl⟩, ?_, ?_, ?_⟩
        · split <;> omega
        · split <;> omega
        · rcases z with z | z
          · exact .inl z
          · right
            split
            · exact z
            · rfl

def spLHalf (K : PySem.W.Frag) : Sp := fun vs H Q _ => ∃ x t b, vs = [x] ∧ Dp K H x (.tuple [.int t, .int b]) ∧
  ∀ H' y, Same H H' → Dp K H' y (.tuple [.int t, .int (2 * b)]) → Q y H'
theorem okLawHalf : FnOk P w K mg bs CX0 1 T.fLawHalf T.dLawHalf ["_law_part_here"] (spLHalf K) := by
  refine T.FLawHalf.ok scLawHalf (fun vs H Q E h => ?_) (fun cdv A outer s H vs Q E hr h => ?_)
  · obtain ⟨x, t, b, rfl, _⟩ := h
    rfl
  · obtain ⟨x, t, b, rfl, hd, q⟩ := h
    refine ⟨_, (pss_one (ps_ret (pe_tup (pa_cons (pe_ix ix_tup (pv 0) pe_int (fun _ _ => rfl)) (pa_cons (pe_op op_mul pe_int (pe_ix ix_tup (pv 0) pe_int (fun _ _ => rfl))) pa_nil))))), ?_⟩
    obtain ⟨a, rfl, ha⟩ := dp_two hd
    refine ⟨_, rfl, a, _, _, _, rfl, rfl, ha, atI_nat (j := 0) rfl, _, rfl, a, _, _, _, rfl, rfl, ha, atI_nat (j := 1) rfl, _, _, rfl, rfl, .inl ⟨by decide, by decide⟩, (by show 2 ≤ sizeLine; decide), fun p np => ?_⟩
    exact q _ _ (GR.same_upd np) (dp_of2 (.inl (.inl upd_same)))

def spLaw (K : PySem.W.Frag) : Sp := fun vs H Q _ => ∃ (a : Addr) (ns : List Int), vs = [.ref a] ∧ SqL K H a (ns.map V.int) ∧ ns.length ≤ 63 ∧
  (∀ z ∈ ns, Builtin.Int.intBits z ≤ 1048576) ∧ ∀ H', Q (.bl true) H'
theorem few (n : Nat) : ∃ k : Nat, k ≤ 6 ∧ (if (if ((n : Nat) : Int) < 6 then ((n : Nat) : Int) else 6) > 2 then (if ((n : Nat) : Int) < 6 then ((n : Nat) : Int) else 6) else 2) = (k : Int) := by
  by_cases h : ((n : Nat) : Int) < 6
  · rw [if_pos h]
    by_cases h2 : ((n : Nat) : Int) > 2
    · rw [if_pos h2]
      exact ⟨n, by omega, rfl⟩
    · rw [if_neg h2]
      exact ⟨2, by decide, rfl⟩
  · rw [if_neg h]
    exact ⟨6, by decide, rfl⟩
include T in
theorem okLaw {f : Addr} {fd : FuncData} (F : Fun K "law" "law" sLaw f fd) : GR.FnG P w K mg bs CX0 9 f fd ["_law_script"] (spLaw K) := by
  have GLawBag : FnOk P w K mg bs CX0 1 T.fLawBag T.dLawBag ["_law_script", "_law_at"] (spBag K) := okLawBag T
  have GLawTake : FnOk P w K mg bs CX0 1 T.fLawTake T.dLawTake ["_law_bag_here", "_law_many"] spTake := okLawTake T
  have GLawPart : FnOk P w K mg bs CX0 2 T.fLawPart T.dLawPart ["_law_bag_here", "_law_most"] (spPart K) := okLawPart T
  have GLawHalf : FnOk P w K mg bs CX0 1 T.fLawHalf T.dLawHalf ["_law_part_here"] (spLHalf K) := okLawHalf T
  have GSplit : FnOk P w K mg bs CX0 4 T.fSplit T.dSplit ["address"] (spSplit K) := okSplit T
  refine GR.okG F scLaw (fun vs H Q E h => ?_) (fun cdv A outer s H vs Q E gd hr h => ?_)
  · obtain ⟨a, ns, rfl, _⟩ := h
    rfl
  · obtain ⟨a, ns, rfl, hS, hlen, hbits, q⟩ := h
    refine ⟨_, (pss_cons (ps_for PassesOwn.never rfl (pi_range1 (by rfl) T.n_range (pa_cons (pe_callB (call_max2 rfl) (by rfl) T.n_max (by decide +kernel) (pa_cons pe_int (pa_cons (pe_callB (call_min2 rfl) (by rfl) T.n_min (by decide +kernel) (pa_cons pe_int (pa_cons (pe_callB call_len_seq (by rfl) T.n_len PySem.boot_len (pa_cons (pv 0) pa_nil)) pa_nil))) pa_nil))) pa_nil)) (pg_name (i := 1) scLaw.nd rfl (Or.inl rfl))
      (pss_cons (ps_set (i := 2) scLaw.nd rfl (Or.inl rfl) (pe_call GLawBag (hr.mono (by decide)) (by rfl) T.gLawBag T.FLawBag.kp T.bLawBag .nil pass0 (pa_cons (pv 0) (pa_cons (pv 1) pa_nil))))
      (pss_cons (ps_set (i := 3) scLaw.nd rfl (Or.inl rfl) (pe_tup (pa_cons (pe_call GLawTake (hr.mono (by decide)) (by rfl) T.gLawTake T.FLawTake.kp T.bLawTake .nil pass0 (pa_cons (pv 2) (pa_cons pe_int pa_nil))) (pa_cons (pe_call GLawTake (hr.mono (by decide)) (by rfl) T.gLawTake T.FLawTake.kp T.bLawTake .nil pass0 (pa_cons (pv 2) (pa_cons pe_int pa_nil))) (pa_cons (pe_call GLawTake (hr.mono (by decide)) (by rfl) T.gLawTake T.FLawTake.kp T.bLawTake .nil pass0 (pa_cons (pv 2) (pa_cons pe_int pa_nil))) (pa_cons (pe_call GLawPart (hr.mono (by decide)) (by rfl) T.gLawPart T.FLawPart.kp T.bLawPart .nil pass0 (pa_cons (pv 2) (pa_cons pe_int pa_nil))) pa_nil))))))
      (pss_cons (ps_set (i := 4) scLaw.nd rfl (Or.inl rfl) (pe_op op_catT (pe_slice sl_tup (pv 3) po_none (po_some pe_int)) (pe_tup (pa_cons (pe_call GLawHalf (hr.mono (by decide)) (by rfl) T.gLawHalf T.FLawHalf.kp T.bLawHalf .nil pass0 (pa_cons (pe_ix ix_tup (pv 3) pe_int (fun _ _ => rfl)) pa_nil)) pa_nil))))
      (pss_one (ps_for PassesOwn.never rfl (pi_range1 (by rfl) T.n_range (pa_cons pe_int pa_nil)) (pg_name (i := 5) scLaw.nd rfl (Or.inl rfl))
      (pss_one (ps_if (pt_cmpR op_ne (pe_callB (GR.call_reprD hr gd) (by rfl) T.n_repr (by decide +kernel) (pa_cons (pe_call GSplit (hr.mono (by decide)) (by rfl) T.gSplit T.FSplit.kp T.bSplit .nil pass0 (pa_cons (pv 3) pa_nil)) pa_nil)) (pe_callB (GR.call_reprD hr gd) (by rfl) T.n_repr (by decide +kernel) (pa_cons (pe_tup (pa_cons (pv 4) (pa_cons (pv 4) pa_nil))) pa_nil)) (nomark _)) (pss_one (ps_ret pe_bl)) pss_nil))))))))
      (pss_one (ps_ret pe_bl))), ?_⟩
    -- range(max(2, min(6, len(script))))
    refine ⟨_, rfl, a, _, rfl, .inl hS, _, _, rfl, _, _, rfl, ?_⟩
    obtain ⟨k, hk, ek⟩ := few (ns.map V.int).length
    refine ⟨(k : Int), congrArg (fun z => [V.int z]) ek, by omega, by omega, ?_⟩
    refine for_range (lo := 0) (n := ((k : Nat) : Int).toNat) (fun i σ H1 => ∃ v1 v2 v3 v4 v5, σ = [some (.ref a), v1, v2, v3, v4, v5] ∧ Same H H1) ⟨_, _, _, _, _, rfl, Same.refl H⟩ ?_ ?_
    · rintro i σ H1 hi ⟨v1, v2, v3, v4, v5, rfl, s1⟩
      rw [Int.toNat_natCast] at hi
      -- bag
      refine ⟨_, rfl, _, rfl, a, ns, _, rfl, s1.seq hS, hlen, hbits, by omega, by omega, fun H2 b s2 nb hb => ?_⟩
      have nb0 : H b = none := s1.free nb
      -- the address: three numbers and a part
      refine ⟨_, rfl, b, 6, rfl, hb, by decide, by decide, fun r1 H3 r10 r11 hb3 f3 => ?_⟩
      refine ⟨_, rfl, b, 401, rfl, hb3, by decide, by decide, fun r2 H4 r20 r21 hb4 f4 => ?_⟩
      refine ⟨_, rfl, b, 601, rfl, hb4, by decide, by decide, fun r3 H5 r30 r31 hb5 f5 => ?_⟩
      refine ⟨_, rfl, b, 60, rfl, hb5, by decide, fun H6 y t bt f6 hb6 dr dy => ⟨(by show 4 ≤ sizeLine; decide), fun p np => ?_⟩⟩
      have fx : GR.SameX b H2 H6 := ((f3.x.trans f4.x).trans f5.x).trans f6
      have s6 : Same H H6 := fx.same (s1.trans s2) nb0
      have hp : SqT K (upd H6 p (.tup [.int r1, .int r2, .int r3, y])) p [.int r1, .int r2, .int r3, y] := .inl (.inl upd_same)
      have dy1 := GR.Dp_same (GR.same_upd (o := .tup [.int r1, .int r2, .int r3, y]) np) _ _ dy
      have s7 : Same H6 (upd H6 p (.tup [.int r1, .int r2, .int r3, y])) := GR.same_upd np
      -- less = address[:3] + (half(address[3]),)
      refine ⟨_, rfl, 3, rfl, p, _, rfl, hp, (by show ¬ ((0 : Nat) = 0 ∧ (3 : Nat) = 4); decide), fun p2 np2 => ?_⟩
      have s8 := GR.same_upd (o := .tup (cutV [.int r1, .int r2, .int r3, y] none (some 3))) np2
      refine ⟨_, rfl, p, _, _, _, rfl, rfl, GR.SqT_same s8 hp, atI_nat (j := 3) rfl, y, t, bt, rfl, GR.Dp_same s8 _ _ dy1, fun H9 z s9 dz => ⟨(by show 1 ≤ sizeLine; decide), fun p3 np3 => ?_⟩⟩
      have s10 := GR.same_upd (o := .tup [z]) np3
      have h2 : SqT K (upd H9 p3 (.tup [z])) p2 [.int r1, .int r2, .int r3] := GR.SqT_same (s9.trans s10) (.inl (.inl upd_same))
      refine ⟨p2, p3, _, _, rfl, rfl, h2, .inl (.inl upd_same), by simp, (by show 4 ≤ sizeLine; decide), (fun z => nomatch z), fun _ p4 np4 => ?_⟩
      have s11 := GR.same_upd (o := .tup ([.int r1, .int r2, .int r3] ++ [z])) np4
      have dz2 := GR.Dp_same (s10.trans s11) _ _ dz
      have ha : Dp K (upd (upd H9 p3 (.tup [z])) p4 (.tup ([.int r1, .int r2, .int r3] ++ [z]))) (.ref p) (addrD r1 r2 r3 t bt) :=
        GR.Dp_same (((s8.trans s9).trans s10).trans s11) _ _ (dp_ofA hp dy1)
      have hl : Dp K (upd (upd H9 p3 (.tup [z])) p4 (.tup ([.int r1, .int r2, .int r3] ++ [z]))) (.ref p4) (addrD r1 r2 r3 t (2 * bt)) :=
        dp_ofA (.inl (.inl upd_same)) dz2
      have sA : Same H (upd (upd H9 p3 (.tup [z])) p4 (.tup ([.int r1, .int r2, .int r3] ++ [z]))) := ((((s6.trans s7).trans s8).trans s9).trans s10).trans s11
      revert ha hl sA
      generalize upd (upd H9 p3 (.tup [z])) p4 (.tup ([.int r1, .int r2, .int r3] ++ [z])) = HA
      intro ha hl sA
      -- for again in range(2)
      refine ⟨2, rfl, by decide, by decide, ?_⟩
      refine for_range (lo := 0) (n := ((2 : Nat) : Int).toNat) (fun j σ H1 => ∃ w5, σ = [some (.ref a), some (.int (0 + (i : Nat))), some (.ref b), some (.ref p), some (.ref p4), w5] ∧ Same HA H1) ⟨_, rfl, Same.refl HA⟩ ?_ ?_
      · rintro j σ HB hj ⟨w5, rfl, sB⟩
        refine ⟨_, rfl, .ref p, r1, r2, r3, t, bt, rfl, GR.Dp_same sB _ _ ha, dr.ok, dr.no, fun HC y2 sC dy2 => ?_⟩
        have bd : ∀ i : Int, 0 ≤ i → i < 2 ^ 70 → (PyData.int i).showable = true := fun i h0 h1 => by
          show decide (i.natAbs.log2 < 1920) = true
          refine decide_eq_true ?_
          by_cases hz : i.natAbs = 0
          · rw [hz]; decide
          · exact (Nat.log2_lt hz).mpr (Nat.lt_of_lt_of_le (show i.natAbs < 2 ^ 70 by omega) (Nat.pow_le_pow_right (by decide) (by decide)))
        have btb : bt < 2 ^ 61 := by
          obtain ⟨j', hj', rfl⟩ := dr.pw
          have : (2 : Nat) ^ j' ≤ 2 ^ 60 := Nat.pow_le_pow_right (by decide) hj'
          have e : ((2 : Int) ^ j') = ((2 ^ j' : Nat) : Int) := by simp
          rw [e]
          omega
        have t1 := dr.t1
        have tb := dr.tb
        have hsA : (addrD r1 r2 r3 t (2 * bt)).showable = true := by
          have a1 := bd r1 r10 (by omega)
          have a2 := bd r2 r20 (by omega)
          have a3 := bd r3 r30 (by omega)
          have a4 := bd t (by omega) (by omega)
          have a5 := bd (2 * bt) (by omega) (by omega)
          simp only [addrD, PyData.showable, PyData.showableAll] at *
          simp only [a1, a2, a3, a4, a5, Bool.and_true]
        have hs : (PyData.tuple [addrD r1 r2 r3 t (2 * bt), addrD r1 r2 r3 t (2 * bt)]).showable = true := by
          simp only [PyData.showable, PyData.showableAll, Bool.and_true]
          rw [hsA]
          rfl
        have hdp : (PyData.tuple [addrD r1 r2 r3 t (2 * bt), addrD r1 r2 r3 t (2 * bt)]).depth ≤ 20 := by simp [addrD, PyData.depth, PyData.depthAll]
        have hct : GR.cost (PyData.tuple [addrD r1 r2 r3 t (2 * bt), addrD r1 r2 r3 t (2 * bt)]) ≤ 1000000 := by simp [addrD, GR.cost, GR.costAll]
        refine ⟨y2, _, rfl, dy2, hs, hdp, GR.repr_len dy2 hs hct, fun tx1 e1 => ?_⟩
        refine ⟨_, rfl, _, rfl, (by show 2 ≤ sizeLine; decide), fun p5 np5 => ?_⟩
        have sD := GR.same_upd (o := .tup [.ref p4, .ref p4]) np5
        have hl2 := GR.Dp_same ((sB.trans sC).trans sD) _ _ hl
        have d5 : Dp K (upd HC p5 (.tup [.ref p4, .ref p4])) (.ref p5) (.tuple [addrD r1 r2 r3 t (2 * bt), addrD r1 r2 r3 t (2 * bt)]) := .tup (.inl (.inl upd_same)) (.cons hl2 (.cons hl2 .nil))
        refine ⟨_, _, rfl, d5, hs, hdp, GR.repr_len d5 hs hct, fun tx2 e2 => ?_⟩
        have e3 : tx1 = tx2 := e1.trans e2.symm
        clear e1 e2
        subst e3
        refine ⟨rfl, _, rfl, ?_⟩
        refine iteNS rfl ?_
        exact ⟨_, rfl, (sB.trans sC).trans sD⟩
      · rintro σ HB ⟨w5, rfl, sB⟩
        exact ⟨_, _, _, _, _, rfl, sA.trans sB⟩
    · rintro σ H1 ⟨v1, v2, v3, v4, v5, rfl, s1⟩
      exact q H1
end
theorem all_mk {l : PySem.W.OpenLaw} {w : World} {K : PySem.W.Frag} {h : Heap} {mg : Str → Option Value} {fa : Addr}
    (X : K.In h) (G : h.Ns mainGlobals mg) (hfa : mg "law" = some (.ref fa))
    {f0 : Addr} {od0 an0 : Option Addr} {sl0 : Array (Option Value)} {oc0 kV0 dc0 pm0 cd0 ct0 : Value}
    {f1 : Addr} {od1 an1 : Option Addr} {sl1 : Array (Option Value)} {oc1 kV1 dc1 pm1 cd1 ct1 : Value}
    {f2 : Addr} {od2 an2 : Option Addr} {sl2 : Array (Option Value)} {oc2 kV2 dc2 pm2 cd2 ct2 : Value}
    {f3 : Addr} {od3 an3 : Option Addr} {sl3 : Array (Option Value)} {oc3 kV3 dc3 pm3 cd3 ct3 : Value}
    {f4 : Addr} {od4 an4 : Option Addr} {sl4 : Array (Option Value)} {oc4 kV4 dc4 pm4 cd4 ct4 : Value}
    {f5 : Addr} {od5 an5 : Option Addr} {sl5 : Array (Option Value)} {oc5 kV5 dc5 pm5 cd5 ct5 : Value}
    {f6 : Addr} {od6 an6 : Option Addr} {sl6 : Array (Option Value)} {oc6 kV6 dc6 pm6 cd6 ct6 : Value}
    {f7 : Addr} {od7 an7 : Option Addr} {sl7 : Array (Option Value)} {oc7 kV7 dc7 pm7 cd7 ct7 : Value}
    {f8 : Addr} {od8 an8 : Option Addr} {sl8 : Array (Option Value)} {oc8 kV8 dc8 pm8 cd8 ct8 : Value}
    {f9 : Addr} {od9 an9 : Option Addr} {sl9 : Array (Option Value)} {oc9 kV9 dc9 pm9 cd9 ct9 : Value}
    {qNOTHING : Addr} {qdNOTHING : Option Addr} {qnNOTHING : Nat} {qsNOTHING : Array (Option Value)} {qtNOTHING0 qtNOTHING1 : Tok}
    (a0 : PySem.W.nsIn K mainGlobals "is_whole" = some (some (.ref f0)))
    (l0 : K.lookup f0 = some ⟨oc0, od0, .func (PySem.W.fnOf "is_whole" "is_whole" (defArgs sIsWhole) (defBody sIsWhole) (defScope sIsWhole) .none kV0 dc0 pm0 an0 cd0 ct0), sl0⟩)
    (c0 : PySem.W.codeIn K cd0 "is_whole" = true)
    (k0 : PySem.W.keepIn K (.ref f0) = true)
    (a1 : PySem.W.nsIn K mainGlobals "is_power" = some (some (.ref f1)))
    (l1 : K.lookup f1 = some ⟨oc1, od1, .func (PySem.W.fnOf "is_power" "is_power" (defArgs sIsPower) (defBody sIsPower) (defScope sIsPower) .none kV1 dc1 pm1 an1 cd1 ct1), sl1⟩)
    (c1 : PySem.W.codeIn K cd1 "is_power" = true)
    (k1 : PySem.W.keepIn K (.ref f1) = true)
    (a2 : PySem.W.nsIn K mainGlobals "is_part" = some (some (.ref f2)))
    (l2 : K.lookup f2 = some ⟨oc2, od2, .func (PySem.W.fnOf "is_part" "is_part" (defArgs sIsPart) (defBody sIsPart) (defScope sIsPart) .none kV2 dc2 pm2 an2 cd2 ct2), sl2⟩)
    (c2 : PySem.W.codeIn K cd2 "is_part" = true)
    (k2 : PySem.W.keepIn K (.ref f2) = true)
    (a3 : PySem.W.nsIn K mainGlobals "half" = some (some (.ref f3)))
    (l3 : K.lookup f3 = some ⟨oc3, od3, .func (PySem.W.fnOf "half" "half" (defArgs sHalf) (defBody sHalf) (defScope sHalf) .none kV3 dc3 pm3 an3 cd3 ct3), sl3⟩)
    (c3 : PySem.W.codeIn K cd3 "half" = true)
    (k3 : PySem.W.keepIn K (.ref f3) = true)
    (a4 : PySem.W.nsIn K mainGlobals "split" = some (some (.ref f4)))
    (l4 : K.lookup f4 = some ⟨oc4, od4, .func (PySem.W.fnOf "split" "split" (defArgs sSplit) (defBody sSplit) (defScope sSplit) .none kV4 dc4 pm4 an4 cd4 ct4), sl4⟩)
    (c4 : PySem.W.codeIn K cd4 "split" = true)
    (k4 : PySem.W.keepIn K (.ref f4) = true)
    (a5 : PySem.W.nsIn K mainGlobals "_law_bag" = some (some (.ref f5)))
    (l5 : K.lookup f5 = some ⟨oc5, od5, .func (PySem.W.fnOf "_law_bag" "_law_bag" (defArgs sLawBag) (defBody sLawBag) (defScope sLawBag) .none kV5 dc5 pm5 an5 cd5 ct5), sl5⟩)
    (c5 : PySem.W.codeIn K cd5 "_law_bag" = true)
    (k5 : PySem.W.keepIn K (.ref f5) = true)
    (a6 : PySem.W.nsIn K mainGlobals "_law_take" = some (some (.ref f6)))
    (l6 : K.lookup f6 = some ⟨oc6, od6, .func (PySem.W.fnOf "_law_take" "_law_take" (defArgs sLawTake) (defBody sLawTake) (defScope sLawTake) .none kV6 dc6 pm6 an6 cd6 ct6), sl6⟩)
    (c6 : PySem.W.codeIn K cd6 "_law_take" = true)
    (k6 : PySem.W.keepIn K (.ref f6) = true)
    (a7 : PySem.W.nsIn K mainGlobals "_law_part" = some (some (.ref f7)))
    (l7 : K.lookup f7 = some ⟨oc7, od7, .func (PySem.W.fnOf "_law_part" "_law_part" (defArgs sLawPart) (defBody sLawPart) (defScope sLawPart) .none kV7 dc7 pm7 an7 cd7 ct7), sl7⟩)
    (c7 : PySem.W.codeIn K cd7 "_law_part" = true)
    (k7 : PySem.W.keepIn K (.ref f7) = true)
    (a8 : PySem.W.nsIn K mainGlobals "_law_half" = some (some (.ref f8)))
    (l8 : K.lookup f8 = some ⟨oc8, od8, .func (PySem.W.fnOf "_law_half" "_law_half" (defArgs sLawHalf) (defBody sLawHalf) (defScope sLawHalf) .none kV8 dc8 pm8 an8 cd8 ct8), sl8⟩)
    (c8 : PySem.W.codeIn K cd8 "_law_half" = true)
    (k8 : PySem.W.keepIn K (.ref f8) = true)
    (a9 : PySem.W.nsIn K mainGlobals "law" = some (some (.ref f9)))
    (l9 : K.lookup f9 = some ⟨oc9, od9, .func (PySem.W.fnOf "law" "law" (defArgs sLaw) (defBody sLaw) (defScope sLaw) .none kV9 dc9 pm9 an9 cd9 ct9), sl9⟩)
    (c9 : PySem.W.codeIn K cd9 "law" = true)
    (k9 : PySem.W.keepIn K (.ref f9) = true)
    (z_isinstance : PySem.W.nsIn K mainGlobals "isinstance" = some none)
    (z_int : PySem.W.nsIn K mainGlobals "int" = some none)
    (z_bool : PySem.W.nsIn K mainGlobals "bool" = some none)
    (z_tuple : PySem.W.nsIn K mainGlobals "tuple" = some none)
    (z_len : PySem.W.nsIn K mainGlobals "len" = some none)
    (z_all : PySem.W.nsIn K mainGlobals "all" = some none)
    (z_enumerate : PySem.W.nsIn K mainGlobals "enumerate" = some none)
    (z_abs : PySem.W.nsIn K mainGlobals "abs" = some none)
    (z_max : PySem.W.nsIn K mainGlobals "max" = some none)
    (z_range : PySem.W.nsIn K mainGlobals "range" = some none)
    (z_min : PySem.W.nsIn K mainGlobals "min" = some none)
    (z_repr : PySem.W.nsIn K mainGlobals "repr" = some none)
    (q1NOTHING : PySem.W.nsIn K mainGlobals "NOTHING" = some (some (.ref qNOTHING)))
    (q2NOTHING : K.lookup qNOTHING = some ⟨.type "tuple", qdNOTHING, .seq #[.int 0 qtNOTHING0, .int 1 qtNOTHING1] qnNOTHING, qsNOTHING⟩)
    : ∃ fd : FuncData, (∀ (s : Shared) (v : Value), BindsTo s fd ⟨[v], []⟩ [("_law_script", v)]) ∧
      ∀ bs : Heap, K.In bs → bs.Ns mainGlobals mg → GR.FnG l.prog w K mg bs CX0 9 fa fd ["_law_script"] (spLaw K) := by
  have e := hfa.symm.trans (PySem.W.mg_of X G a9)
  cases e
  have F0 := fun_mk (st := sIsWhole) l0 c0 k0
  have b0 := F0.binds (ps := ["thing"]) fun _ _ _ _ _ _ us hl => match us, hl with | [_], _ => rfl
  have F1 := fun_mk (st := sIsPower) l1 c1 k1
  have b1 := F1.binds (ps := ["number"]) fun _ _ _ _ _ _ us hl => match us, hl with | [_], _ => rfl
  have F2 := fun_mk (st := sIsPart) l2 c2 k2
  have b2 := F2.binds (ps := ["thing"]) fun _ _ _ _ _ _ us hl => match us, hl with | [_], _ => rfl
  have F3 := fun_mk (st := sHalf) l3 c3 k3
  have b3 := F3.binds (ps := ["part"]) fun _ _ _ _ _ _ us hl => match us, hl with | [_], _ => rfl
  have F4 := fun_mk (st := sSplit) l4 c4 k4
  have b4 := F4.binds (ps := ["address"]) fun _ _ _ _ _ _ us hl => match us, hl with | [_], _ => rfl
  have F5 := fun_mk (st := sLawBag) l5 c5 k5
  have b5 := F5.binds (ps := ["_law_script", "_law_at"]) fun _ _ _ _ _ _ us hl => match us, hl with | [_, _], _ => rfl
  have F6 := fun_mk (st := sLawTake) l6 c6 k6
  have b6 := F6.binds (ps := ["_law_bag_here", "_law_many"]) fun _ _ _ _ _ _ us hl => match us, hl with | [_, _], _ => rfl
  have F7 := fun_mk (st := sLawPart) l7 c7 k7
  have b7 := F7.binds (ps := ["_law_bag_here", "_law_most"]) fun _ _ _ _ _ _ us hl => match us, hl with | [_, _], _ => rfl
  have F8 := fun_mk (st := sLawHalf) l8 c8 k8
  have b8 := F8.binds (ps := ["_law_part_here"]) fun _ _ _ _ _ _ us hl => match us, hl with | [_], _ => rfl
  have F9 := fun_mk (st := sLaw) l9 c9 k9
  have b9 := F9.binds (ps := ["_law_script"]) fun _ _ _ _ _ _ us hl => match us, hl with | [_], _ => rfl
  have T : Txt K mg := {
    fIsWhole := _,
    dIsWhole := _,
    FIsWhole := F0,
    bIsWhole := b0,
    gIsWhole := PySem.W.mg_of X G a0,
    fIsPower := _,
    dIsPower := _,
    FIsPower := F1,
    bIsPower := b1,
    gIsPower := PySem.W.mg_of X G a1,
    fIsPart := _,
    dIsPart := _,
    FIsPart := F2,
    bIsPart := b2,
    gIsPart := PySem.W.mg_of X G a2,
    fHalf := _,
    dHalf := _,
    FHalf := F3,
    bHalf := b3,
    gHalf := PySem.W.mg_of X G a3,
    fSplit := _,
    dSplit := _,
    FSplit := F4,
    bSplit := b4,
    gSplit := PySem.W.mg_of X G a4,
    fLawBag := _,
    dLawBag := _,
    FLawBag := F5,
    bLawBag := b5,
    gLawBag := PySem.W.mg_of X G a5,
    fLawTake := _,
    dLawTake := _,
    FLawTake := F6,
    bLawTake := b6,
    gLawTake := PySem.W.mg_of X G a6,
    fLawPart := _,
    dLawPart := _,
    FLawPart := F7,
    bLawPart := b7,
    gLawPart := PySem.W.mg_of X G a7,
    fLawHalf := _,
    dLawHalf := _,
    FLawHalf := F8,
    bLawHalf := b8,
    gLawHalf := PySem.W.mg_of X G a8,
    fLaw := _,
    dLaw := _,
    FLaw := F9,
    bLaw := b9,
    gLaw := PySem.W.mg_of X G a9,
    n_isinstance := PySem.W.mg_none_of X G z_isinstance,
    n_int := PySem.W.mg_none_of X G z_int,
    n_bool := PySem.W.mg_none_of X G z_bool,
    n_tuple := PySem.W.mg_none_of X G z_tuple,
    n_len := PySem.W.mg_none_of X G z_len,
    n_all := PySem.W.mg_none_of X G z_all,
    n_enumerate := PySem.W.mg_none_of X G z_enumerate,
    n_abs := PySem.W.mg_none_of X G z_abs,
    n_max := PySem.W.mg_none_of X G z_max,
    n_range := PySem.W.mg_none_of X G z_range,
    n_min := PySem.W.mg_none_of X G z_min,
    n_repr := PySem.W.mg_none_of X G z_repr,
    cNOTHING := qNOTHING,
    gNOTHING := PySem.W.mg_of X G q1NOTHING,
    qNOTHING := fun H => .inr ⟨_, _, _, q2NOTHING, rfl, rfl, (by show 2 ≤ sizeLine; decide), .cons ⟨_, rfl⟩ (.cons ⟨_, rfl⟩ (.nil))⟩ }
  exact ⟨PySem.W.fnOf "law" "law" (defArgs sLaw) (defBody sLaw) (defScope sLaw) .none kV9 dc9 pm9 an9 cd9 ct9, fun s v => .of_eq rfl, fun bs _ _ => okLaw T F9⟩
end K05
open PySem PySem.W PyProof.Rows
set_option maxRecDepth 100000 in
set_option maxHeartbeats 0 in
theorem PySem.Challenge.cw_trailparts_k05_addresses_split_holds : PySem.Challenge.rw_trailparts_k05_addresses_split.Holds := by
  w_on; o_law; k_head; (case hw => w_witness2)
  k_fill
  refine GR.walk_g (l := PySem.Challenge.rw_trailparts_k05_addresses_split) (n := 63) (k := 9) (x := "_law_script") (sp := K05.spLaw) rfl (by decide) rfl ⟨rfl, by decide, by decide⟩ (fun w h Y => PySem.W.kIn_of Y) ?F (fun K H a ns hl hb _ hS => ⟨a, ns, rfl, hS, hl, hb, fun _ => rfl⟩)
  case F =>
    intro w mg fa h KX G hmg
    refine' K05.all_mk KX G hmg ?a0 ?l0 ?c0 ?k0 ?a1 ?l1 ?c1 ?k1 ?a2 ?l2 ?c2 ?k2 ?a3 ?l3 ?c3 ?k3 ?a4 ?l4 ?c4 ?k4 ?a5 ?l5 ?c5 ?k5 ?a6 ?l6 ?c6 ?k6 ?a7 ?l7 ?c7 ?k7 ?a8 ?l8 ?c8 ?k8 ?a9 ?l9 ?c9 ?k9 ?z_isinstance ?z_int ?z_bool ?z_tuple ?z_len ?z_all ?z_enumerate ?z_abs ?z_max ?z_range ?z_min ?z_repr ?q1NOTHING ?q2NOTHING
    (case a0 => k_is)
    (case l0 => k_is)
    (case c0 => k_is)
    (case k0 => k_is)
    (case a1 => k_is)
    (case l1 => k_is)
    (case c1 => k_is)
    (case k1 => k_is)
    (case a2 => k_is)
    (case l2 => k_is)
    (case c2 => k_is)
    (case k2 => k_is)
    (case a3 => k_is)
    (case l3 => k_is)
    (case c3 => k_is)
    (case k3 => k_is)
    (case a4 => k_is)
    (case l4 => k_is)
    (case c4 => k_is)
    (case k4 => k_is)
    (case a5 => k_is)
    (case l5 => k_is)
    (case c5 => k_is)
    (case k5 => k_is)
    (case a6 => k_is)
    (case l6 => k_is)
    (case c6 => k_is)
    (case k6 => k_is)
    (case a7 => k_is)
    (case l7 => k_is)
    (case c7 => k_is)
    (case k7 => k_is)
    (case a8 => k_is)
    (case l8 => k_is)
    (case c8 => k_is)
    (case k8 => k_is)
    (case a9 => k_is)
    (case l9 => k_is)
    (case c9 => k_is)
    (case k9 => k_is)
    (case z_isinstance => k_is)
    (case z_int => k_is)
    (case z_bool => k_is)
    (case z_tuple => k_is)
    (case z_len => k_is)
    (case z_all => k_is)
    (case z_enumerate => k_is)
    (case z_abs => k_is)
    (case z_max => k_is)
    (case z_range => k_is)
    (case z_min => k_is)
    (case z_repr => k_is)
    (case q1NOTHING => k_is)
    (case q2NOTHING => k_is)
