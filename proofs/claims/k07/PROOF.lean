import PyProof.Rows.All
import Wide.All
import OpenK.AllK
import Wide.FinOn
import HandS.ForMost
import HandS.ForExc
import HandS.EndBits
import HandS.RaiseMore
import HandS.IsInst
import HandS.Wide
import HandS.WideMore
import HandS.Style
import HandS.Deep
import HandS.Text
import HandS.Walk
import PySem.Challenge.RW_trailparts_k07_deeds_known
set_option Elab.async false
set_option linter.all false
set_option maxRecDepth 100000
set_option maxHeartbeats 4000000
/-! # Calls that know that no repr is under way (guards empty) -/
namespace GR
open PySem PySem.Spec PyProof.Rows L2
/-- as FnOk, where nobody around is within a repr -/
structure FnG (P : Program) (w : World) (K : PySem.W.Frag) (mg : Str → Option Value) (bs : Heap) (CX : CXT)
    (k : Nat) (f : Addr) (fd : FuncData) (ps : List Str) (sp : Sp) : Prop where
  len : ∀ vs H Q E, sp vs H Q E → vs.length = ps.length
  run : ∀ (A : Around) (out : List Env) (s : Shared) (H : Hp) (ar : Args) (us : List Value) (vs : List V) (Q : VK) (E : XK),
    A.guards = some [] → Room k A → Env0 P w K mg bs A out s H → BindsTo s fd ar (ps.zip us) → Vals vs us → sp vs H Q E →
    codeAny (model P w) A (.call (.ref f) ar) (CR CX out P w H s Q E) s
section
variable {P : Program} {w : World} {K : PySem.W.Frag} {mg : Str → Option Value} {bs : Heap} {CX : CXT} {j k : Nat}
  {f : Addr} {fd : FuncData} {ps : List Str} {sp sp' : Sp}
theorem FnG.of (F : FnOk P w K mg bs CX k f fd ps sp) : FnG P w K mg bs CX k f fd ps sp :=
  ⟨F.len, fun A out s H ar us vs Q E _ => F.run A out s H ar us vs Q E⟩
theorem FnG.mono (F : FnG P w K mg bs CX j f fd ps sp) (h : j ≤ k) : FnG P w K mg bs CX k f fd ps sp :=
  ⟨F.len, fun A out s H ar us vs Q E g hr => F.run A out s H ar us vs Q E g (hr.mono h)⟩
/-- a def by its body -/
theorem fn_g {nm qual : Str} {params : Arguments} {body : List Stmt} {scope : Scope} {dV kV doc pm cdv ct oc : Value}
    {an od : Option Addr} {osl : Array (Option Value)} {N : List Str}
    (lk : K.lookup f = some ⟨oc, od, .func (PySem.W.fnOf nm qual params body scope dV kV doc pm an cdv ct), osl⟩)
    (hcd : PySem.W.codeIn K cdv qual = true) (S : FnScope N ps scope)
    (len : ∀ vs H Q E, sp vs H Q E → vs.length = ps.length)
    (hbody : ∀ (A : Around) (out : List Env) (s : Shared) (H : Hp) (vs : List V) (Q : VK) (E : XK), A.guards = some [] →
      Room k (A.deeper (envOfC qual scope s.heap.objs.size f cdv)) → sp vs H Q E →
      ∃ t, PSs (cxOf CX P w K mg bs N qual scope f cdv A out s H E) body t ∧
        t { nx := fun _ H' => Q .non H', rt := Q } (start N vs) H) :
    FnG P w K mg bs CX (k + 1) f (PySem.W.fnOf nm qual params body scope dV kV doc pm an cdv ct) ps sp := by
  refine ⟨len, fun A out s H ar us vs Q E hgd hr e0 hb r hsp => ?_⟩
  have hl := len _ _ _ _ hsp
  have KX : K.In s.heap := e0.mod.kin.keeps fun b o z => (e0.bs b o z).1
  have lim : s.heap.NoLimit := e0.mod.nolimit.keeps fun b o z => (e0.bs b o z).1
  have hkd : ∀ y ∈ ps.zip us, scope.names.lookup y.1 = some .local ∨
      (scope.names.lookup y.1 = some .cell ∧ ((cellsFrom (s.heap.objs.size + 1) scope.names []).lookup y.1).isSome = true) := fun ⟨n, v⟩ hy => by
    rcases S.par n (List.of_mem_zip hy).1 with z | z
    · exact .inl z
    · exact .inr ⟨z, PySem.W.cellsFrom_some _ _ _ (.inl z)⟩
  refine codeAny_call_function hr.depth (KX _ _ lk) rfl S.co S.gen rfl
    (PySem.W.codeRec_of KX hcd) (hb _ _ _ _ ?_)
  refine wpAny_newFunctionEnv_cells S.kind hkd fun ev hev s1 x => ?_
  subst hev
  refine ⟨lim.keeps x.toInCall.keep, codeAny_func ?_⟩
  obtain ⟨t, ht, hq⟩ := hbody A out s H vs Q E hgd (hr.deeper _) hsp
  have I : Inv (cxOf CX P w K mg bs N qual scope f cdv A out s H E) [] (start N vs) H s1 := inv_start S hr.hd e0 hl r x
  refine wpAny_mono (ht.run [] s1 (start N vs) H _ I hq) (fun fl s' hs => ?_) fun _ _ hs => hs
  have fin : ∀ {σ' : L2.St} {H' : Hp} {v : V} {u : Value},
      Inv (cxOf CX P w K mg bs N qual scope f cdv A out s H E) [] σ' H' s' → RelV v u → Q v H' → CE out P w H s Q u s' :=
    fun {σ' H' v u} J rv q => ⟨v, H', J.os, J.bare, J.base, J.hok, rv, q⟩
  cases fl with
  | ret u =>
    obtain ⟨v, _, _, J, rv, z⟩ := hs
    exact fin J rv z
  | next =>
    obtain ⟨_, _, J, z⟩ := hs
    exact fin (v := V.non) (u := Value.none) J rfl z
  | brk =>
    obtain ⟨_, _, _, z⟩ := hs
    exact z.elim
  | cont =>
    obtain ⟨_, _, _, z⟩ := hs
    exact z.elim
theorem okG {x qual : Str} {st : Stmt} {N : List Str} (F : Fun K x qual st f fd) (S : FnScope N ps (defScope st))
    (len : ∀ vs H Q E, sp vs H Q E → vs.length = ps.length)
    (hbody : ∀ (cdv : Value) (A : Around) (out : List Env) (s : Shared) (H : Hp) (vs : List V) (Q : VK) (E : XK), A.guards = some [] →
      Room k (A.deeper (envOfC qual (defScope st) s.heap.objs.size f cdv)) → sp vs H Q E →
      ∃ t, PSs (cxOf CX0 P w K mg bs N qual (defScope st) f cdv A out s H E).nox (defBody st) t ∧
        t { nx := fun _ H' => Q .non H', rt := Q } (start N vs) H) : FnG P w K mg bs CX0 (k + 1) f fd ps sp := by
  obtain ⟨oc, od, kV, doc, pm, an, cdv, ct, osl, rfl, lk, hcd⟩ := F.ex
  refine fn_g lk hcd S len fun A out s H vs Q E hg hr hsp => ?_
  obtain ⟨t, h, q⟩ := hbody cdv A out s H vs Q E hg hr hsp
  exact ⟨t, h.nox, q⟩
theorem okXG {x qual : Str} {st : Stmt} {N : List Str} (F : Fun K x qual st f fd) (S : FnScope N ps (defScope st))
    (len : ∀ vs H Q E, sp vs H Q E → vs.length = ps.length)
    (hbody : ∀ (cdv : Value) (A : Around) (out : List Env) (s : Shared) (H : Hp) (vs : List V) (Q : VK) (E : XK), A.guards = some [] →
      Room k (A.deeper (envOfC qual (defScope st) s.heap.objs.size f cdv)) → sp vs H Q E →
      ∃ t, PSs (cxOf (L2.CX P w) P w K mg bs N qual (defScope st) f cdv A out s H E) (defBody st) t ∧
        t { nx := fun _ H' => Q .non H', rt := Q } (start N vs) H) : FnG P w K mg bs (L2.CX P w) (k + 1) f fd ps sp := by
  obtain ⟨oc, od, kV, doc, pm, an, cdv, ct, osl, rfl, lk, hcd⟩ := F.ex
  exact fn_g lk hcd S len fun A out s H vs Q E hg hr hsp => hbody cdv A out s H vs Q E hg hr hsp
end
section
variable {X : Cx} {CX : CXT} {k : Nat} {f : Addr} {fd : FuncData} {ps : List Str} {sp : Sp} {dvs : List V} {ds : List Value}
  {E : XK} {x : Str} {p pos : Pos} {e : Expr} {es : List Expr} {t : TA}
theorem run_g {pins : List (Addr × Obj)} {σ : L2.St} {H : Hp} {s : Shared} {Q : VK} {us : List Value} {vs : List V}
    (F : FnG X.prog X.w X.K X.mg X.base CX k f fd ps sp) (gd : X.A.guards = some []) (hr : Room k X.A) (hb : Binds X.K fd ps ds)
    (hd : Vals dvs ds) (hx : Passes CX X E) (I : Inv X pins σ H s) (r : Vals vs us) (h : sp (vs ++ dvs) H Q E) :
    wpAny (model X.prog X.w) X.A (call (.ref f) us) (EP X pins σ Q) X.xe s := by
  have r2 : Vals (vs ++ dvs) (us ++ ds) := r.append hd
  have hl : (us ++ ds).length = ps.length := by rw [← r2.length]; exact F.len _ _ _ _ h
  refine wpAny_call (codeAny_mono (F.run X.A X.stack s H ⟨us, []⟩ (us ++ ds) (vs ++ dvs) Q E gd hr I.env0
    (hb s us I.kIn hl) r2 h) fun r s' hq => ?_)
  cases r with
  | error e => exact hx pins σ H s e s' I hq
  | ok fl =>
    cases fl with
    | ret u => exact I.after hq
    | next => exact hq.elim
    | brk => exact hq.elim
    | cont => exact hq.elim
/-- f(e, ..) -/
theorem pe_callG (F : FnG X.prog X.w X.K X.mg X.base CX k f fd ps sp) (gd : X.A.guards = some []) (hr : Room k X.A) (hg : Gl X x)
    (hm : X.mg x = some (.ref f)) (hk : PySem.W.keepIn X.K (.ref f) = true) (hb : Binds X.K fd ps ds) (hd : Vals dvs ds) (hx : Passes CX X E)
    (ha : PA X (e :: es) t) (hdb : (x == ("__debug__" : Str)) = false := by decide)
    (he : starEach (e :: es) X.env = (false, eval e X.env) :: starEach es X.env := by rfl)
    (hpl : (backTo pos (starEach es X.env)).any (·.1) = false := by rfl) :
    PE X (.Call (.Name x p) (e :: es) [] pos) (tCall sp dvs E t) := by
  refine ⟨fun pins s σ H Q I h => ?_⟩
  refine wpAny_Call_Name_kw (ld_glob I hg hm ?_ hdb)
  refine PySem.W.callWith_K (h₀ := X.base) I.ok.mod.kin hk (thn (ha.run pos pins s σ H _ I h)
    fun us s1 ⟨vs, H1, I1, r, q⟩ => ⟨I1.kIn, ?_⟩) he hpl
  exact run_g F gd hr hb hd hx I1 r q
end
/-! ## repr of data -/
section
variable {X : Cx}
mutual
theorem Dp_noDict {K : PySem.W.Frag} {H : Hp} : ∀ (d : PyData) (v : V), Dp K H v d → d.hasDict = false
  | .none, _, _ => rfl
  | .bool _, _, _ => rfl
  | .int _, _, _ => rfl
  | .str _, _, _ => rfl
  | .list ds, _, .lst _ h => by simpa only [PyData.hasDict] using DpAll_noDict ds _ h
  | .tuple ds, _, .tup _ h => by simpa only [PyData.hasDict] using DpAll_noDict ds _ h
  | .dict _, _, h => by cases h
theorem DpAll_noDict {K : PySem.W.Frag} {H : Hp} : ∀ (ds : List PyData) (vs : List V), DpAll K H vs ds → PyData.hasDictAll ds = false
  | [], _, _ => rfl
  | d :: ds, _, .cons h1 h2 => by rw [PyData.hasDictAll, Dp_noDict d _ h1, DpAll_noDict ds _ h2]; rfl
end
/-- repr(x), x data (Dp): its text -/
def rRepr (K : PySem.W.Frag) : List V → Hp → VK → Prop := fun xs H Q => ∃ x d, xs = [x] ∧ Dp K H x d ∧ d.showable = true ∧
  d.depth ≤ 20 ∧ d.shown.length ≤ sizeLine ∧ ∀ tx, tx = d.shown → Q (.str tx) H
theorem call_reprD {k : Nat} (hr : Room k X.A) (gd : X.A.guards = some []) : CallR X (.builtin "repr") (rRepr X.K) := by
  intro pins s σ H xs us Q I r h
  obtain ⟨x, d, rfl, hd, hs, hdp, hl, q0⟩ := h
  have q := q0 d.shown rfl
  cases r with
  | cons r1 r2 =>
    cases r2
    rename_i u
    cases hd with
    | non =>
      obtain rfl : u = Value.none := r1
      exact PySem.P.repr_of_none ⟨.str _, H, I.tok _, ⟨_, rfl⟩, q⟩
    | bl b =>
      obtain rfl : u = Value.bool b := r1
      exact PySem.P.repr_of_bool ⟨.str _, H, I.tok _, ⟨_, rfl⟩, q⟩
    | int i =>
      obtain ⟨t, rfl⟩ := r1
      exact PySem.P.repr_of_int (by simpa [PyData.showable] using hs) ⟨.str _, H, I.tok _, ⟨_, rfl⟩, q⟩
    | str z =>
      obtain ⟨t, rfl⟩ := r1
      exact PySem.P.repr_of_str ⟨.str _, H, I.tok _, ⟨_, rfl⟩, q⟩ hl
    | @lst a xs ds h1 h2 =>
      obtain ⟨as, rd⟩ := Dp.reads I _ _ _ (.lst h1 h2) r1
      cases (show u = Value.ref a from r1)
      have hu := hr.un
      refine repr_of_reads' rd hs (PyData.noDict_hsm ?_) gd (by omega) (fun _ _ z => z) (fun h' u tk hk => ?_) hl
      · exact Dp_noDict _ _ (.lst h1 h2)
      · exact ⟨.str _, H, I.kept hk, ⟨_, rfl⟩, q⟩
    | @tup a xs ds h1 h2 =>
      obtain ⟨as, rd⟩ := Dp.reads I _ _ _ (.tup h1 h2) r1
      cases (show u = Value.ref a from r1)
      have hu := hr.un
      refine repr_of_reads' rd hs (PyData.noDict_hsm ?_) gd (by omega) (fun _ _ z => z) (fun h' u tk hk => ?_) hl
      · exact Dp_noDict _ _ (.tup h1 h2)
      · exact ⟨.str _, H, I.kept hk, ⟨_, rfl⟩, q⟩
end
/-! ## the law's own call -/
theorem law_callG {P : Program} {w : World} {K : PySem.W.Frag} {mg mb : Str → Option Value} {CX : CXT} {k : Nat} {fa a : Addr}
    {fd : FuncData} {x : Str} {sp : Sp} {s1 : Shared} {vs : List Value} {ns : List Int} (KX : K.In s1.heap)
    (hns : s1.heap.Ns mainGlobals mg) (hb : s1.heap.Ns builtinsNs mb) (hbb : ∀ x : Str, x ≠ "__name__" → mb x = bootBuiltins x)
    (hlim : s1.heap.NoLimit) (hg : s1.gens = #[]) (ha : s1.heap.get? a = some { cls := .type "list", data := .seq vs.toArray })
    (hi : IntsAre vs ns) (hl : ns.length ≤ sizeLine) (hr : Room k callerA)
    (F : ∀ bs : Heap, K.In bs → bs.Ns mainGlobals mg → FnG P w K mg bs CX k fa fd [x] sp)
    (hbind : ∀ (s : Shared) (u : Value), BindsTo s fd ⟨[u], []⟩ [(x, u)])
    (hsp : ∀ H : Hp, Only H → SqL K H a (ns.map V.int) → sp [.ref a] H (fun v _ => v = .bl true) fun _ _ _ => False)
    (hCX : ∀ H e s', CX [] H s1 (fun _ _ _ => False) e s' → False) :
    codeAny (model P w) callerA (.call (.ref fa) ⟨[.ref a], []⟩)
      (fun r s' => r = .ok (.ret (.bool true)) ∧ OldK s1.heap s'.heap ∧ s'.os = s1.os ∧ AllBare s'.gens) s1 := by
  have rv := vals_ints hi
  have lenV := hi.length
  have core : ∀ H : Hp, Only H → SqL K H a (ns.map V.int) → HOk P w H s1.heap → (∀ b, H b ≠ none → b = a) →
      (H a ≠ none → K.lookup a = none) → codeAny (model P w) callerA (.call (.ref fa) ⟨[.ref a], []⟩)
      (fun r s' => r = .ok (.ret (.bool true)) ∧ OldK s1.heap s'.heap ∧ s'.os = s1.os ∧ AllBare s'.gens) s1 := by
    intro H hO hS hok hA hK
    have bof : ∀ {b : Addr} {o : Obj}, s1.heap.get? b = some o → H b = none → (hidT s1.heap H).get? b = some o := fun z n => hidT_get z n
    have noA : ∀ {b : Addr} {o : Obj} {es : Array DictEntry} {ep : Nat}, s1.heap.get? b = some o → o.data = .dict es ep → H b = none := by
      intro b o es ep z d
      cases q : H b with
      | none => rfl
      | some u =>
        have z' : b = a := hA b (by rw [q]; simp)
        subst z'
        rw [ha] at z; cases z
        have d' : Data.seq vs.toArray _ = Data.dict es ep := d
        cases d'
    have nsK : ∀ {b : Addr} {m : Str → Option Value}, s1.heap.Ns b m → (hidT s1.heap H).Ns b m :=
      fun {b m} ⟨o, es, ep, z, d, r⟩ => ⟨o, es, ep, bof z (noA z d), d, r⟩
    have hKb : K.In (hidT s1.heap H) := fun b o z => bof (KX b o z) (by
      cases q : H b with
      | none => rfl
      | some u =>
        have z' : b = a := hA b (by rw [q]; simp)
        subst z'
        rw [hK (by rw [q]; simp)] at z; cases z)
    have hM : Mod K mg (hidT s1.heap H) := ⟨hKb, nsK hns, ⟨mb, nsK hb, hbb⟩, let ⟨mc, y1, y2⟩ := hlim; ⟨mc, nsK y1, y2⟩⟩
    have e0 : Env0 P w K mg (hidT s1.heap H) callerA [] s1 H := ⟨rfl, hM, fun b o z => of_hidT z,
      Nat.le_of_eq (hidT_size _ _), trivial, fun b hb => absurd (show b ∈ ([] : List Addr) from hb) (by simp), hok, .of_eq hg⟩
    refine codeAny_mono ((F _ hKb (nsK hns)).run callerA [] s1 H ⟨[.ref a], []⟩ [.ref a] [.ref a] _ _ rfl hr e0
      (hbind s1 (.ref a)) (.cons rfl .nil) (hsp H hO hS)) fun r s' h => ?_
    cases r with
    | error e => exact (hCX H e s' h).elim
    | ok fl =>
      cases fl with
      | next => exact h.elim
      | brk => exact h.elim
      | cont => exact h.elim
      | ret u =>
        obtain ⟨v, H', os, bare, un, hok', r', q⟩ := h
        have q' : v = .bl true := q
        subst q'
        obtain rfl : u = Value.bool true := r'
        refine ⟨rfl, OldK.of_keep fun b o z => ?_, os, bare⟩
        cases q : H b with
        | none => exact un.keep b o z q (by intro y; exact absurd (show b ∈ ([] : List Addr) from y) (by simp)) (by simp)
        | some u =>
          rcases hO b with y | ⟨ob, xs, y⟩
          · rw [q] at y; cases y
          · have y2 := un.frzs b ob _ y
            obtain ⟨y3, _⟩ := hok b _ y
            obtain ⟨y4, _⟩ := hok' b _ y2
            rw [z] at y3; cases y3
            exact y4
  cases hk : K.lookup a with
  | some o =>
    have z := KX a o hk
    rw [ha] at z
    cases z
    refine core (fun _ => none) (fun _ => .inl rfl) (.inr ⟨_, vs.toArray, _, hk, rfl, rfl, rfl, by rw [List.size_toArray, lenV]; exact hl,
      by simpa using rv⟩) (fun b u z => by have z' : (none : Option HO) = some u := z; cases z') (fun b z => absurd rfl z) fun z => absurd rfl z
  | none =>
    refine core (fun b => if b = a then some (.frz { cls := .type "list", data := .seq vs.toArray } (.lst (ns.map V.int))) else none)
      (fun b => ?_) (.inl (.inr ⟨{ cls := .type "list", data := .seq vs.toArray }, if_pos rfl⟩)) (fun b u z => ?_) (fun b z => ?_) fun _ => hk
    · by_cases hb : b = a
      · exact .inr ⟨_, _, if_pos hb⟩
      · exact .inl (if_neg hb)
    · by_cases hb : b = a
      · have z' := (if_pos hb).symm.trans z
        cases z'
        subst hb
        exact ⟨ha, by rw [List.length_map]; exact hl, vs, _, rv, ha⟩
      · have z' := (if_neg hb).symm.trans z
        cases z'
    · by_cases hb : b = a
      · exact hb
      · exact absurd (if_neg hb) z
/-- the goal that the head leaves, from the law's promise; the script's bits are told -/
theorem walk_g {l : PySem.W.OpenLaw} {n k : Nat} {q : Program} {loose : List Str} {XP : (Str → Option Value) → Heap → Prop}
    {YP : World → Heap → Prop} {d : DefRec} {K : Params → PySem.W.Frag} {sp : PySem.W.Frag → Sp} {x : Str}
    (hn : l.most = some n) (hn2 : n ≤ sizeLine) (hdf : d.params.defaults = []) (hr : Room k callerA)
    (hY : ∀ (w : World) (h : Heap), YP w h → (K w.params).In h)
    (F : ∀ (w : World) (mg : Str → Option Value) (fa : Addr) (h : Heap), (K w.params).In h → h.Ns mainGlobals mg → mg d.name = some (.ref fa) →
      ∃ fd : FuncData, (∀ (s : Shared) (u : Value), BindsTo s fd ⟨[u], []⟩ [(x, u)]) ∧
        ∀ bs : Heap, (K w.params).In bs → bs.Ns mainGlobals mg → FnG l.prog w (K w.params) mg bs CX0 k fa fd [x] (sp (K w.params)))
    (hsp : ∀ (K : PySem.W.Frag) (H : Hp) (a : Addr) (ns : List Int), ns.length ≤ n → (∀ z ∈ ns, Builtin.Int.intBits z ≤ 1048576) →
      Only H → SqL K H a (ns.map V.int) → sp K [.ref a] H (fun v _ => v = .bl true) fun _ _ _ => False) :
    PySem.W.WalkO q loose XP YP l.row.toRowW d [] (fun f vs => PySem.call f vs) := by
  refine Att.attach_callB hn hdf fun w s0 s1 mg mb fa o pm cd doc a vs ns G Y ho hd hcd hmg hobj hints hlen hbits hg => ?_
  have KX := hY w _ Y
  obtain ⟨fd, hb, hF⟩ := F w mg fa _ KX G.T.g hmg
  exact law_callG KX G.T.g G.T.b G.T.builtins G.T.nolimit hg hobj hints (Nat.le_trans hlen hn2) hr hF hb
    (fun H hO hS => hsp (K w.params) H a ns hlen hbits hO hS) fun H e s' z => z
end GR

namespace GR
open PySem PySem.Spec L2
/-! ## data stays when nothing tracked changes -/
theorem SqL_same {K : PySem.W.Frag} {H H' : Hp} {a : Addr} {xs : List V} (e : Same H H') (h : SqL K H a xs) : SqL K H' a xs := e.seq h
theorem SqT_same {K : PySem.W.Frag} {H H' : Hp} {a : Addr} {xs : List V} (e : Same H H') (h : SqT K H a xs) : SqT K H' a xs := by
  rcases h with (h | ⟨o, h⟩) | h
  · exact .inl (.inl (e _ _ h))
  · exact .inl (.inr ⟨o, e _ _ h⟩)
  · exact .inr h
mutual
theorem Dp_same {K : PySem.W.Frag} {H H' : Hp} (e : Same H H') : ∀ (d : PyData) (v : V), Dp K H v d → Dp K H' v d
  | _, _, .non => .non
  | _, _, .bl b => .bl b
  | _, _, .int i => .int i
  | _, _, .str x => .str x
  | .list ds, _, .lst h1 h2 => .lst (SqL_same e h1) (DpAll_same e ds _ h2)
  | .tuple ds, _, .tup h1 h2 => .tup (SqT_same e h1) (DpAll_same e ds _ h2)
theorem DpAll_same {K : PySem.W.Frag} {H H' : Hp} (e : Same H H') : ∀ (ds : List PyData) (vs : List V), DpAll K H vs ds → DpAll K H' vs ds
  | [], _, .nil => .nil
  | d :: ds, _, .cons h1 h2 => .cons (Dp_same e d _ h1) (DpAll_same e ds _ h2)
end
theorem same_upd {H : Hp} {p : Addr} {o : HO} (h : H p = none) : Same H (upd H p o) := fun b x e => by
  rw [upd_ne (ne_of_none e h)]
  exact e
/-- the class of data -/
def tyName : PyData → String
  | .none => "NoneType"
  | .bool _ => "bool"
  | .int _ => "int"
  | .str _ => "str"
  | .list _ => "list"
  | .tuple _ => "tuple"
  | .dict _ => "dict"
theorem SqT_ty {K : PySem.W.Frag} {H : Hp} {a : Addr} {xs : List V} (h : SqT K H a xs) : TyX K H (.ref a) (.type "tuple") := by
  rcases h with (h | ⟨o, h⟩) | ⟨o, its, n, h1, h2, _⟩
  · exact .base (.tup h)
  · exact .fTuple h
  · exact .kTuple h1 h2
theorem SqL_ty {K : PySem.W.Frag} {H : Hp} {a : Addr} {xs : List V} (h : SqL K H a xs) : TyX K H (.ref a) (.type "list") := by
  rcases h with (h | ⟨o, h⟩) | ⟨o, its, n, h1, h2, _⟩
  · exact .base (.lst h)
  · exact .base (.frz h)
  · exact .kList h1 h2
theorem Dp_ty {K : PySem.W.Frag} {H : Hp} : ∀ {d : PyData} {v : V}, Dp K H v d → TyX K H v (.type (tyName d))
  | _, _, .non => .base .non
  | _, _, .bl b => .base (.bl b)
  | _, _, .int i => .base (.int i)
  | _, _, .str x => .base (.str x)
  | _, _, .lst h _ => SqL_ty h
  | _, _, .tup h _ => SqT_ty h
/-! ## how long a repr is -/
mutual
def cost : PyData → Nat
  | .none => 4
  | .bool _ => 5
  | .int _ => 1921
  | .str x => (reprText x).length
  | .list xs => costAll xs + 4
  | .tuple xs => costAll xs + 4
  | .dict _ => 0
def costAll : List PyData → Nat
  | [] => 0
  | x :: xs => cost x + 2 + costAll xs
end
theorem textFrom_cost : ∀ (ts : List Str) (k : Nat) (acc : Str), (textFrom k acc ts).length ≤ acc.length + (ts.map (·.length + 2)).sum
  | [], k, acc => by show acc.length ≤ acc.length + 0; omega
  | t :: r, k, acc => by
    have ih := textFrom_cost r (k + 1) (acc ++ (if k > 0 then ", " else "" : String) ++ t)
    have e : (acc ++ (if k > 0 then ", " else "" : String) ++ t).length = acc.length + (if k > 0 then 2 else 0) + t.length := by
      rw [strLen_append, strLen_append]
      split <;> rfl
    rw [e] at ih
    show (textFrom (k + 1) (acc ++ (if k > 0 then ", " else "" : String) ++ t) r).length ≤ _
    rw [List.map_cons, List.sum_cons]
    have z : (if k > 0 then 2 else 0) ≤ 2 := by split <;> omega
    omega
theorem join_cost : ∀ ts : List Str, (Str.join ", " ts).length ≤ (ts.map (·.length + 2)).sum
  | [] => Nat.zero_le _
  | [x] => by show x.length ≤ _; simp
  | x :: y :: r => by
    have ih := join_cost (y :: r)
    show (x ++ ", " ++ Str.join ", " (y :: r)).length ≤ _
    have e2 : ((", " : String) : Str).length = 2 := rfl
    rw [strLen_append, strLen_append, e2, List.map_cons, List.sum_cons]
    omega
theorem tup_cost (ts : List Str) : (tupleText ts).length ≤ (ts.map (·.length + 2)).sum + 4 := by
  unfold tupleText
  have h := join_cost ts
  rw [strLen_append, strLen_append]
  have e1 : (("(" : String) : Str).length = 1 := rfl
  rw [e1]
  have e2 : ∀ b : Bool, ((if b = true then ",)" else ")" : String) : Str).length ≤ 2 := by
    intro b
    cases b
    · show (1 : Nat) ≤ 2; decide
    · show (2 : Nat) ≤ 2; decide
  have := e2 (ts.length == 1)
  omega
theorem lst_cost (ts : List Str) : (listText ts).length ≤ (ts.map (·.length + 2)).sum + 4 := by
  unfold listText
  have h := textFrom_cost ts 0 "["
  rw [strLen_append]
  have e1 : (("[" : String) : Str).length = 1 := rfl
  have e2 : (("]" : String) : Str).length = 1 := rfl
  rw [e1] at h
  rw [e2]
  omega
mutual
theorem shown_cost : ∀ d : PyData, d.showable = true → d.hasDict = false → d.shown.length ≤ cost d
  | .none, _, _ => by
    show (4 : Nat) ≤ cost .none
    rw [cost]
    exact Nat.le_refl _
  | .bool b, _, _ => by
    rw [cost]
    cases b
    · show (5 : Nat) ≤ 5; decide
    · show (4 : Nat) ≤ 5; decide
  | .int i, h, _ => by
    have h' : i.natAbs.log2 < 1920 := by simpa [PyData.showable] using h
    simpa only [cost, PyData.shown] using PyProof.Rows.int_text_len_1921 h'
  | .str x, _, _ => by simp only [cost, PyData.shown]; exact Nat.le_refl _
  | .list xs, h, h2 => by
    have a := shownAll_cost xs (by simpa only [PyData.showable] using h) (by simpa only [PyData.hasDict] using h2)
    have b := lst_cost (PyData.shownAll xs)
    simp only [cost, PyData.shown]
    omega
  | .tuple xs, h, h2 => by
    have a := shownAll_cost xs (by simpa only [PyData.showable] using h) (by simpa only [PyData.hasDict] using h2)
    have b := tup_cost (PyData.shownAll xs)
    simp only [cost, PyData.shown]
    omega
  | .dict _, _, h => by simp [PyData.hasDict] at h
theorem shownAll_cost : ∀ xs : List PyData, PyData.showableAll xs = true → PyData.hasDictAll xs = false → ((PyData.shownAll xs).map (·.length + 2)).sum ≤ costAll xs
  | [], _, _ => by simp [PyData.shownAll, costAll]
  | x :: xs, h, h2 => by
    have h' : x.showable = true ∧ PyData.showableAll xs = true := by simpa [PyData.showableAll] using h
    have h2' : x.hasDict = false ∧ PyData.hasDictAll xs = false := by simpa [PyData.hasDictAll] using h2
    have a := shown_cost x h'.1 h2'.1
    have b := shownAll_cost xs h'.2 h2'.2
    simp only [PyData.shownAll, costAll, List.map_cons, List.sum_cons]
    omega
end
/-- what repr's rule asks of the length -/
theorem repr_len {K : PySem.W.Frag} {H : Hp} {x : V} {d : PyData} (h : Dp K H x d) (hs : d.showable = true) (hc : cost d ≤ 1000000) : d.shown.length ≤ sizeLine :=
  Nat.le_trans (shown_cost d hs (Dp_noDict d x h)) (Nat.le_trans hc (by decide))
/-! ## a bag of draws: [digits left, number mixed] -/
structure BagV (x m : Int) : Prop where
  x0 : 0 ≤ x
  xb : x.natAbs < 2 ^ 1048576
  m0 : 0 ≤ m
  mb : m < 2147483648
/-- a bag stands at b -/
def Bag (H : Hp) (b : Addr) : Prop := ∃ x m : Int, H b = some (.lst [.int x, .int m]) ∧ BagV x m
/-- all but b is as it was -/
def But (b : Addr) (H H' : Hp) : Prop := ∀ c, c ≠ b → H' c = H c
theorem But.refl (b : Addr) (H : Hp) : But b H H := fun _ _ => rfl
theorem But.trans {b : Addr} {H H1 H2 : Hp} (x : But b H H1) (y : But b H1 H2) : But b H H2 := fun c hc => (y c hc).trans (x c hc)
theorem But.upd {b : Addr} {H : Hp} {o : HO} : But b H (upd H b o) := fun c hc => upd_ne hc
theorem bits_lt {z : Int} {n : Nat} (h : Builtin.Int.intBits z ≤ n) : z.natAbs < 2 ^ n := by
  unfold Builtin.Int.intBits at h
  by_cases e : z = 0
  · subst e
    exact Nat.pow_pos (by decide)
  · rw [if_neg (by simpa using e)] at h
    exact Nat.lt_of_lt_of_le Nat.lt_log2_self (Nat.pow_le_pow_right (by decide) h)
end GR
namespace GR
open PySem PySem.Spec L2
/-! ## for i, x in enumerate(xs) -/
theorem for_enum {K : PySem.W.Frag} {a : Addr} {xs : List V} {g : TG} {tb : TS} {D : Ends} {σ : L2.St} {H : Hp} (Pv : Nat → L2.St → Hp → Prop) (h0 : Pv 0 σ H)
    (hl : ∀ i σ H, i ≤ xs.length → Pv i σ H → SqL K H a xs)
    (hs : ∀ i x σ H T, xs[i]? = some x → Pv i σ H → H T = none →
      g (.ref T) σ (upd H T (.tup [.int (i : Nat), x])) fun σ2 H2 => tb { D with nx := Pv (i + 1), ct := Pv (i + 1), bk := D.nx } σ2 H2)
    (hd : ∀ σ H, Pv xs.length σ H → D.nx σ H) :
    ∃ W : Nat → Nat → L2.St → Hp → Prop, (∃ m, W 0 m σ H) ∧ ∀ i m σ H, W i m σ H →
      ((Ite K a).stop i H ∧ D.nx σ H) ∨ ((Ite K a).go i H ∧ ∃ N : L2.St → Hp → Prop, (∀ σ' H', N σ' H' → ∃ m', m' < m ∧ W (i + 1) m' σ' H') ∧
        ∀ x H', (Ite K a).yld i H x H' → g x σ H' fun σ2 H2 => tb { D with nx := N, ct := N, bk := D.nx } σ2 H2) := by
  refine ⟨fun i m σ H => m = xs.length - i ∧ i ≤ xs.length ∧ Pv i σ H, ⟨xs.length, by simp, Nat.zero_le _, h0⟩, ?_⟩
  rintro i m σ H ⟨rfl, hi, p⟩
  have q := hl i σ H hi p
  by_cases hlt : i < xs.length
  · refine .inr ⟨⟨xs, xs[i], q, by simp [hlt]⟩, Pv (i + 1), fun σ' H' p' => ⟨xs.length - (i + 1), by omega, rfl, hlt, p'⟩, fun x H' y => ?_⟩
    obtain ⟨T, z, e1, e2, e3, e4⟩ := y
    subst e1 e3
    exact hs i z σ H T (e4 xs q) p e2
  · have e : i = xs.length := by omega
    subst e
    exact .inl ⟨⟨xs, q, Nat.le_refl _⟩, hd σ H p⟩
theorem pow_and (k : Nat) : Builtin.bitAnd ((2 : Int) ^ k) ((2 : Int) ^ k - 1) = 0 := by
  have h : (0 : Int) ≤ 2 ^ k := Int.le_of_lt (Int.pow_pos (by decide))
  rw [Bits.bitAnd_mask k h]
  exact Int.emod_self
end GR
namespace GR
open PySem PySem.Spec L2
/-! ## cuts: the ways of an expression, a test or a statement meet in one property -/
section
variable {X : Cx} {e : Expr} {t : TE} {tt : TT} {st : Stmt} {ts : TS}
def tCut (t : TE) : TE := fun σ H Q => ∃ Pv : VK, t σ H Pv ∧ ∀ v H', Pv v H' → Q v H'
theorem pe_cut (h : PE X e t) : PE X e (tCut t) := ⟨fun pins s σ H Q I ⟨Pv, hw, hq⟩ =>
  thn (h.run pins s σ H Pv I hw) fun _ _ ⟨v, H', I', r, p⟩ => ⟨v, H', I', r, hq v H' p⟩⟩
def tCutT (t : TT) : TT := fun σ H Q => ∃ Pv : Bool → Hp → Prop, t σ H Pv ∧ ∀ v H', Pv v H' → Q v H'
theorem pt_cut (h : PT X e tt) : PT X e (tCutT tt) := ⟨fun pins s σ H Q I ⟨Pv, hw, hq⟩ =>
  thn (h.run pins s σ H Pv I hw) fun b _ ⟨H', I', p⟩ => ⟨H', I', hq b H' p⟩⟩
def tCutS (t : TS) : TS := fun D σ H => ∃ Pn : L2.St → Hp → Prop, t { D with nx := Pn } σ H ∧ ∀ σ' H', Pn σ' H' → D.nx σ' H'
theorem ps_cut (h : PS X st ts) : PS X st (tCutS ts) := ⟨fun pins s σ H D I ⟨Pn, hw, hq⟩ =>
  thn (h.run pins s σ H { D with nx := Pn } I hw) fun f _ z => by
    cases f with
    | next =>
      obtain ⟨σ', H', I', p⟩ := z
      exact ⟨σ', H', I', hq σ' H' p⟩
    | brk => exact z
    | cont => exact z
    | ret u => exact z⟩
end
end GR
namespace GR
open PySem PySem.Spec L2
/-- what was tracked stays, but at b -/
def SameX (b : Addr) (H H' : Hp) : Prop := ∀ c o, c ≠ b → H c = some o → H' c = some o
theorem SameX.refl (b : Addr) (H : Hp) : SameX b H H := fun _ _ _ h => h
theorem SameX.trans {b : Addr} {H H1 H2 : Hp} (x : SameX b H H1) (y : SameX b H1 H2) : SameX b H H2 := fun c o hc h => y c o hc (x c o hc h)
theorem But.x {b : Addr} {H H' : Hp} (h : But b H H') : SameX b H H' := fun c o hc e => (h c hc).trans e
theorem SameX.of {b : Addr} {H H' : Hp} (h : Same H H') : SameX b H H' := fun c o _ e => h c o e
theorem SameX.new {b : Addr} {H : Hp} {p : Addr} {o : HO} (h : H p = none) : SameX b H (upd H p o) := .of (same_upd h)
/-- b was no tracked thing -/
theorem SameX.same {b : Addr} {H H1 H2 : Hp} (x : Same H H1) (n : H b = none) (y : SameX b H1 H2) : Same H H2 := fun c o h => y c o (ne_of_none h n) (x c o h)
theorem SqT_x {K : PySem.W.Frag} {b : Addr} {H H' : Hp} {a : Addr} {xs : List V} (e : SameX b H H') (hb : ∃ l, H b = some (.lst l)) (h : SqT K H a xs) : SqT K H' a xs := by
  obtain ⟨l, hb⟩ := hb
  rcases h with (h | ⟨o, h⟩) | h
  · exact .inl (.inl (e _ _ (ne_of h hb (fun z => nomatch z)) h))
  · exact .inl (.inr ⟨o, e _ _ (ne_of h hb (fun z => nomatch z)) h⟩)
  · exact .inr h
/-- a list that is frozen or of the module stays -/
theorem Bag.ex {H : Hp} {b : Addr} (h : Bag H b) : ∃ l, H b = some (.lst l) := by
  obtain ⟨x, m, e, _⟩ := h
  exact ⟨_, e⟩
end GR

/-! # Data that nobody changes, beside objects that may be changed (M) -/
namespace GR
open PySem PySem.Spec L2
abbrev Mu := Addr → Prop
/-- the changeable objects stand -/
def Live (M : Mu) (H : Hp) : Prop := ∀ m, M m → H m ≠ none
/-- all but the changeable objects stays -/
structure Fx (M : Mu) (H H' : Hp) : Prop where
  keep : ∀ c o, ¬ M c → H c = some o → H' c = some o
  live : Live M H → Live M H'
theorem Fx.refl (M : Mu) (H : Hp) : Fx M H H := ⟨fun _ _ _ h => h, fun h => h⟩
theorem Fx.trans {M : Mu} {H H1 H2 : Hp} (a : Fx M H H1) (b : Fx M H1 H2) : Fx M H H2 := ⟨fun c o n h => b.keep c o n (a.keep c o n h), fun h => b.live (a.live h)⟩
theorem Fx.of {M : Mu} {H H' : Hp} (s : Same H H') : Fx M H H' := ⟨fun c o _ h => s c o h, fun h m hm => by
  cases e : H m with
  | none => exact absurd e (h m hm)
  | some o => rw [s m o e]; simp⟩
theorem Fx.new {M : Mu} {H : Hp} {p : Addr} {o : HO} (n : H p = none) : Fx M H (upd H p o) := .of (same_upd n)
theorem Live.ne {M : Mu} {H : Hp} (h : Live M H) {p : Addr} (n : H p = none) : ¬ M p := fun z => h p z n
def keyD : Key → PyData
  | .inl i => .int i
  | .inr x => .str x
/-- a list, a tuple that nobody changes: tracked and not of M, or of the module -/
def SqLx (M : Mu) (K : PySem.W.Frag) (H : Hp) (a : Addr) (xs : List V) : Prop := (Rd H a (.lst xs) ∧ ¬ M a) ∨
  ∃ (o : Obj) (its : Array Value) (n : Nat), K.lookup a = some o ∧ o.cls = .type "list" ∧ o.dict = none ∧ o.data = .seq its n ∧ its.size ≤ sizeLine ∧ Vals xs its.toList
def SqTx (M : Mu) (K : PySem.W.Frag) (H : Hp) (a : Addr) (xs : List V) : Prop := (Rd H a (.tup xs) ∧ ¬ M a) ∨
  ∃ (o : Obj) (its : Array Value) (n : Nat), K.lookup a = some o ∧ o.cls = .type "tuple" ∧ o.data = .seq its n ∧ its.size ≤ sizeLine ∧ Vals xs its.toList
theorem SqLx.sq {M : Mu} {K : PySem.W.Frag} {H : Hp} {a : Addr} {xs : List V} (h : SqLx M K H a xs) : SqL K H a xs := h.imp (fun z => z.1) id
theorem SqTx.sq {M : Mu} {K : PySem.W.Frag} {H : Hp} {a : Addr} {xs : List V} (h : SqTx M K H a xs) : SqT K H a xs := h.imp (fun z => z.1) id
theorem SqLx.new {M : Mu} {K : PySem.W.Frag} {H : Hp} {a : Addr} {xs : List V} (n : ¬ M a) : SqLx M K (upd H a (.lst xs)) a xs := .inl ⟨.inl upd_same, n⟩
theorem SqTx.new {M : Mu} {K : PySem.W.Frag} {H : Hp} {a : Addr} {xs : List V} (n : ¬ M a) : SqTx M K (upd H a (.tup xs)) a xs := .inl ⟨.inl upd_same, n⟩
theorem Rd_fx {M : Mu} {H H' : Hp} {a : Addr} {u : HO} (f : Fx M H H') (n : ¬ M a) (h : Rd H a u) : Rd H' a u := by
  rcases h with h | ⟨o, h⟩
  · exact .inl (f.keep _ _ n h)
  · exact .inr ⟨o, f.keep _ _ n h⟩
theorem SqLx.fx {M : Mu} {K : PySem.W.Frag} {H H' : Hp} {a : Addr} {xs : List V} (f : Fx M H H') (h : SqLx M K H a xs) : SqLx M K H' a xs := h.imp (fun z => ⟨Rd_fx f z.2 z.1, z.2⟩) id
theorem SqTx.fx {M : Mu} {K : PySem.W.Frag} {H H' : Hp} {a : Addr} {xs : List V} (f : Fx M H H') (h : SqTx M K H a xs) : SqTx M K H' a xs := h.imp (fun z => ⟨Rd_fx f z.2 z.1, z.2⟩) id
theorem Rd_ne {H : Hp} {a : Addr} {u : HO} (h : Rd H a u) : H a ≠ none := by
  rcases h with h | ⟨o, h⟩ <;> rw [h] <;> simp
theorem SqLx.more {M M' : Mu} {K : PySem.W.Frag} {H : Hp} {a : Addr} {xs : List V} (hM : ∀ c, M' c → M c ∨ H c = none) (h : SqLx M K H a xs) : SqLx M' K H a xs :=
  h.imp (fun z => ⟨z.1, fun m => (hM a m).elim z.2 (Rd_ne z.1)⟩) id
theorem SqTx.more {M M' : Mu} {K : PySem.W.Frag} {H : Hp} {a : Addr} {xs : List V} (hM : ∀ c, M' c → M c ∨ H c = none) (h : SqTx M K H a xs) : SqTx M' K H a xs :=
  h.imp (fun z => ⟨z.1, fun m => (hM a m).elim z.2 (Rd_ne z.1)⟩) id
mutual
inductive Dt (M : Mu) (K : PySem.W.Frag) (H : Hp) : V → PyData → Prop
  | non : Dt M K H .non .none
  | bl (b : Bool) : Dt M K H (.bl b) (.bool b)
  | int (i : Int) : Dt M K H (.int i) (.int i)
  | str (x : Str) : Dt M K H (.str x) (.str x)
  | lst {a : Addr} {xs : List V} {ds : List PyData} : SqLx M K H a xs → DtAll M K H xs ds → Dt M K H (.ref a) (.list ds)
  | tup {a : Addr} {xs : List V} {ds : List PyData} : SqTx M K H a xs → DtAll M K H xs ds → Dt M K H (.ref a) (.tuple ds)
  | dct {a : Addr} {kvs : List (Key × V)} {ks : List Key} {ds : List PyData} : H a = some (.dK kvs) → ¬ M a → ks = kvs.map (·.1) → DtAll M K H (kvs.map (·.2)) ds →
      Dt M K H (.ref a) (.dict ((ks.map keyD).zip ds))
inductive DtAll (M : Mu) (K : PySem.W.Frag) (H : Hp) : List V → List PyData → Prop
  | nil : DtAll M K H [] []
  | cons {v : V} {vs : List V} {d : PyData} {ds : List PyData} : Dt M K H v d → DtAll M K H vs ds → DtAll M K H (v :: vs) (d :: ds)
end
mutual
theorem Dt.fx {M : Mu} {K : PySem.W.Frag} {H H' : Hp} (f : Fx M H H') : ∀ {v : V} {d : PyData}, Dt M K H v d → Dt M K H' v d
  | _, _, .non => .non
  | _, _, .bl b => .bl b
  | _, _, .int i => .int i
  | _, _, .str x => .str x
  | _, _, .lst h a => .lst (h.fx f) (DtAll.fx f a)
  | _, _, .tup h a => .tup (h.fx f) (DtAll.fx f a)
  | _, _, .dct h n e a => .dct (f.keep _ _ n h) n e (DtAll.fx f a)
theorem DtAll.fx {M : Mu} {K : PySem.W.Frag} {H H' : Hp} (f : Fx M H H') : ∀ {vs : List V} {ds : List PyData}, DtAll M K H vs ds → DtAll M K H' vs ds
  | _, _, .nil => .nil
  | _, _, .cons a b => .cons (Dt.fx f a) (DtAll.fx f b)
end
mutual
/-- other changeable objects -/
theorem Dt.more {M M' : Mu} {K : PySem.W.Frag} {H : Hp} (hM : ∀ c, M' c → M c ∨ H c = none) : ∀ {v : V} {d : PyData}, Dt M K H v d → Dt M' K H v d
  | _, _, .non => .non
  | _, _, .bl b => .bl b
  | _, _, .int i => .int i
  | _, _, .str x => .str x
  | _, _, .lst h z => .lst (h.more hM) (DtAll.more hM z)
  | _, _, .tup h z => .tup (h.more hM) (DtAll.more hM z)
  | _, _, .dct (a := a) h n e z => .dct h (fun m => (hM a m).elim n fun q => by rw [q] at h; cases h) e (DtAll.more hM z)
theorem DtAll.more {M M' : Mu} {K : PySem.W.Frag} {H : Hp} (hM : ∀ c, M' c → M c ∨ H c = none) : ∀ {vs : List V} {ds : List PyData}, DtAll M K H vs ds → DtAll M' K H vs ds
  | _, _, .nil => .nil
  | _, _, .cons a b => .cons (Dt.more hM a) (DtAll.more hM b)
end
theorem DtAll.len {M : Mu} {K : PySem.W.Frag} {H : Hp} : ∀ {vs : List V} {ds : List PyData}, DtAll M K H vs ds → vs.length = ds.length
  | _, _, .nil => rfl
  | _, _, .cons _ h => by rw [List.length_cons, List.length_cons, h.len]
theorem DtAll.get {M : Mu} {K : PySem.W.Frag} {H : Hp} : ∀ {vs : List V} {ds : List PyData} {i : Nat} {d : PyData}, DtAll M K H vs ds → ds[i]? = some d → ∃ v, vs[i]? = some v ∧ Dt M K H v d
  | _, _, _, _, .nil, e => by simp at e
  | _, _, 0, _, .cons h _, e => by
    cases e
    exact ⟨_, rfl, h⟩
  | _, _, i + 1, d, .cons _ h, e => DtAll.get (i := i) h e
theorem DtAll.append {M : Mu} {K : PySem.W.Frag} {H : Hp} : ∀ {vs ws : List V} {ds es : List PyData}, DtAll M K H vs ds → DtAll M K H ws es → DtAll M K H (vs ++ ws) (ds ++ es)
  | _, _, _, _, .nil, h => h
  | _, _, _, _, .cons a b, h => .cons a (b.append h)
theorem DtAll.take {M : Mu} {K : PySem.W.Frag} {H : Hp} : ∀ {vs : List V} {ds : List PyData} (n : Nat), DtAll M K H vs ds → DtAll M K H (vs.take n) (ds.take n)
  | _, _, 0, _ => .nil
  | _, _, _ + 1, .nil => .nil
  | _, _, n + 1, .cons a b => .cons a (b.take n)
theorem DtAll.drop {M : Mu} {K : PySem.W.Frag} {H : Hp} : ∀ {vs : List V} {ds : List PyData} (n : Nat), DtAll M K H vs ds → DtAll M K H (vs.drop n) (ds.drop n)
  | _, _, 0, h => h
  | _, _, _ + 1, .nil => .nil
  | _, _, n + 1, .cons _ b => b.drop n
theorem DtAll.ints {M : Mu} {K : PySem.W.Frag} {H : Hp} : ∀ ns : List Int, DtAll M K H (ns.map V.int) (ns.map PyData.int)
  | [] => .nil
  | n :: ns => .cons (.int n) (.ints ns)
mutual
/-- without dicts it is plain data -/
theorem Dt.dp {M : Mu} {K : PySem.W.Frag} {H : Hp} : ∀ {v : V} {d : PyData}, d.hasDict = false → Dt M K H v d → Dp K H v d
  | _, _, _, .non => .non
  | _, _, _, .bl b => .bl b
  | _, _, _, .int i => .int i
  | _, _, _, .str x => .str x
  | _, .list ds, e, .lst h a => .lst h.sq (DtAll.dp (by simpa only [PyData.hasDict] using e) a)
  | _, .tuple ds, e, .tup h a => .tup h.sq (DtAll.dp (by simpa only [PyData.hasDict] using e) a)
  | _, _, e, .dct _ _ _ _ => by simp [PyData.hasDict] at e
theorem DtAll.dp {M : Mu} {K : PySem.W.Frag} {H : Hp} : ∀ {vs : List V} {ds : List PyData}, PyData.hasDictAll ds = false → DtAll M K H vs ds → DpAll K H vs ds
  | _, _, _, .nil => .nil
  | _, d :: ds, e, .cons a b => by
    have e' : d.hasDict = false ∧ PyData.hasDictAll ds = false := by simpa [PyData.hasDictAll] using e
    exact .cons (Dt.dp e'.1 a) (DtAll.dp e'.2 b)
end
theorem Dt.ty {M : Mu} {K : PySem.W.Frag} {H : Hp} {v : V} {d : PyData} (h : Dt M K H v d) : TyX K H v (.type (tyName d)) := by
  cases h with
  | non => exact .base .non
  | bl b => exact .base (.bl b)
  | int i => exact .base (.int i)
  | str x => exact .base (.str x)
  | lst h _ => exact SqL_ty h.sq
  | tup h _ => exact SqT_ty h.sq
  | dct h _ _ _ => exact .base (.dK h)
theorem Live.same {M : Mu} {H H' : Hp} (h : Live M H) (s : Same H H') : Live M H' := (Fx.of s).live h
theorem Dt.sm {M : Mu} {K : PySem.W.Frag} {H H' : Hp} {v : V} {d : PyData} (h : Dt M K H v d) (s : Same H H') : Dt M K H' v d := h.fx (.of s)
theorem DtAll.sm {M : Mu} {K : PySem.W.Frag} {H H' : Hp} {vs : List V} {ds : List PyData} (h : DtAll M K H vs ds) (s : Same H H') : DtAll M K H' vs ds := h.fx (.of s)
/-! ## expressions over data -/
abbrev RD := L2.St → Hp → PyData → Prop
def tD (M : Mu) (K : PySem.W.Frag) (r : RD) : TE := fun σ H Q => Live M H ∧ ∃ d, r σ H d ∧ ∀ H' v, Same H H' → Dt M K H' v d → Q v H'
structure PD (X : Cx) (M : Mu) (e : Expr) (r : RD) : Prop where
  run : PE X e (tD M X.K r)
  mono : ∀ σ H H' d, Same H H' → r σ H d → r σ H' d
abbrev RDs := L2.St → Hp → List PyData → Prop
def tDs (M : Mu) (K : PySem.W.Frag) (r : RDs) : TA := fun σ H Q => Live M H ∧ ∃ ds, r σ H ds ∧ ∀ H' vs, Same H H' → DtAll M K H' vs ds → Q vs H'
structure PDs (X : Cx) (M : Mu) (es : List Expr) (r : RDs) : Prop where
  run : PA X es (tDs M X.K r)
  mono : ∀ σ H H' d, Same H H' → r σ H d → r σ H' d
/-- a test over data -/
abbrev RB := L2.St → Hp → Bool → Prop
def tDB (M : Mu) (r : RB) : TT := fun σ H Q => Live M H ∧ ∃ b, r σ H b ∧ ∀ H', Same H H' → Q b H'
structure PB (X : Cx) (M : Mu) (e : Expr) (r : RB) : Prop where
  run : PT X e (tDB M r)
  mono : ∀ σ H H' d, Same H H' → r σ H d → r σ H' d
section
variable {X : Cx} (M : Mu)
/-- weaker readings -/
theorem pe_imp {X : Cx} {e : Expr} {t u : TE} (h : PE X e t) (i : ∀ σ H Q, u σ H Q → t σ H Q) : PE X e u := ⟨fun pins s σ H Q I q => h.run pins s σ H Q I (i σ H Q q)⟩
theorem pt_imp {X : Cx} {e : Expr} {t u : TT} (h : PT X e t) (i : ∀ σ H Q, u σ H Q → t σ H Q) : PT X e u := ⟨fun pins s σ H Q I q => h.run pins s σ H Q I (i σ H Q q)⟩
theorem pa_imp {X : Cx} {e : List Expr} {t u : TA} (h : PA X e t) (i : ∀ σ H Q, u σ H Q → t σ H Q) : PA X e u := ⟨fun pos pins s σ H Q I q => h.run pos pins s σ H Q I (i σ H Q q)⟩
theorem pd_int {i j pos} : PD X M (.Constant (.int i) j pos) (fun _ _ d => d = .int i) :=
  ⟨pe_imp pe_int fun σ H Q ⟨_, d, e, q⟩ => by subst e; exact q H _ (Same.refl H) (.int i), fun _ _ _ _ _ h => h⟩
theorem pd_bl {b j pos} : PD X M (.Constant (.bool b) j pos) (fun _ _ d => d = .bool b) :=
  ⟨pe_imp pe_bl fun σ H Q ⟨_, d, e, q⟩ => by subst e; exact q H _ (Same.refl H) (.bl b), fun _ _ _ _ _ h => h⟩
theorem pd_non {j pos} : PD X M (.Constant .none j pos) (fun _ _ d => d = .none) :=
  ⟨pe_imp pe_non fun σ H Q ⟨_, d, e, q⟩ => by subst e; exact q H _ (Same.refl H) .non, fun _ _ _ _ _ h => h⟩
theorem pd_str {x j pos} : PD X M (.Constant (.str x) j pos) (fun _ _ d => d = .str x) :=
  ⟨pe_imp pe_str fun σ H Q ⟨_, d, e, q⟩ => by subst e; exact q H _ (Same.refl H) (.str x), fun _ _ _ _ _ h => h⟩
def rVar (M : Mu) (K : PySem.W.Frag) (i : Nat) : RD := fun σ H d => ∃ v, σ[i]? = some (some v) ∧ Dt M K H v d
theorem pd_var (i : Nat) {x : Str} {pos : Pos} (hN : X.N[i]? = some x := by rfl) (hv : Vis X.env.scope x := by first | exact Or.inl rfl | exact Or.inr (Or.inl rfl) | exact Or.inr (Or.inr rfl))
    (hd : (x == ("__debug__" : Str)) = false := by decide) (hcd : (x == ("__classdict__" : Str)) = false := by decide) : PD X M (.Name x pos) (rVar M X.K i) :=
  ⟨pe_imp (pe_var hN hv hd hcd) fun σ H Q ⟨_, d, ⟨v, e, h⟩, q⟩ => ⟨v, e, q H v (Same.refl H) h⟩, fun _ _ _ _ f ⟨v, e, h⟩ => ⟨v, e, h.sm f⟩⟩
/-- an expression of another kind, told by what it gives -/
theorem pd_of {e : Expr} {t : TE} {r : RD} (h : PE X e t) (i : ∀ σ H d, Live M H → r σ H d → ∀ Q : VK, (∀ H' v, Same H H' → Dt M X.K H' v d → Q v H') → t σ H Q) (m : ∀ σ H H' d, Same H H' → r σ H d → r σ H' d) : PD X M e r :=
  ⟨pe_imp h fun σ H Q ⟨hl, d, hr, q⟩ => i σ H d hl hr Q q, m⟩
def rNilD : RDs := fun _ _ ds => ds = []
def rConsD (r : RD) (rs : RDs) : RDs := fun σ H ds => ∃ d es, r σ H d ∧ rs σ H es ∧ ds = d :: es
theorem pds_nil : PDs X M [] rNilD := ⟨pa_imp pa_nil fun σ H Q ⟨_, ds, e, q⟩ => by subst e; exact q H [] (Same.refl H) .nil, fun _ _ _ _ _ h => h⟩
theorem pds_cons {e : Expr} {es : List Expr} {r : RD} {rs : RDs} (h : PD X M e r) (hs : PDs X M es rs) (hst : starEach (e :: es) X.env = (false, eval e X.env) :: starEach es X.env := by rfl) : PDs X M (e :: es) (rConsD r rs) :=
  ⟨pa_imp (pa_cons h.run hs.run hst) fun σ H Q ⟨hl, ds, ⟨d, es', h1, h2, e⟩, q⟩ => by
    subst e
    exact ⟨hl, d, h1, fun H1 v f1 d1 => ⟨hl.same f1, es', hs.mono _ _ _ _ f1 h2, fun H2 vs f2 d2 => q H2 _ (f1.trans f2) (.cons (d1.sm f2) d2)⟩⟩,
    fun σ H H' ds f ⟨d, es', h1, h2, e⟩ => ⟨d, es', h.mono _ _ _ _ f h1, hs.mono _ _ _ _ f h2, e⟩⟩
def rTupD (rs : RDs) : RD := fun σ H d => ∃ ds, rs σ H ds ∧ ds.length ≤ 1000 ∧ d = .tuple ds
def rLstD (rs : RDs) : RD := fun σ H d => ∃ ds, rs σ H ds ∧ ds.length ≤ 1000 ∧ d = .list ds
theorem le1000 {n : Nat} (h : n ≤ 1000) : n ≤ sizeLine := Nat.le_trans h (by decide)
theorem pd_tup {es : List Expr} {rs : RDs} {k pos} (h : PDs X M es rs) : PD X M (.Tuple es k pos) (rTupD rs) :=
  ⟨pe_imp (pe_tup h.run) fun σ H Q ⟨hl, d, ⟨ds, h1, hz, e⟩, q⟩ => by
    subst e
    refine ⟨hl, ds, h1, fun H1 vs f1 d1 => ⟨by rw [d1.len]; exact le1000 hz, fun p np => q _ _ (f1.trans (same_upd np)) (.tup (.new ((hl.same f1).ne np)) (d1.sm (same_upd np)))⟩⟩,
    fun σ H H' d f ⟨ds, h1, hz, e⟩ => ⟨ds, h.mono _ _ _ _ f h1, hz, e⟩⟩
theorem pd_lst {es : List Expr} {rs : RDs} {pos} (h : PDs X M es rs) : PD X M (.List es pos) (rLstD rs) :=
  ⟨pe_imp (pe_lst h.run) fun σ H Q ⟨hl, d, ⟨ds, h1, hz, e⟩, q⟩ => by
    subst e
    refine ⟨hl, ds, h1, fun H1 vs f1 d1 => ⟨by rw [d1.len]; exact le1000 hz, fun p np => q _ _ (f1.trans (same_upd np)) (.lst (.new ((hl.same f1).ne np)) (d1.sm (same_upd np)))⟩⟩,
    fun σ H H' d f ⟨ds, h1, hz, e⟩ => ⟨ds, h.mono _ _ _ _ f h1, hz, e⟩⟩
/-- flat values as data -/
def toD : V → Option PyData
  | .non => some .none
  | .bl b => some (.bool b)
  | .int i => some (.int i)
  | .str x => some (.str x)
  | _ => none
theorem toD_dt {M : Mu} {K : PySem.W.Frag} {H : Hp} {v : V} {d : PyData} (h : toD v = some d) : Dt M K H v d := by
  cases v <;> simp only [toD, Option.some.injEq] at h <;> first | (subst h; constructor) | cases h
theorem dt_int {M : Mu} {K : PySem.W.Frag} {H : Hp} {v : V} {i : Int} (h : Dt M K H v (.int i)) : v = .int i := by cases h; rfl
theorem dt_bl {M : Mu} {K : PySem.W.Frag} {H : Hp} {v : V} {b : Bool} (h : Dt M K H v (.bool b)) : v = .bl b := by cases h; rfl
theorem dt_str {M : Mu} {K : PySem.W.Frag} {H : Hp} {v : V} {x : Str} (h : Dt M K H v (.str x)) : v = .str x := by cases h; rfl
/-- an operation on two ints -/
def rOpD (r1 r2 : RD) (C : Int → Int → Prop) (g : Int → Int → V) : RD := fun σ H d => ∃ i j, r1 σ H (.int i) ∧ r2 σ H (.int j) ∧ C i j ∧ toD (g i j) = some d
theorem rOpD_mono {r1 r2 : RD} {C g} (m1 : ∀ σ H H' d, Same H H' → r1 σ H d → r1 σ H' d) (m2 : ∀ σ H H' d, Same H H' → r2 σ H d → r2 σ H' d) :
    ∀ σ H H' d, Same H H' → rOpD r1 r2 C g σ H d → rOpD r1 r2 C g σ H' d := fun σ H H' d f ⟨i, j, h1, h2, h⟩ => ⟨i, j, m1 _ _ _ _ f h1, m2 _ _ _ _ f h2, h⟩
theorem pd_op {op : Operator} {a b : Expr} {r1 r2 : RD} {C : Int → Int → Prop} {g : Int → Int → V} {pos} (ho : OpR X (binaryOp op) (rI C g)) (h1 : PD X M a r1) (h2 : PD X M b r2) : PD X M (.BinOp a op b pos) (rOpD r1 r2 C g) :=
  pd_of M (pe_op ho h1.run h2.run) (fun σ H d hl ⟨i, j, a1, a2, hc, e⟩ Q q => ⟨hl, _, a1, fun H1 v f1 d1 => ⟨hl.same f1, _, h2.mono _ _ _ _ f1 a2, fun H2 w f2 d2 =>
    ⟨i, j, dt_int d1, dt_int d2, hc, q H2 _ (f1.trans f2) (toD_dt e)⟩⟩⟩) (rOpD_mono h1.mono h2.mono)
theorem pd_op0 {op : Operator} {a b : Expr} {r1 r2 : RD} {g : Int → Int → V} {pos} (ho : OpR X (binaryOp op) (rI0 g)) (h1 : PD X M a r1) (h2 : PD X M b r2) : PD X M (.BinOp a op b pos) (rOpD r1 r2 (fun _ _ => True) g) :=
  pd_of M (pe_op ho h1.run h2.run) (fun σ H d hl ⟨i, j, a1, a2, hc, e⟩ Q q => ⟨hl, _, a1, fun H1 v f1 d1 => ⟨hl.same f1, _, h2.mono _ _ _ _ f1 a2, fun H2 w f2 d2 =>
    ⟨i, j, dt_int d1, dt_int d2, q H2 _ (f1.trans f2) (toD_dt e)⟩⟩⟩) (rOpD_mono h1.mono h2.mono)
/-- a comparison of two ints -/
theorem pd_cmp {op : CmpOp} {a b : Expr} {r1 r2 : RD} {g : Int → Int → V} {pos} (ho : OpR X (compareOp op) (rI0 g)) (h1 : PD X M a r1) (h2 : PD X M b r2) (hm : lastMarks [op] [b] = false := by first | exact nomark _ | with_unfolding_all rfl) : PD X M (.Compare a [op] [b] pos) (rOpD r1 r2 (fun _ _ => True) g) :=
  pd_of M (pe_cmpR ho h1.run h2.run hm) (fun σ H d hl ⟨i, j, a1, a2, hc, e⟩ Q q => ⟨hl, _, a1, fun H1 v f1 d1 => ⟨hl.same f1, _, h2.mono _ _ _ _ f1 a2, fun H2 w f2 d2 =>
    ⟨i, j, dt_int d1, dt_int d2, q H2 _ (f1.trans f2) (toD_dt e)⟩⟩⟩) (rOpD_mono h1.mono h2.mono)
theorem noDict_of {d : PyData} (h : SeqAt.shaped d = true) : d.hasDict = false := PyData.hasDict_of_canLay d (SeqAt.canLay_of_shaped h)
def rEqv (neg : Bool) (r1 r2 : RD) : RD := fun σ H d => ∃ x y, r1 σ H x ∧ r2 σ H y ∧ SeqAt.shaped x = true ∧ SeqAt.shaped y = true ∧ d = .bool (if neg then !PyData.eqv x y else PyData.eqv x y)
theorem rEqv_mono {neg : Bool} {r1 r2 : RD} (m1 : ∀ σ H H' d, Same H H' → r1 σ H d → r1 σ H' d) (m2 : ∀ σ H H' d, Same H H' → r2 σ H d → r2 σ H' d) :
    ∀ σ H H' d, Same H H' → rEqv neg r1 r2 σ H d → rEqv neg r1 r2 σ H' d := fun σ H H' d f ⟨i, j, h1, h2, h⟩ => ⟨i, j, m1 _ _ _ _ f h1, m2 _ _ _ _ f h2, h⟩
theorem pd_eq {k : Nat} {a b : Expr} {r1 r2 : RD} {pos} (hr : Room k X.A) (h1 : PD X M a r1) (h2 : PD X M b r2) (hm : lastMarks [.Eq] [b] = false := by first | exact nomark _ | with_unfolding_all rfl) : PD X M (.Compare a [.Eq] [b] pos) (rEqv false r1 r2) :=
  pd_of M (pe_cmpR (op_eqD hr.units) h1.run h2.run hm) (fun σ H d hl ⟨x, y, a1, a2, s1, s2, e⟩ Q q => ⟨hl, _, a1, fun H1 v f1 d1 => ⟨hl.same f1, _, h2.mono _ _ _ _ f1 a2, fun H2 w f2 d2 =>
    ⟨x, y, (d1.sm f2).dp (noDict_of s1), d2.dp (noDict_of s2), s1, s2, q H2 _ (f1.trans f2) (by subst e; exact .bl _)⟩⟩⟩) (rEqv_mono h1.mono h2.mono)
theorem pd_ne {k : Nat} {a b : Expr} {r1 r2 : RD} {pos} (hr : Room k X.A) (h1 : PD X M a r1) (h2 : PD X M b r2) (hm : lastMarks [.NotEq] [b] = false := by first | exact nomark _ | with_unfolding_all rfl) : PD X M (.Compare a [.NotEq] [b] pos) (rEqv true r1 r2) :=
  pd_of M (pe_cmpR (op_neD hr.units) h1.run h2.run hm) (fun σ H d hl ⟨x, y, a1, a2, s1, s2, e⟩ Q q => ⟨hl, _, a1, fun H1 v f1 d1 => ⟨hl.same f1, _, h2.mono _ _ _ _ f1 a2, fun H2 w f2 d2 =>
    ⟨x, y, (d1.sm f2).dp (noDict_of s1), d2.dp (noDict_of s2), s1, s2, q H2 _ (f1.trans f2) (by subst e; exact .bl _)⟩⟩⟩) (rEqv_mono h1.mono h2.mono)
end
end GR

namespace GR
open PySem PySem.Spec L2
section
variable {X : Cx}
/-- list + list, both only read -/
def rCatS (K : PySem.W.Frag) : R2 := fun x y H Q => ∃ l b xs zs, x = .ref l ∧ y = .ref b ∧ SqL K H l xs ∧ SqL K H b zs ∧ xs.length + zs.length ≤ sizeLine ∧
  ∀ p, H p = none → Q (.ref p) (upd H p (.lst (xs ++ zs)))
theorem op_catS : OpR X (binaryOp .Add) (rCatS X.K) := by
  intro pins s σ H x y v u Q I rx ry h
  obtain ⟨l, b, xs, zs, rfl, rfl, hl, hb, hz, q⟩ := h
  cases rx
  cases ry
  obtain ⟨its, r, ⟨⟨cls, dd, data, sl⟩, n, ho, hc, _, hd⟩, _⟩ := I.list hl
  obtain ⟨its2, r2, ⟨⟨cls2, dd2, data2, sl2⟩, n2, ho2, hc2, _, hd2⟩, _⟩ := I.list hb
  simp only at hc hd hc2 hd2
  subst hc hd hc2 hd2
  have z1 := r.length
  have z2 := r2.length
  refine PySem.concat_meets ⟨_, ho, rfl⟩ ⟨_, ho2, rfl⟩ PySem.noFill_list_add PySem.seq_list_add PySem.F.slot_list_add PySem.F.entry_list_add
    (PySem.F.args_list_add_2 _ _) (PyProof.Rows.list_addW l b its.toArray its2.toArray n n2 dd dd2 sl sl2 (by rw [List.size_toArray, List.size_toArray]; omega)) ⟨ho, ho2, ?_⟩
  have ea : its.toArray ++ its2.toArray = (its ++ its2).toArray := by simp
  rw [ea]
  exact ⟨.ref _, _, I.lnew (t' := s.toks) (r.append r2) (by rw [List.length_append]; omega), rfl, q _ I.fresh⟩
end
section
variable {X : Cx} (M : Mu)
theorem dt_list {M : Mu} {K : PySem.W.Frag} {H : Hp} {v : V} {ds : List PyData} (h : Dt M K H v (.list ds)) : ∃ a xs, v = .ref a ∧ SqLx M K H a xs ∧ DtAll M K H xs ds := by
  cases h with
  | lst h a => exact ⟨_, _, rfl, h, a⟩
theorem dt_tuple {M : Mu} {K : PySem.W.Frag} {H : Hp} {v : V} {ds : List PyData} (h : Dt M K H v (.tuple ds)) : ∃ a xs, v = .ref a ∧ SqTx M K H a xs ∧ DtAll M K H xs ds := by
  cases h with
  | tup h a => exact ⟨_, _, rfl, h, a⟩
/-- list + list -/
def rCatD (r1 r2 : RD) : RD := fun σ H d => ∃ xs ys, r1 σ H (.list xs) ∧ r2 σ H (.list ys) ∧ xs.length + ys.length ≤ sizeLine ∧ d = .list (xs ++ ys)
theorem pd_cat {a b : Expr} {r1 r2 : RD} {pos} (h1 : PD X M a r1) (h2 : PD X M b r2) : PD X M (.BinOp a .Add b pos) (rCatD r1 r2) :=
  pd_of M (pe_op op_catS h1.run h2.run) (fun σ H d hl ⟨xs, ys, a1, a2, hz, e⟩ Q q => ⟨hl, _, a1, fun H1 v f1 d1 => ⟨hl.same f1, _, h2.mono _ _ _ _ f1 a2, fun H2 w f2 d2 => by
    subst e
    obtain ⟨p1, vs1, rfl, s1, da1⟩ := dt_list (d1.sm f2)
    obtain ⟨p2, vs2, rfl, s2, da2⟩ := dt_list d2
    refine ⟨p1, p2, vs1, vs2, rfl, rfl, s1.sq, s2.sq, by rw [da1.len, da2.len]; exact hz, fun p np => q _ _ ((f1.trans f2).trans (same_upd np)) (.lst (.new ((hl.same (f1.trans f2)).ne np)) ((da1.append da2).sm (same_upd np)))⟩⟩⟩)
    (fun σ H H' d f ⟨xs, ys, a1, a2, h⟩ => ⟨xs, ys, h1.mono _ _ _ _ f a1, h2.mono _ _ _ _ f a2, h⟩)
theorem atI_dt {M : Mu} {K : PySem.W.Frag} {H : Hp} {vs : List V} {ds : List PyData} {i : Int} {d : PyData} (h : DtAll M K H vs ds) (e : atI ds i = some d) : ∃ v, atI vs i = some v ∧ Dt M K H v d := by
  unfold atI at *
  rw [h.len]
  cases z : ixN ds.length i with
  | none => rw [z] at e; cases e
  | some j =>
    rw [z] at e
    exact h.get e
def rIxLD (r1 r2 : RD) : RD := fun σ H d => ∃ ds i, r1 σ H (.list ds) ∧ r2 σ H (.int i) ∧ atI ds i = some d
def rIxTD (r1 r2 : RD) : RD := fun σ H d => ∃ ds i, r1 σ H (.tuple ds) ∧ r2 σ H (.int i) ∧ atI ds i = some d
theorem pd_ixL {a b : Expr} {r1 r2 : RD} {pos} (h1 : PD X M a r1) (h2 : PD X M b r2) (hp : PlainIx b := by exact fun _ _ => rfl) : PD X M (.Subscript a b pos) (rIxLD r1 r2) :=
  pd_of M (pe_ix ix_list h1.run h2.run hp) (fun σ H d hl ⟨ds, i, a1, a2, e⟩ Q q => ⟨hl, _, a1, fun H1 v f1 d1 => ⟨hl.same f1, _, h2.mono _ _ _ _ f1 a2, fun H2 w f2 d2 => by
    obtain ⟨p1, vs1, rfl, s1, da1⟩ := dt_list (d1.sm f2)
    obtain ⟨v, ev, dv⟩ := atI_dt da1 e
    exact ⟨p1, vs1, i, v, rfl, dt_int d2, s1.sq, ev, q _ _ (f1.trans f2) dv⟩⟩⟩)
    (fun σ H H' d f ⟨xs, ys, a1, a2, h⟩ => ⟨xs, ys, h1.mono _ _ _ _ f a1, h2.mono _ _ _ _ f a2, h⟩)
theorem pd_ixT {a b : Expr} {r1 r2 : RD} {pos} (h1 : PD X M a r1) (h2 : PD X M b r2) (hp : PlainIx b := by exact fun _ _ => rfl) : PD X M (.Subscript a b pos) (rIxTD r1 r2) :=
  pd_of M (pe_ix ix_tup h1.run h2.run hp) (fun σ H d hl ⟨ds, i, a1, a2, e⟩ Q q => ⟨hl, _, a1, fun H1 v f1 d1 => ⟨hl.same f1, _, h2.mono _ _ _ _ f1 a2, fun H2 w f2 d2 => by
    obtain ⟨p1, vs1, rfl, s1, da1⟩ := dt_tuple (d1.sm f2)
    obtain ⟨v, ev, dv⟩ := atI_dt da1 e
    exact ⟨p1, vs1, i, v, rfl, dt_int d2, s1.sq, ev, q _ _ (f1.trans f2) dv⟩⟩⟩)
    (fun σ H H' d f ⟨xs, ys, a1, a2, h⟩ => ⟨xs, ys, h1.mono _ _ _ _ f a1, h2.mono _ _ _ _ f a2, h⟩)
/-- len of a list, a tuple -/
def rLenD (r : RD) : RD := fun σ H d => ∃ ds, (r σ H (.list ds) ∨ r σ H (.tuple ds)) ∧ d = .int ds.length
theorem pd_len {e : Expr} {r : RD} {p pos} (hm : X.mg "len" = none) (h : PD X M e r) (hg : Gl X "len" := by rfl) (he : starEach (e :: []) X.env = (false, eval e X.env) :: starEach [] X.env := by rfl) (hpl : (backTo pos (starEach [] X.env)).any (·.1) = false := by rfl) :
    PD X M (.Call (.Name "len" p) [e] [] pos) (rLenD r) :=
  pd_of M (pe_callB call_len_seq hg hm PySem.boot_len (pa_cons h.run pa_nil he) (by decide) (by decide) he hpl) (fun σ H d hl ⟨ds, a1, e⟩ Q q => by
    subst e
    rcases a1 with a1 | a1
    · refine ⟨hl, _, a1, fun H1 v f1 d1 => ?_⟩
      obtain ⟨p1, vs1, rfl, s1, da1⟩ := dt_list d1
      refine ⟨p1, vs1, rfl, .inl s1.sq, ?_⟩
      rw [da1.len]
      exact q _ _ f1 (.int _)
    · refine ⟨hl, _, a1, fun H1 v f1 d1 => ?_⟩
      obtain ⟨p1, vs1, rfl, s1, da1⟩ := dt_tuple d1
      refine ⟨p1, vs1, rfl, .inr s1.sq, ?_⟩
      rw [da1.len]
      exact q _ _ f1 (.int _))
    (fun σ H H' d f ⟨ds, a1, e⟩ => ⟨ds, a1.imp (h.mono _ _ _ _ f) (h.mono _ _ _ _ f), e⟩)
/-- isinstance(x, T), T a built-in class -/
def rIsD (n : String) (r : RD) : RD := fun σ H d => ∃ x b, r σ H x ∧ kitB (tyName x) n = some b ∧ d = .bool b
theorem pd_isi {e : Expr} {r : RD} {n : String} {x : Str} {p p2 pos} (hm : X.mg "isinstance" = none) (hx : X.mg x = none) (hv : bootBuiltins x = some (.type n)) (h : PD X M e r) (hg : Gl X "isinstance" := by rfl) (hgx : Gl X x := by rfl)
    (hn : x ≠ "__name__" := by decide) (hd : (x == ("__debug__" : Str)) = false := by decide)
    (he : starEach (e :: [.Name x p2]) X.env = (false, eval e X.env) :: starEach [.Name x p2] X.env := by rfl) (he2 : starEach [.Name x p2] X.env = (false, eval (.Name x p2) X.env) :: starEach [] X.env := by rfl) (hpl : (backTo pos (starEach [.Name x p2] X.env)).any (·.1) = false := by rfl) :
    PD X M (.Call (.Name "isinstance" p) [e, .Name x p2] [] pos) (rIsD n r) :=
  pd_of M (pe_callB call_isi hg hm (by decide +kernel) (pa_cons h.run (pa_cons (pe_bltn (v := .ty n) hgx hx hv rfl hn hd) pa_nil he2) he) (by decide) (by decide) he hpl) (fun σ H d hl ⟨y, b, a1, k, e⟩ Q q => by
    subst e
    refine ⟨hl, _, a1, fun H1 v f1 d1 => ?_⟩
    exact ⟨v, .ty n, _, _, b, rfl, .ty n, d1.ty, kit_ty k, q _ _ f1 (.bl b)⟩)
    (fun σ H H' d f ⟨y, b, a1, k, e⟩ => ⟨y, b, h.mono _ _ _ _ f a1, k, e⟩)
/-- not x, x a bool -/
def rNotD (r : RD) : RD := fun σ H d => ∃ b, r σ H (.bool b) ∧ d = .bool (!b)
theorem pd_not {e : Expr} {r : RD} {pos} (h : PD X M e r) : PD X M (.UnaryOp .Not e pos) (rNotD r) :=
  pd_of M (pe_not h.run) (fun σ H d hl ⟨b, a1, e⟩ Q q => ⟨hl, _, a1, fun H1 v f1 d1 => ⟨b, dt_bl d1, by subst e; exact q _ _ f1 (.bl _)⟩⟩) (fun σ H H' d f ⟨b, a1, e⟩ => ⟨b, h.mono _ _ _ _ f a1, e⟩)
/-- x and y, x or y, x a bool -/
def rAndD (r1 r2 : RD) : RD := fun σ H d => ∃ b, r1 σ H (.bool b) ∧ (if b = true then r2 σ H d else d = .bool false)
def rOrD (r1 r2 : RD) : RD := fun σ H d => ∃ b, r1 σ H (.bool b) ∧ (if b = true then d = .bool true else r2 σ H d)
theorem pd_one {op} {a : Expr} {r : RD} {pos} (h : PD X M a r) : PD X M (.BoolOp op [a] pos) r := ⟨pe_one h.run, h.mono⟩
theorem pd_and {a b : Expr} {rest : List Expr} {r1 r2 : RD} {pos} (h1 : PD X M a r1) (h2 : PD X M (.BoolOp .And (b :: rest) pos) r2) : PD X M (.BoolOp .And (a :: b :: rest) pos) (rAndD r1 r2) :=
  pd_of M (pe_and h1.run h2.run) (fun σ H d hl ⟨c, a1, e⟩ Q q => ⟨hl, _, a1, fun H1 v f1 d1 => ⟨c, dt_bl d1, by
    cases c with
    | true =>
      rw [if_pos rfl] at e ⊢
      exact ⟨hl.same f1, d, h2.mono _ _ _ _ f1 e, fun H2 w f2 d2 => q _ _ (f1.trans f2) d2⟩
    | false =>
      rw [if_neg Bool.false_ne_true] at e ⊢
      subst e
      exact q _ _ f1 (.bl false)⟩⟩) (fun σ H H' d f ⟨c, a1, e⟩ => ⟨c, h1.mono _ _ _ _ f a1, by
    cases c with
    | true =>
      rw [if_pos rfl] at e ⊢
      exact h2.mono _ _ _ _ f e
    | false => exact e⟩)
theorem pd_or {a b : Expr} {rest : List Expr} {r1 r2 : RD} {pos} (h1 : PD X M a r1) (h2 : PD X M (.BoolOp .Or (b :: rest) pos) r2) : PD X M (.BoolOp .Or (a :: b :: rest) pos) (rOrD r1 r2) :=
  pd_of M (pe_or h1.run h2.run) (fun σ H d hl ⟨c, a1, e⟩ Q q => ⟨hl, _, a1, fun H1 v f1 d1 => ⟨c, dt_bl d1, by
    cases c with
    | false =>
      rw [if_neg Bool.false_ne_true] at e ⊢
      exact ⟨hl.same f1, d, h2.mono _ _ _ _ f1 e, fun H2 w f2 d2 => q _ _ (f1.trans f2) d2⟩
    | true =>
      rw [if_pos rfl] at e ⊢
      subst e
      exact q _ _ f1 (.bl true)⟩⟩) (fun σ H H' d f ⟨c, a1, e⟩ => ⟨c, h1.mono _ _ _ _ f a1, by
    cases c with
    | false =>
      rw [if_neg Bool.false_ne_true] at e ⊢
      exact h2.mono _ _ _ _ f e
    | true => exact e⟩)
/-- a < b < c of ints -/
def rChainD (r1 r2 r3 : RD) (g g' : Int → Int → Bool) : RD := fun σ H d => ∃ i j k, r1 σ H (.int i) ∧ r2 σ H (.int j) ∧ r3 σ H (.int k) ∧ d = .bool (g i j && g' j k)
theorem pd_chain {op op' : CmpOp} {a b c : Expr} {r1 r2 r3 : RD} {g g' : Int → Int → Bool} {pos} (ho : OpR X (compareOp op) (rI0 fun i j => .bl (g i j))) (ho' : OpR X (compareOp op') (rI0 fun i j => .bl (g' i j)))
    (h1 : PD X M a r1) (h2 : PD X M b r2) (h3 : PD X M c r3) (hm : lastMarks [op, op'] [b, c] = false := by with_unfolding_all rfl) : PD X M (.Compare a [op, op'] [b, c] pos) (rChainD r1 r2 r3 g g') :=
  pd_of M (pe_chain ho ho' h1.run h2.run h3.run hm) (fun σ H d hl ⟨i, j, k, a1, a2, a3, e⟩ Q q => ⟨hl, _, a1, fun H1 v f1 d1 => ⟨hl.same f1, _, h2.mono _ _ _ _ f1 a2, fun H2 w f2 d2 =>
    ⟨i, j, dt_int d1, dt_int d2, _, rfl, by
      cases z : g i j with
      | false =>
        rw [if_neg Bool.false_ne_true]
        refine q _ _ (f1.trans f2) ?_
        rw [e, z]
        exact .bl false
      | true =>
        rw [if_pos rfl]
        refine ⟨hl.same (f1.trans f2), _, h3.mono _ _ _ _ (f1.trans f2) a3, fun H3 u f3 d3 => ⟨j, k, dt_int d2, dt_int d3, q _ _ ((f1.trans f2).trans f3) ?_⟩⟩
        rw [e, z]
        exact .bl _⟩⟩⟩) (fun σ H H' d f ⟨i, j, k, a1, a2, a3, e⟩ => ⟨i, j, k, h1.mono _ _ _ _ f a1, h2.mono _ _ _ _ f a2, h3.mono _ _ _ _ f a3, e⟩)
/-- x in (a list of data) -/
def rInLD (neg : Bool) (r1 r2 : RD) : RD := fun σ H d => ∃ x ds, r1 σ H x ∧ r2 σ H (.list ds) ∧ SeqAt.shaped x = true ∧ SeqAt.shaped (.list ds) = true ∧
  d = .bool (if neg then !(ds.any fun z => PyData.eqv z x) else ds.any fun z => PyData.eqv z x)
theorem rInLD_mono {neg : Bool} {r1 r2 : RD} (m1 : ∀ σ H H' d, Same H H' → r1 σ H d → r1 σ H' d) (m2 : ∀ σ H H' d, Same H H' → r2 σ H d → r2 σ H' d) :
    ∀ σ H H' d, Same H H' → rInLD neg r1 r2 σ H d → rInLD neg r1 r2 σ H' d := fun σ H H' d f ⟨i, j, h1, h2, h⟩ => ⟨i, j, m1 _ _ _ _ f h1, m2 _ _ _ _ f h2, h⟩
theorem pd_inL {k : Nat} {a b : Expr} {r1 r2 : RD} {pos} (hr : Room k X.A) (h1 : PD X M a r1) (h2 : PD X M b r2) (hm : lastMarks [.In] [b] = false := by with_unfolding_all rfl) : PD X M (.Compare a [.In] [b] pos) (rInLD false r1 r2) :=
  pd_of M (pe_cmpR (op_inD (by have := hr.un; omega)) h1.run h2.run hm) (fun σ H d hl ⟨x, ds, a1, a2, s1, s2, e⟩ Q q => ⟨hl, _, a1, fun H1 v f1 d1 => ⟨hl.same f1, _, h2.mono _ _ _ _ f1 a2, fun H2 w f2 d2 =>
    ⟨x, ds, (d1.sm f2).dp (noDict_of s1), d2.dp (noDict_of s2), s1, s2, q H2 _ (f1.trans f2) (by subst e; exact .bl _)⟩⟩⟩) (rInLD_mono h1.mono h2.mono)
theorem pd_niL {k : Nat} {a b : Expr} {r1 r2 : RD} {pos} (hr : Room k X.A) (h1 : PD X M a r1) (h2 : PD X M b r2) (hm : lastMarks [.NotIn] [b] = false := by with_unfolding_all rfl) : PD X M (.Compare a [.NotIn] [b] pos) (rInLD true r1 r2) :=
  pd_of M (pe_cmpR (op_notInD (by have := hr.un; omega)) h1.run h2.run hm) (fun σ H d hl ⟨x, ds, a1, a2, s1, s2, e⟩ Q q => ⟨hl, _, a1, fun H1 v f1 d1 => ⟨hl.same f1, _, h2.mono _ _ _ _ f1 a2, fun H2 w f2 d2 =>
    ⟨x, ds, (d1.sm f2).dp (noDict_of s1), d2.dp (noDict_of s2), s1, s2, q H2 _ (f1.trans f2) (by subst e; exact .bl _)⟩⟩⟩) (rInLD_mono h1.mono h2.mono)
/-- a if t else b -/
def rIfD (rt : RB) (r1 r2 : RD) : RD := fun σ H d => ∃ b, rt σ H b ∧ (if b = true then r1 σ H d else r2 σ H d)
theorem pd_if {c a b : Expr} {rt : RB} {r1 r2 : RD} {pos} (ht : PB X M c rt) (h1 : PD X M a r1) (h2 : PD X M b r2) : PD X M (.IfExp c a b pos) (rIfD rt r1 r2) :=
  pd_of M (pe_ifExp ht.run h1.run h2.run) (fun σ H d hl ⟨k, a1, e⟩ Q q => ⟨hl, _, a1, fun H1 f1 => by
    cases k with
    | true =>
      rw [if_pos rfl] at e ⊢
      exact ⟨hl.same f1, d, h1.mono _ _ _ _ f1 e, fun H2 w f2 d2 => q _ _ (f1.trans f2) d2⟩
    | false =>
      rw [if_neg Bool.false_ne_true] at e ⊢
      exact ⟨hl.same f1, d, h2.mono _ _ _ _ f1 e, fun H2 w f2 d2 => q _ _ (f1.trans f2) d2⟩⟩) (fun σ H H' d f ⟨k, a1, e⟩ => ⟨k, ht.mono _ _ _ _ f a1, by
    cases k with
    | true =>
      rw [if_pos rfl] at e ⊢
      exact h1.mono _ _ _ _ f e
    | false =>
      rw [if_neg Bool.false_ne_true] at e ⊢
      exact h2.mono _ _ _ _ f e⟩)
/-! tests -/
def rBool (r : RD) : RB := fun σ H b => r σ H (.bool b)
theorem pb_val {e : Expr} {r : RD} (h : PD X M e r) (he : ∀ whole, isTrue e X.env whole = (do let v ← whole; standAt e.pos; holding [v] (truthy v)) := by intro _; rfl) : PB X M e (rBool r) :=
  ⟨pt_imp (pt_val h.run he) fun σ H Q ⟨hl, b, a1, q⟩ => ⟨hl, _, a1, fun H1 v f1 d1 => ⟨b, dt_bl d1, q H1 f1⟩⟩, fun σ H H' b f a => h.mono _ _ _ _ f a⟩
def rNotB (r : RB) : RB := fun σ H b => r σ H (!b)
theorem pb_not {e : Expr} {r : RB} {pos} (h : PB X M e r) : PB X M (.UnaryOp .Not e pos) (rNotB r) :=
  ⟨pt_imp (pt_not h.run) fun σ H Q ⟨hl, b, a1, q⟩ => ⟨hl, _, a1, fun H1 f1 => by show Q (!(!b)) H1; rw [Bool.not_not]; exact q H1 f1⟩, fun σ H H' b f a => h.mono _ _ _ _ f a⟩
/-- a chain of tests -/
structure PBW (X : Cx) (M : Mu) (e : Expr) (r : RB) : Prop where
  run : PW X e (tDB M r)
  mono : ∀ σ H H' d, Same H H' → r σ H d → r σ H' d
theorem pw_imp {X : Cx} {e : Expr} {t u : TT} (h : PW X e t) (i : ∀ σ H Q, u σ H Q → t σ H Q) : PW X e u := ⟨fun wh pins s σ H Q I q => h.run wh pins s σ H Q I (i σ H Q q)⟩
def rAndB (r1 r2 : RB) : RB := fun σ H b => ∃ c, r1 σ H c ∧ (if c = true then r2 σ H b else b = false)
def rOrB (r1 r2 : RB) : RB := fun σ H b => ∃ c, r1 σ H c ∧ (if c = true then b = true else r2 σ H b)
theorem pbw_and1 {a : Expr} {r : RB} {pos} (h : PB X M a r) : PBW X M (.BoolOp .And [a] pos) r := ⟨pw_and1 h.run, h.mono⟩
theorem pbw_or1 {a : Expr} {r : RB} {pos} (h : PB X M a r) : PBW X M (.BoolOp .Or [a] pos) r := ⟨pw_or1 h.run, h.mono⟩
theorem pbw_and {a b : Expr} {rest : List Expr} {r1 r2 : RB} {pos} (h1 : PB X M a r1) (h2 : PBW X M (.BoolOp .And (b :: rest) pos) r2) : PBW X M (.BoolOp .And (a :: b :: rest) pos) (rAndB r1 r2) :=
  ⟨pw_imp (pw_and h1.run h2.run) fun σ H Q ⟨hl, b, ⟨c, a1, e⟩, q⟩ => ⟨hl, _, a1, fun H1 f1 => by
    cases c with
    | true =>
      rw [if_pos rfl] at e ⊢
      exact ⟨hl.same f1, b, h2.mono _ _ _ _ f1 e, fun H2 f2 => q _ (f1.trans f2)⟩
    | false =>
      rw [if_neg Bool.false_ne_true] at e ⊢
      subst e
      exact q _ f1⟩, fun σ H H' b f ⟨c, a1, e⟩ => ⟨c, h1.mono _ _ _ _ f a1, by
    cases c with
    | true =>
      rw [if_pos rfl] at e ⊢
      exact h2.mono _ _ _ _ f e
    | false => exact e⟩⟩
theorem pbw_or {a b : Expr} {rest : List Expr} {r1 r2 : RB} {pos} (h1 : PB X M a r1) (h2 : PBW X M (.BoolOp .Or (b :: rest) pos) r2) : PBW X M (.BoolOp .Or (a :: b :: rest) pos) (rOrB r1 r2) :=
  ⟨pw_imp (pw_or h1.run h2.run) fun σ H Q ⟨hl, b, ⟨c, a1, e⟩, q⟩ => ⟨hl, _, a1, fun H1 f1 => by
    cases c with
    | false =>
      rw [if_neg Bool.false_ne_true] at e ⊢
      exact ⟨hl.same f1, b, h2.mono _ _ _ _ f1 e, fun H2 f2 => q _ (f1.trans f2)⟩
    | true =>
      rw [if_pos rfl] at e ⊢
      subst e
      exact q _ f1⟩, fun σ H H' b f ⟨c, a1, e⟩ => ⟨c, h1.mono _ _ _ _ f a1, by
    cases c with
    | false =>
      rw [if_neg Bool.false_ne_true] at e ⊢
      exact h2.mono _ _ _ _ f e
    | true => exact e⟩⟩
theorem PBW.pb {e : Expr} {r : RB} (h : PBW X M e r) : PB X M e r := ⟨h.run.pt, h.mono⟩
/-! a def over data: its promise, its call -/
def spPure (K : PySem.W.Frag) (R : List PyData → PyData → Prop) : Sp := fun vs H Q _ => ∃ (M : Mu) (ds : List PyData) (d : PyData), Live M H ∧ DtAll M K H vs ds ∧ R ds d ∧ ∀ H' v, Same H H' → Dt M K H' v d → Q v H'
def rCallD (R : List PyData → PyData → Prop) (rs : RDs) : RD := fun σ H d => ∃ ds, rs σ H ds ∧ R ds d
theorem pd_call {k : Nat} {f : Addr} {fd : FuncData} {ps : List Str} {R : List PyData → PyData → Prop} {x : Str} {e : Expr} {es : List Expr} {rs : RDs} {p pos} (F : FnOk X.prog X.w X.K X.mg X.base CX0 k f fd ps (spPure X.K R)) (hr : Room k X.A) (hm : X.mg x = some (.ref f)) (hk : PySem.W.keepIn X.K (.ref f) = true)
    (hb : Binds X.K fd ps []) (ha : PDs X M (e :: es) rs) (hg : Gl X x := by rfl) (hdb : (x == ("__debug__" : Str)) = false := by decide) (he : starEach (e :: es) X.env = (false, eval e X.env) :: starEach es X.env := by rfl) (hpl : (backTo pos (starEach es X.env)).any (·.1) = false := by rfl) :
    PD X M (.Call (.Name x p) (e :: es) [] pos) (rCallD R rs) :=
  pd_of M (pe_call F hr hg hm hk hb .nil pass0 ha.run hdb he hpl) (fun σ H d hl ⟨ds, a1, a2⟩ Q q => ⟨hl, ds, a1, fun H1 vs f1 d1 =>
    ⟨M, ds, d, hl.same f1, by rw [List.append_nil]; exact d1, a2, fun H2 v f2 d2 => q _ _ (f1.trans f2) d2⟩⟩) (fun σ H H' d f ⟨ds, a1, a2⟩ => ⟨ds, ha.mono _ _ _ _ f a1, a2⟩)
/-! [elt for x in src], elt over data -/
/-- M and one more -/
def plus1 (M : Mu) (D : Addr) : Mu := fun c => M c ∨ c = D
def rLc (K : PySem.W.Frag) (c : List PyData → PyData) (i : Nat) (rs : RD) (r : Mu → RD) : RD := fun σ H d => ∃ ds es, rs σ H (c ds) ∧ ds.length ≤ 1000 ∧ es.length = ds.length ∧
  (∀ (M' : Mu) (k : Nat) x e, ds[k]? = some x → es[k]? = some e → ∀ H' v, Same H H' → Dt M' K H' v x → r M' ((wipe σ [i]).set i (some v)) H' e) ∧ d = .list es
theorem Live.plus1 {M : Mu} {H : Hp} {D : Addr} (h : Live M H) (e : H D ≠ none) : Live (plus1 M D) H := fun m hm => hm.elim (h m) fun z => by rw [z]; exact e
/-- what stands while a new list at D is filled -/
structure Filled (M : Mu) (K : PySem.W.Frag) (H1 H2 : Hp) (D : Addr) (es : List PyData) : Prop where
  sm : Same H1 H2
  at_ : ∃ acc, H2 D = some (.lst acc) ∧ DtAll (GR.plus1 M D) K H2 acc es
theorem Filled.start {M : Mu} {K : PySem.W.Frag} {H1 : Hp} {D : Addr} (n : H1 D = none) : Filled M K H1 (upd H1 D (.lst [])) D [] := ⟨same_upd n, [], upd_same, .nil⟩
theorem Filled.more {M : Mu} {K : PySem.W.Frag} {H1 H2 H3 : Hp} {D : Addr} {es : List PyData} {y : V} {e : PyData} (F : Filled M K H1 H2 D es) (n : H1 D = none) (s : Same H2 H3) (d : Dt (GR.plus1 M D) K H3 y e) :
    ∃ acc, H3 D = some (.lst acc) ∧ acc.length = es.length ∧ Filled M K H1 (upd H3 D (.lst (acc ++ [y]))) D (es ++ [e]) := by
  obtain ⟨acc, ha, da⟩ := F.at_
  refine ⟨acc, s _ _ ha, da.len, ⟨fun c o h => ?_, acc ++ [y], upd_same, ?_⟩⟩
  · rw [upd_ne (ne_of_none h n)]
    exact s _ _ (F.sm _ _ h)
  · have f : Fx (GR.plus1 M D) H3 (upd H3 D (.lst (acc ++ [y]))) := ⟨fun c o nm h => by rw [upd_ne (fun z => nm (.inr z))]; exact h, fun hl m hm => by
      by_cases z : m = D
      · rw [z, upd_same]; simp
      · rw [upd_ne z]; exact hl m hm⟩
    exact ((da.sm s).append (.cons d .nil)).fx f
theorem Filled.dt {M : Mu} {K : PySem.W.Frag} {H1 H2 : Hp} {D : Addr} {es : List PyData} (F : Filled M K H1 H2 D es) (hM : ¬ M D) : Dt M K H2 (.ref D) (.list es) := by
  obtain ⟨acc, ha, da⟩ := F.at_
  exact .lst (.inl ⟨.inl ha, hM⟩) (da.more fun c hc => .inl (.inl hc))
theorem wipe1 (σ : L2.St) (i : Nat) (v : V) : wipe ((wipe σ [i]).set i (some v)) [i] = wipe σ [i] := by
  show ((σ.set i none).set i (some v)).set i none = σ.set i none
  rw [List.set_set, List.set_set]
theorem rLc_mono {K : PySem.W.Frag} {c : List PyData → PyData} {i : Nat} {rs : RD} {r : Mu → RD} (m : ∀ σ H H' d, Same H H' → rs σ H d → rs σ H' d) : ∀ σ H H' d, Same H H' → rLc K c i rs r σ H d → rLc K c i rs r σ H' d :=
  fun σ H H' d f ⟨ds, es, a1, hz, el, hr, e⟩ => ⟨ds, es, m _ _ _ _ f a1, hz, el, fun M' k x z h1 h2 H'' v f2 dv => hr M' k x z h1 h2 H'' v (f.trans f2) dv, e⟩
theorem lc_step {K : PySem.W.Frag} {i : Nat} {r : Mu → RD} {ds es : List PyData} {xs : List V} {σ : L2.St} {H H1 : Hp} {D : Addr} (hl : Live M H1) (f1 : Same H H1) (nD : H1 D = none) (da : DtAll M K H1 xs ds) (hz : ds.length ≤ 1000) (el : es.length = ds.length)
    (hr : ∀ (M' : Mu) (k : Nat) x e, ds[k]? = some x → es[k]? = some e → ∀ H' v, Same H H' → Dt M' K H' v x → r M' ((wipe σ [i]).set i (some v)) H' e)
    (k : Nat) (v : V) (H2 : Hp) (hv : xs[k]? = some v) (F : Filled M K H1 H2 D (es.take k)) :
    ∃ M', tD M' K (r M') ((wipe σ [i]).set i (some v)) H2 fun y H4 => ∃ acc, H4 D = some (.lst acc) ∧ acc.length < sizeLine ∧ Filled M K H1 (upd H4 D (.lst (acc ++ [y]))) D (es.take (k + 1)) := by
  have hk := (List.getElem?_eq_some_iff.mp hv).1
  have ld := da.len
  have hkd : k < ds.length := by omega
  have hke : k < es.length := by omega
  obtain ⟨v', ev, dv⟩ := da.get (List.getElem?_eq_getElem hkd)
  rw [hv] at ev
  cases ev
  obtain ⟨acc, ha, dacc⟩ := F.at_
  have dv2 : Dt (GR.plus1 M D) K H2 v ds[k] := (dv.more fun c hc => hc.imp id fun z => by rw [z]; exact nD).sm F.sm
  refine ⟨GR.plus1 M D, (hl.same F.sm).plus1 (by rw [ha]; simp), es[k], hr _ k _ _ (List.getElem?_eq_getElem hkd) (List.getElem?_eq_getElem hke) H2 v (f1.trans F.sm) dv2, fun H4 y s4 dy => ?_⟩
  obtain ⟨acc', h1, h2, h3⟩ := F.more nD s4 dy
  refine ⟨acc', h1, ?_, ?_⟩
  · rw [h2, List.length_take]
    exact Nat.lt_of_le_of_lt (Nat.min_le_left _ _) (small1000 (by omega))
  · rw [List.take_add_one, List.getElem?_eq_getElem hke]
    exact h3
theorem pd_lcL {elt src : Expr} {scope : Scope} {y : Str} {i : Nat} {pos ps : Pos} {rs : RD} {r : Mu → RD} (hc : X.calm = true) (hN : X.N.Nodup) (hsrc : PD X M src rs) (ok : BlkOk X.N X.env.scope scope [(y, i)])
    (hg : ∀ (s : Shared) (H : Hp) (C : Addr) (cl : List (Str × Addr)) (fp : List Addr), PG (X.blk s H scope (compEnvC scope cl C X.env) fp) (.Name y ps) (gName i))
    (he : ∀ (M : Mu) (s : Shared) (H : Hp) (C : Addr) (cl : List (Str × Addr)) (fp : List Addr), PD (X.blk s H scope (compEnvC scope cl C X.env) fp) M elt (r M)) (hs : ∀ x, foldedSetIterable src X.env x = pure x := by intro _; rfl) :
    PD X M (.ListComp elt [⟨.Name y ps, src, [], 0⟩] scope pos) (rLc X.K .list i rs r) := by
  refine pd_of M (pe_lc (own := [(y, i)]) (g := gName i) (tt := tYes) (te := fun σ H Q => ∃ M', tD M' X.K (r M') σ H Q) hc hN (pi_list hsrc.run) ok hg (fun _ _ _ _ _ => pts_nil)
    (fun s H C cl fp => ⟨fun pins s' σ H' Q I ⟨M', z⟩ => (he M' s H C cl fp).run.run pins s' σ H' Q I z⟩) hs) (fun σ H d hl ⟨ds, es, a1, hz, el, hr, e⟩ Q q => ?_) (rLc_mono hsrc.mono)
  refine ⟨hl, _, a1, fun H1 w f1 dw => ?_⟩
  obtain ⟨a, xs, rfl, sq, da⟩ := dt_list dw
  refine ⟨a, rfl, ⟨_, sq.sq⟩, fun D nD => ?_⟩
  have ld := da.len
  refine lc_list (K := X.K) (a := a) (xs := xs) (g := gName i) (tt := tYes) (te := fun σ H Q => ∃ M', tD M' X.K (r M') σ H Q) (vs := [i]) (σ := σ) (Qd := Q (.ref D)) (fun k H2 => Filled M X.K H1 H2 D (es.take k)) (.start nD) (fun k H2 _ F => SqL_same F.sm sq.sq) (fun k v H2 hv F => ?_) (fun H2 F => ?_)
  · exact ⟨wipe1 σ i v, lc_step M (hl.same f1) f1 nD da hz el hr k v H2 hv F⟩
  · rw [ld, ← el, List.take_length] at F
    subst e
    exact q _ _ (f1.trans F.sm) (F.dt ((hl.same f1).ne nD))
theorem pd_lcT {elt src : Expr} {scope : Scope} {y : Str} {i : Nat} {pos ps : Pos} {rs : RD} {r : Mu → RD} (hc : X.calm = true) (hN : X.N.Nodup) (hsrc : PD X M src rs) (ok : BlkOk X.N X.env.scope scope [(y, i)])
    (hg : ∀ (s : Shared) (H : Hp) (C : Addr) (cl : List (Str × Addr)) (fp : List Addr), PG (X.blk s H scope (compEnvC scope cl C X.env) fp) (.Name y ps) (gName i))
    (he : ∀ (M : Mu) (s : Shared) (H : Hp) (C : Addr) (cl : List (Str × Addr)) (fp : List Addr), PD (X.blk s H scope (compEnvC scope cl C X.env) fp) M elt (r M)) (hs : ∀ x, foldedSetIterable src X.env x = pure x := by intro _; rfl) :
    PD X M (.ListComp elt [⟨.Name y ps, src, [], 0⟩] scope pos) (rLc X.K .tuple i rs r) := by
  refine pd_of M (pe_lc (own := [(y, i)]) (g := gName i) (tt := tYes) (te := fun σ H Q => ∃ M', tD M' X.K (r M') σ H Q) hc hN (pi_tup hsrc.run) ok hg (fun _ _ _ _ _ => pts_nil)
    (fun s H C cl fp => ⟨fun pins s' σ H' Q I ⟨M', z⟩ => (he M' s H C cl fp).run.run pins s' σ H' Q I z⟩) hs) (fun σ H d hl ⟨ds, es, a1, hz, el, hr, e⟩ Q q => ?_) (rLc_mono hsrc.mono)
  refine ⟨hl, _, a1, fun H1 w f1 dw => ?_⟩
  obtain ⟨a, xs, rfl, sq, da⟩ := dt_tuple dw
  refine ⟨a, rfl, ⟨_, sq.sq⟩, fun D nD => ?_⟩
  have ld := da.len
  refine lc_tup (K := X.K) (a := a) (xs := xs) (g := gName i) (tt := tYes) (te := fun σ H Q => ∃ M', tD M' X.K (r M') σ H Q) (vs := [i]) (σ := σ) (Qd := Q (.ref D)) (fun k H2 => Filled M X.K H1 H2 D (es.take k)) (.start nD) (fun k H2 _ F => SqT_same F.sm sq.sq) (fun k v H2 hv F => ?_) (fun H2 F => ?_)
  · exact ⟨wipe1 σ i v, lc_step M (hl.same f1) f1 nD da hz el hr k v H2 hv F⟩
  · rw [ld, ← el, List.take_length] at F
    subst e
    exact q _ _ (f1.trans F.sm) (F.dt ((hl.same f1).ne nD))
/-- all(..), any(..) of a list of bools -/
def rAllD (r : RD) : RD := fun σ H d => ∃ bs : List Bool, r σ H (.list (bs.map PyData.bool)) ∧ d = .bool (bs.all id)
theorem dtAll_bl {M : Mu} {K : PySem.W.Frag} {H : Hp} : ∀ {vs : List V} {bs : List Bool}, DtAll M K H vs (bs.map PyData.bool) → vs = bs.map V.bl
  | [], [], _ => rfl
  | _ :: _, [], h => by cases h
  | [], _ :: _, h => by cases h
  | v :: vs, b :: bs, .cons h1 h2 => by rw [dt_bl h1, dtAll_bl h2]; rfl
theorem pd_all {e : Expr} {r : RD} {p pos} (hc : X.calm = true) (hm : X.mg "all" = none) (h : PD X M e r) (hg : Gl X "all" := by rfl) (he : starEach (e :: []) X.env = (false, eval e X.env) :: starEach [] X.env := by rfl) (hpl : (backTo pos (starEach [] X.env)).any (·.1) = false := by rfl) :
    PD X M (.Call (.Name "all" p) [e] [] pos) (rAllD r) :=
  pd_of M (pe_callB (cr_all hc) hg hm (by decide +kernel) (pa_cons h.run pa_nil he) (by decide) (by decide) he hpl) (fun σ H d hl ⟨bs, a1, e⟩ Q q => by
    subst e
    refine ⟨hl, _, a1, fun H1 v f1 d1 => ?_⟩
    obtain ⟨p1, vs1, rfl, s1, da1⟩ := dt_list d1
    have z := dtAll_bl da1
    subst z
    exact ⟨p1, bs, rfl, s1.sq, q _ _ f1 (.bl _)⟩) (fun σ H H' d f ⟨bs, a1, e⟩ => ⟨bs, h.mono _ _ _ _ f a1, e⟩)
end
end GR

namespace GR
open PySem PySem.Spec L2
/-! ## repr of data, a dict on top allowed -/
mutual
def noList : PyData → Bool
  | .none | .bool _ | .int _ | .str _ => true
  | .tuple xs => noListAll xs
  | .list _ | .dict _ => false
def noListAll : List PyData → Bool
  | [] => true
  | x :: xs => noList x && noListAll xs
end
section
variable {X : Cx} {pins : List (Addr × Obj)} {σ : L2.St} {H : Hp} {s : Shared} {M : Mu}
theorem keys_read {P : Program} {w : World} {h : Heap} : ∀ {es : List DictEntry} {vs : List (Key × Value)}, Pairs (mixKind P w) es vs → ReadsAll h (es.map (·.key)) ((vs.map (·.1)).map keyD) [] ∧ es.map (·.val) = vs.map (·.2)
  | _, _, .nil => ⟨.nil, rfl⟩
  | e :: es, kv :: vs, .cons h1 h2 h3 => by
    obtain ⟨r, ev⟩ := keys_read h3
    refine ⟨?_, by rw [List.map_cons, List.map_cons, h2, ev]⟩
    obtain ⟨k, z⟩ := kv
    have h1' : keyIs k e.key = true := h1
    rw [List.map_cons, List.map_cons, List.map_cons]
    rcases keyIs_shape h1' with ⟨i, t, rfl, q⟩ | ⟨x, t, rfl, q⟩
    · have : Reads h e.key (.int i) [] := by rw [q]; exact .int i t
      exact ReadsAll.cons (as := []) (bs := []) this r
    · have : Reads h e.key (.str x) [] := by rw [q]; exact .str x t
      exact ReadsAll.cons (as := []) (bs := []) this r
theorem kv_fst : ∀ {kvs : List (Key × V)} {vs : List (Key × Value)}, KV kvs vs → kvs.map (·.1) = vs.map (·.1) ∧ Vals (kvs.map (·.2)) (vs.map (·.2))
  | _, _, .nil => ⟨rfl, .nil⟩
  | _, _, .cons r t => by
    obtain ⟨a, b⟩ := kv_fst t
    exact ⟨by rw [List.map_cons, List.map_cons, a, r.1], .cons r.2 b⟩
mutual
theorem Dt.reads (I : Inv X pins σ H s) : ∀ {d : PyData} {v : V} {u : Value}, Dt M X.K H v d → RelV v u → ∃ as, Reads s.heap u d as ∧ (noList d = true → as = [])
  | _, _, _, .non, r => by
    cases r
    exact ⟨_, .none, fun _ => rfl⟩
  | _, _, _, .bl b, r => by
    cases r
    exact ⟨_, .bool b, fun _ => rfl⟩
  | _, _, _, .int i, r => by
    obtain ⟨t, rfl⟩ := r
    exact ⟨_, .int i t, fun _ => rfl⟩
  | _, _, _, .str x, r => by
    obtain ⟨t, rfl⟩ := r
    exact ⟨_, .str x t, fun _ => rfl⟩
  | _, _, _, .lst hs ha, r => by
    cases r
    obtain ⟨its, rv, ⟨o, n, ho, hc, _, hd⟩, _⟩ := I.list hs.sq
    obtain ⟨as, hr, _⟩ := DtAll.reads I ha rv
    exact ⟨_, .list ho hc hd hr, fun z => by simp [noList] at z⟩
  | _, _, _, .tup hs ha, r => by
    cases r
    obtain ⟨its, rv, ⟨o, ho, hc, n, hd⟩, _⟩ := I.tuple hs.sq
    obtain ⟨as, hr, z⟩ := DtAll.reads I ha rv
    exact ⟨_, .tuple ho hc hd hr, fun q => z (by simpa only [noList] using q)⟩
  | _, _, _, .dct (a := a) (kvs := ps) (ks := ks) (ds := ds) hH hM ek ha, r => by
    cases r
    subst ek
    obtain ⟨_, _, vs, rel, o, es, ep, ho, ⟨hcls, _, _⟩, hdat, _, hp, _⟩ := (show ObjOk X.prog X.w H s.heap a (.dK ps) from I.hok a _ hH)
    obtain ⟨e1, rv⟩ := kv_fst rel
    obtain ⟨rk, ev⟩ := keys_read (h := s.heap) hp
    obtain ⟨as, hr, _⟩ := DtAll.reads I ha rv
    have l1 := ha.len
    rw [List.length_map] at l1
    refine ⟨a :: [] ++ as, .dict ho hcls hdat ?_ ?_, fun z => by simp [noList] at z⟩
    · rw [List.map_fst_zip (by rw [List.length_map, List.length_map]; omega), e1]
      exact rk
    · rw [List.map_snd_zip (by rw [List.length_map, List.length_map]; omega), ev]
      exact hr
theorem DtAll.reads (I : Inv X pins σ H s) : ∀ {ds : List PyData} {vs : List V} {us : List Value}, DtAll M X.K H vs ds → Vals vs us → ∃ as, ReadsAll s.heap us ds as ∧ (noListAll ds = true → as = [])
  | _, _, _, .nil, r => by
    cases r
    exact ⟨_, .nil, fun _ => rfl⟩
  | _, _, _, .cons (d := d) (ds := ds) h1 h2, .cons r1 r2 => by
    obtain ⟨as, q1, z1⟩ := Dt.reads I h1 r1
    obtain ⟨bs, q2, z2⟩ := DtAll.reads I h2 r2
    refine ⟨_, .cons q1 q2, fun z => ?_⟩
    have z' : noList d = true ∧ noListAll ds = true := by simpa [noListAll] using z
    rw [z1 z'.1, z2 z'.2]
    rfl
end
/-- no dict, or one dict on top whose values hold no list -/
def dictTop (d : PyData) : Prop := d.hasDict = false ∨ ∃ kvs, d = .dict kvs ∧ noListAll (kvs.map (·.2)) = true
def rReprT (M : Mu) (K : PySem.W.Frag) : List V → Hp → VK → Prop := fun xs H Q => ∃ x d, xs = [x] ∧ Dt M K H x d ∧ d.showable = true ∧ d.depth ≤ 20 ∧ d.shown.length ≤ sizeLine ∧ dictTop d ∧
  ∀ tx, tx = d.shown → Q (.str tx) H
end
section
variable {X : Cx} (M : Mu)
theorem call_reprT {k : Nat} (hr : Room k X.A) (gd : X.A.guards = some []) : CallR X (.builtin "repr") (rReprT M X.K) := by
  intro pins s σ H xs us Q I r h
  obtain ⟨x, d, rfl, hd, hs, hdp, hl, ht, q⟩ := h
  by_cases hnd : d.hasDict = false
  · exact call_reprD hr gd pins s σ H [x] us Q I r ⟨x, d, rfl, hd.dp hnd, hs, hdp, hl, q⟩
  · rcases ht with ht | ⟨kvs, rfl, hn⟩
    · exact absurd ht hnd
    · cases r with
      | cons r1 r2 =>
        cases r2
        rename_i u
        cases hd with
        | @dct a ps ks ds hH hM ek ha =>
          cases (show u = Value.ref a from r1)
          subst ek
          obtain ⟨_, nsys, vs, rel, o, es, ep, ho, ⟨hcls, _, _⟩, hdat, _, hp, _⟩ := (show ObjOk X.prog X.w H s.heap a (.dK ps) from I.hok a _ hH)
          obtain ⟨e1, rv⟩ := kv_fst rel
          obtain ⟨rk, ev⟩ := keys_read (h := s.heap) hp
          obtain ⟨as, hrd, z⟩ := DtAll.reads I ha rv
          have l1 := ha.len
          rw [List.length_map] at l1
          have esnd : ((ps.map (·.1)).map keyD |>.zip ds).map (·.2) = ds := List.map_snd_zip (by rw [List.length_map, List.length_map]; omega)
          have rd : Reads s.heap (.ref a) (.dict ((ps.map (·.1)).map keyD |>.zip ds)) (a :: [] ++ as) := by
            refine .dict ho hcls hdat ?_ ?_
            · rw [List.map_fst_zip (by rw [List.length_map, List.length_map]; omega), e1]
              exact rk
            · rw [esnd, ev]
              exact hrd
          rw [esnd] at hn
          have ea := z hn
          subst ea
          have hu := hr.un
          refine repr_of_reads' rd hs (fun _ hm => ?_) gd (by omega) (fun _ _ z => z) (fun h' u tk hk => ⟨.str _, H, I.kept hk, ⟨_, rfl⟩, q _ rfl⟩) hl
          have : sysModules = a := by simpa using hm
          rw [← this] at nsys
          simp at nsys
/-- str(n) -/
def rStrD (r : RD) : RD := fun σ H d => ∃ i : Int, r σ H (.int i) ∧ i.natAbs.log2 < 1920 ∧ d = .str (toString i)
theorem pd_strI {e : Expr} {r : RD} {p pos} (hm : X.mg "str" = none) (h : PD X M e r) (hg : Gl X "str" := by rfl) (he : starEach (e :: []) X.env = (false, eval e X.env) :: starEach [] X.env := by rfl) (hpl : (backTo pos (starEach [] X.env)).any (·.1) = false := by rfl) :
    PD X M (.Call (.Name "str" p) [e] [] pos) (rStrD r) :=
  pd_of M (pe_callTy call_str_int hg hm (by decide +kernel) (pa_cons h.run pa_nil he) (by decide) (by decide) he hpl) (fun σ H d hl ⟨i, a1, hz, e⟩ Q q => by
    subst e
    exact ⟨hl, _, a1, fun H1 v f1 d1 => ⟨i, by rw [dt_int d1], hz, q _ _ f1 (.str _)⟩⟩) (fun σ H H' d f ⟨i, a1, e⟩ => ⟨i, h.mono _ _ _ _ f a1, e⟩)
/-- -n -/
def rNegD (r : RD) : RD := fun σ H d => ∃ i : Int, r σ H (.int i) ∧ d = .int (-i)
theorem pd_neg {e : Expr} {r : RD} {pos} (h : PD X M e r) : PD X M (.UnaryOp .USub e pos) (rNegD r) :=
  pd_of M (pe_un un_neg h.run) (fun σ H d hl ⟨i, a1, e⟩ Q q => ⟨hl, _, a1, fun H1 v f1 d1 => ⟨i, dt_int d1, by subst e; exact q _ _ f1 (.int _)⟩⟩) (fun σ H H' d f ⟨i, a1, e⟩ => ⟨i, h.mono _ _ _ _ f a1, e⟩)
/-- {} and {k: v} -/
theorem pd_d0 {pos} : PD X M (.Dict [] [] pos) (fun _ _ d => d = .dict []) :=
  pd_of M pe_dnewK (fun σ H d hl e Q q => fun p np => by
    subst e
    exact q _ _ (same_upd np) (.dct (kvs := []) (ks := []) (ds := []) upd_same (hl.ne np) rfl .nil)) (fun _ _ _ _ _ e => e)
def rD1 (M : Mu) (r1 r2 : Mu → RD) : RD := fun σ H d => ∃ k x, (∀ p, H p = none → r1 (GR.plus1 M p) σ H (keyD k) ∧ r2 (GR.plus1 M p) σ H x) ∧ d = .dict [(keyD k, x)]
theorem dt_key {M : Mu} {K : PySem.W.Frag} {H : Hp} {v : V} {k : Key} (h : Dt M K H v (keyD k)) : v = kV k := by
  cases k with
  | inl i => exact dt_int h
  | inr x => exact dt_str h
theorem pd_d1 {a b : Expr} {r1 r2 : Mu → RD} {pos} (h1 : ∀ M, PD X M a (r1 M)) (h2 : ∀ M, PD X M b (r2 M)) : PD X M (.Dict [some a] [b] pos) (rD1 M r1 r2) := by
  have g1 : PE X a (fun σ H Q => ∃ M', tD M' X.K (r1 M') σ H Q) := ⟨fun pins s σ H Q I ⟨M', z⟩ => (h1 M').run.run pins s σ H Q I z⟩
  have g2 : PE X b (fun σ H Q => ∃ M', tD M' X.K (r2 M') σ H Q) := ⟨fun pins s σ H Q I ⟨M', z⟩ => (h2 M').run.run pins s σ H Q I z⟩
  refine pd_of M (pe_disp (pps_cons g1 g2 pps_nil) (by rfl) (by rfl) (fun z => by cases z) (by show 1 ≤ 15; decide)) (fun σ H d hl ⟨k, x, a12, e⟩ Q q => fun p np => ?_)
    (fun σ H H' d f ⟨k, x, a12, e⟩ => ⟨k, x, fun p np => ⟨(h1 _).mono _ _ _ _ f (a12 p (f.free np)).1, (h2 _).mono _ _ _ _ f (a12 p (f.free np)).2⟩, e⟩)
  subst e
  obtain ⟨a1, a2⟩ := a12 p np
  have s0 : Same H (upd H p (.dK [])) := same_upd np
  have hl0 : Live (GR.plus1 M p) (upd H p (.dK [])) := (hl.same s0).plus1 (by rw [upd_same]; simp)
  refine ⟨GR.plus1 M p, hl0, _, (h1 _).mono _ _ _ _ s0 a1, fun H1 v f1 d1 => ⟨GR.plus1 M p, hl0.same f1, _, (h2 _).mono _ _ _ _ (s0.trans f1) a2, fun H2 w f2 d2 => ?_⟩⟩
  have hp : H2 p = some (.dK []) := f2 _ _ (f1 _ _ upd_same)
  have ev := dt_key d1
  subst ev
  refine ⟨hp, [(k, w)], rfl, (by show 1 ≤ 15; decide), q _ _ ?_ ?_⟩
  · intro c o h
    rw [upd_ne (ne_of_none h np)]
    exact f2 _ _ (f1 _ _ (s0 _ _ h))
  · have f : Fx (GR.plus1 M p) H2 (upd H2 p (.dK (mergeK [] [(k, w)]))) := ⟨fun c o nm h => by rw [upd_ne (fun z => nm (.inr z))]; exact h, fun hl m hm => by
      by_cases z : m = p
      · rw [z, upd_same]; simp
      · rw [upd_ne z]; exact hl m hm⟩
    have d3 := (d2.fx f).more (M' := M) fun c hc => .inl (.inl hc)
    exact Dt.dct (kvs := [(k, w)]) (ks := [k]) (ds := [x]) upd_same (hl.ne np) rfl (.cons d3 .nil)
end
end GR
namespace GR
open PySem PySem.Spec L2
/-! ## isinstance of data -/
def isI : PyData → Bool
  | .int _ | .bool _ => true
  | _ => false
def isB : PyData → Bool
  | .bool _ => true
  | _ => false
def isT : PyData → Bool
  | .tuple _ => true
  | _ => false
def isS : PyData → Bool
  | .str _ => true
  | _ => false
def isL : PyData → Bool
  | .list _ => true
  | _ => false
theorem kit_int (d : PyData) : kitB (tyName d) "int" = some (isI d) := by
  cases d
  · exact (show kitB "NoneType" "int" = some false by decide +kernel)
  · exact (show kitB "bool" "int" = some true by decide +kernel)
  · exact (show kitB "int" "int" = some true by decide +kernel)
  · exact (show kitB "str" "int" = some false by decide +kernel)
  · exact (show kitB "list" "int" = some false by decide +kernel)
  · exact (show kitB "tuple" "int" = some false by decide +kernel)
  · exact (show kitB "dict" "int" = some false by decide +kernel)
theorem kit_bool (d : PyData) : kitB (tyName d) "bool" = some (isB d) := by
  cases d
  · exact (show kitB "NoneType" "bool" = some false by decide +kernel)
  · exact (show kitB "bool" "bool" = some true by decide +kernel)
  · exact (show kitB "int" "bool" = some false by decide +kernel)
  · exact (show kitB "str" "bool" = some false by decide +kernel)
  · exact (show kitB "list" "bool" = some false by decide +kernel)
  · exact (show kitB "tuple" "bool" = some false by decide +kernel)
  · exact (show kitB "dict" "bool" = some false by decide +kernel)
theorem kit_tuple (d : PyData) : kitB (tyName d) "tuple" = some (isT d) := by
  cases d
  · exact (show kitB "NoneType" "tuple" = some false by decide +kernel)
  · exact (show kitB "bool" "tuple" = some false by decide +kernel)
  · exact (show kitB "int" "tuple" = some false by decide +kernel)
  · exact (show kitB "str" "tuple" = some false by decide +kernel)
  · exact (show kitB "list" "tuple" = some false by decide +kernel)
  · exact (show kitB "tuple" "tuple" = some true by decide +kernel)
  · exact (show kitB "dict" "tuple" = some false by decide +kernel)
theorem kit_str (d : PyData) : kitB (tyName d) "str" = some (isS d) := by
  cases d
  · exact (show kitB "NoneType" "str" = some false by decide +kernel)
  · exact (show kitB "bool" "str" = some false by decide +kernel)
  · exact (show kitB "int" "str" = some false by decide +kernel)
  · exact (show kitB "str" "str" = some true by decide +kernel)
  · exact (show kitB "list" "str" = some false by decide +kernel)
  · exact (show kitB "tuple" "str" = some false by decide +kernel)
  · exact (show kitB "dict" "str" = some false by decide +kernel)
theorem kit_list (d : PyData) : kitB (tyName d) "list" = some (isL d) := by
  cases d
  · exact (show kitB "NoneType" "list" = some false by decide +kernel)
  · exact (show kitB "bool" "list" = some false by decide +kernel)
  · exact (show kitB "int" "list" = some false by decide +kernel)
  · exact (show kitB "str" "list" = some false by decide +kernel)
  · exact (show kitB "list" "list" = some true by decide +kernel)
  · exact (show kitB "tuple" "list" = some false by decide +kernel)
  · exact (show kitB "dict" "list" = some false by decide +kernel)
/-! ## what repr asks -/
structure ReprOk (d : PyData) : Prop where
  sh : d.showable = true
  dp : d.depth ≤ 20
  ln : d.shown.length ≤ sizeLine
  top : dictTop d
theorem ReprOk.plain {d : PyData} (h1 : d.showable = true) (h2 : d.depth ≤ 20) (h3 : d.hasDict = false) (h4 : cost d ≤ 1000000) : ReprOk d :=
  ⟨h1, h2, Nat.le_trans (shown_cost d h1 h3) (Nat.le_trans h4 (by decide)), .inl h3⟩
theorem int_show {i : Int} (h : i.natAbs < 2 ^ 1900) : (PyData.int i).showable = true := by
  show decide (i.natAbs.log2 < 1920) = true
  refine decide_eq_true ?_
  by_cases hz : i.natAbs = 0
  · rw [hz]; decide
  · exact (Nat.log2_lt hz).mpr (Nat.lt_of_lt_of_le h (Nat.pow_le_pow_right (by decide) (by decide)))
theorem big_of {i : Int} {k : Nat} (hk : k ≤ 1900) (h : i.natAbs < 2 ^ k) : i.natAbs < 2 ^ 1900 := Nat.lt_of_lt_of_le h (Nat.pow_le_pow_right (by decide) hk)
theorem But.fx {b : Addr} {M : Mu} {H H' : Hp} (h : But b H H') (hb : M b) (l : Bag H' b) : Fx M H H' :=
  ⟨fun c o n e => by rw [h c (fun z => n (by rw [z]; exact hb))]; exact e, fun hl m hm => by
    by_cases z : m = b
    · obtain ⟨_, _, e, _⟩ := l
      rw [z, e]; simp
    · rw [h m z]; exact hl m hm⟩
/-- the bag alone is changeable -/
def onlyB (b : Addr) : Mu := fun c => c = b
theorem Bag.live {H : Hp} {b : Addr} (h : Bag H b) : Live (onlyB b) H := fun m hm => by
  obtain ⟨_, _, e, _⟩ := h
  rw [show m = b from hm, e]; simp
theorem Bag.same {H H' : Hp} {b : Addr} (h : Bag H b) (s : Same H H') : Bag H' b := by
  obtain ⟨x, m, e, V⟩ := h
  exact ⟨x, m, s _ _ e, V⟩
end GR
namespace GR
open PySem PySem.Spec L2
/-! ## comparisons as tests -/
section
variable {X : Cx} (M : Mu)
theorem pb_of {e : Expr} {t : TE} {r : RD} (h : PT X e (tTest t)) (i : ∀ σ H d, Live M H → r σ H d → ∀ Q : VK, (∀ H' v, Same H H' → Dt M X.K H' v d → Q v H') → t σ H Q) (m : ∀ σ H H' d, Same H H' → r σ H d → r σ H' d) : PB X M e (rBool r) :=
  ⟨pt_imp h fun σ H Q ⟨hl, b, a1, q⟩ => i σ H _ hl a1 _ fun H' v s d => ⟨b, dt_bl d, q H' s⟩, fun σ H H' b f a => m _ _ _ _ f a⟩
theorem pb_cmp {op : CmpOp} {a b : Expr} {r1 r2 : RD} {g : Int → Int → V} {pos} (ho : OpR X (compareOp op) (rI0 g)) (h1 : PD X M a r1) (h2 : PD X M b r2) (hm : lastMarks [op] [b] = false := by first | exact nomark _ | with_unfolding_all rfl) : PB X M (.Compare a [op] [b] pos) (rBool (rOpD r1 r2 (fun _ _ => True) g)) :=
  pb_of M (pt_cmpR ho h1.run h2.run hm) (fun σ H d hl ⟨i, j, a1, a2, hc, e⟩ Q q => ⟨hl, _, a1, fun H1 v f1 d1 => ⟨hl.same f1, _, h2.mono _ _ _ _ f1 a2, fun H2 w f2 d2 =>
    ⟨i, j, dt_int d1, dt_int d2, q H2 _ (f1.trans f2) (toD_dt e)⟩⟩⟩) (rOpD_mono h1.mono h2.mono)
theorem pb_eq {k : Nat} {a b : Expr} {r1 r2 : RD} {pos} (hr : Room k X.A) (h1 : PD X M a r1) (h2 : PD X M b r2) (hm : lastMarks [.Eq] [b] = false := by first | exact nomark _ | with_unfolding_all rfl) : PB X M (.Compare a [.Eq] [b] pos) (rBool (rEqv false r1 r2)) :=
  pb_of M (pt_cmpR (op_eqD hr.units) h1.run h2.run hm) (fun σ H d hl ⟨x, y, a1, a2, s1, s2, e⟩ Q q => ⟨hl, _, a1, fun H1 v f1 d1 => ⟨hl.same f1, _, h2.mono _ _ _ _ f1 a2, fun H2 w f2 d2 =>
    ⟨x, y, (d1.sm f2).dp (noDict_of s1), d2.dp (noDict_of s2), s1, s2, q H2 _ (f1.trans f2) (by subst e; exact .bl _)⟩⟩⟩) (rEqv_mono h1.mono h2.mono)
theorem pb_ne {k : Nat} {a b : Expr} {r1 r2 : RD} {pos} (hr : Room k X.A) (h1 : PD X M a r1) (h2 : PD X M b r2) (hm : lastMarks [.NotEq] [b] = false := by first | exact nomark _ | with_unfolding_all rfl) : PB X M (.Compare a [.NotEq] [b] pos) (rBool (rEqv true r1 r2)) :=
  pb_of M (pt_cmpR (op_neD hr.units) h1.run h2.run hm) (fun σ H d hl ⟨x, y, a1, a2, s1, s2, e⟩ Q q => ⟨hl, _, a1, fun H1 v f1 d1 => ⟨hl.same f1, _, h2.mono _ _ _ _ f1 a2, fun H2 w f2 d2 =>
    ⟨x, y, (d1.sm f2).dp (noDict_of s1), d2.dp (noDict_of s2), s1, s2, q H2 _ (f1.trans f2) (by subst e; exact .bl _)⟩⟩⟩) (rEqv_mono h1.mono h2.mono)
theorem pb_inL {k : Nat} {a b : Expr} {r1 r2 : RD} {pos} (hr : Room k X.A) (h1 : PD X M a r1) (h2 : PD X M b r2) (hm : lastMarks [.In] [b] = false := by with_unfolding_all rfl) : PB X M (.Compare a [.In] [b] pos) (rBool (rInLD false r1 r2)) :=
  pb_of M (pt_cmpR (op_inD (by have := hr.un; omega)) h1.run h2.run hm) (fun σ H d hl ⟨x, ds, a1, a2, s1, s2, e⟩ Q q => ⟨hl, _, a1, fun H1 v f1 d1 => ⟨hl.same f1, _, h2.mono _ _ _ _ f1 a2, fun H2 w f2 d2 =>
    ⟨x, ds, (d1.sm f2).dp (noDict_of s1), d2.dp (noDict_of s2), s1, s2, q H2 _ (f1.trans f2) (by subst e; exact .bl _)⟩⟩⟩) (rInLD_mono h1.mono h2.mono)
theorem pb_niL {k : Nat} {a b : Expr} {r1 r2 : RD} {pos} (hr : Room k X.A) (h1 : PD X M a r1) (h2 : PD X M b r2) (hm : lastMarks [.NotIn] [b] = false := by with_unfolding_all rfl) : PB X M (.Compare a [.NotIn] [b] pos) (rBool (rInLD true r1 r2)) :=
  pb_of M (pt_cmpR (op_notInD (by have := hr.un; omega)) h1.run h2.run hm) (fun σ H d hl ⟨x, ds, a1, a2, s1, s2, e⟩ Q q => ⟨hl, _, a1, fun H1 v f1 d1 => ⟨hl.same f1, _, h2.mono _ _ _ _ f1 a2, fun H2 w f2 d2 =>
    ⟨x, ds, (d1.sm f2).dp (noDict_of s1), d2.dp (noDict_of s2), s1, s2, q H2 _ (f1.trans f2) (by subst e; exact .bl _)⟩⟩⟩) (rInLD_mono h1.mono h2.mono)
theorem pb_chain {op op' : CmpOp} {a b c : Expr} {r1 r2 r3 : RD} {g g' : Int → Int → Bool} {pos} (ho : OpR X (compareOp op) (rI0 fun i j => .bl (g i j))) (ho' : OpR X (compareOp op') (rI0 fun i j => .bl (g' i j)))
    (h1 : PD X M a r1) (h2 : PD X M b r2) (h3 : PD X M c r3) (hm : lastMarks [op, op'] [b, c] = false := by with_unfolding_all rfl) : PB X M (.Compare a [op, op'] [b, c] pos) (rBool (rChainD r1 r2 r3 g g')) :=
  pb_of M (pt_chain ho ho' h1.run h2.run h3.run hm) (fun σ H d hl ⟨i, j, k, a1, a2, a3, e⟩ Q q => ⟨hl, _, a1, fun H1 v f1 d1 => ⟨hl.same f1, _, h2.mono _ _ _ _ f1 a2, fun H2 w f2 d2 =>
    ⟨i, j, dt_int d1, dt_int d2, _, rfl, by
      cases z : g i j with
      | false =>
        rw [if_neg Bool.false_ne_true]
        refine q _ _ (f1.trans f2) ?_
        rw [e, z]
        exact .bl false
      | true =>
        rw [if_pos rfl]
        refine ⟨hl.same (f1.trans f2), _, h3.mono _ _ _ _ (f1.trans f2) a3, fun H3 u f3 d3 => ⟨j, k, dt_int d2, dt_int d3, q _ _ ((f1.trans f2).trans f3) ?_⟩⟩
        rw [e, z]
        exact .bl _⟩⟩⟩) (fun σ H H' d f ⟨i, j, k, a1, a2, a3, e⟩ => ⟨i, j, k, h1.mono _ _ _ _ f a1, h2.mono _ _ _ _ f a2, h3.mono _ _ _ _ f a3, e⟩)
end
end GR
namespace GR
open PySem PySem.Spec L2
/-! ## the changeable objects chosen at the reading -/
section
variable {X : Cx}
def tDX (K : PySem.W.Frag) (r : Mu → RD) : TE := fun σ H Q => ∃ M, tD M K (r M) σ H Q
theorem pe_ex {e : Expr} {r : Mu → RD} (h : ∀ M, PD X M e (r M)) : PE X e (tDX X.K r) := ⟨fun pins s σ H Q I ⟨M, z⟩ => (h M).run.run pins s σ H Q I z⟩
def tDBX (r : Mu → RB) : TT := fun σ H Q => ∃ M, tDB M (r M) σ H Q
theorem pt_ex {e : Expr} {r : Mu → RB} (h : ∀ M, PB X M e (r M)) : PT X e (tDBX r) := ⟨fun pins s σ H Q I ⟨M, z⟩ => (h M).run.run pins s σ H Q I z⟩
def rReprX (K : PySem.W.Frag) : List V → Hp → VK → Prop := fun xs H Q => ∃ M, rReprT M K xs H Q
theorem call_reprX {k : Nat} (hr : Room k X.A) (gd : X.A.guards = some []) : CallR X (.builtin "repr") (rReprX X.K) := fun pins s σ H xs us Q I r ⟨M, z⟩ => call_reprT M hr gd pins s σ H xs us Q I r z
end
end GR

namespace GR
open PySem PySem.Spec L2
/-! ## x, *rest = a tuple -/
section
variable {prog : Program} {w : World} {A : Around} {E : Value → Shared → Prop} {s : Shared}
theorem walks1 (hh : A.handled = none) (I ax : Addr) (hne : ax ≠ I) (items : Array Value) (h1 : 1 ≤ items.size) :
    Walks prog w A I [I, ax] [I] (items.size - 1) (fun i v => items[1 + i]? = some v) (fun i h => h.IsTupleIter I ax (1 + i) ∧ h.IsTuple ax items) := by
  have W := Walks.tuple (prog := prog) (w := w) (A := A) hh I ax hne items
  refine ⟨W.sub, fun i h h' st hk => W.frame (1 + i) h h' st hk, fun i s Q E hi st hQ => ?_, fun s Q E st hQ => ?_, fun i s Q E st hQ => W.self (1 + i) s Q E st hQ⟩
  · exact W.item (1 + i) s Q E (by omega) st fun v h' tk hp st' hk => hQ v h' tk hp (by rw [show 1 + (i + 1) = 1 + i + 1 by omega]; exact st') hk
  · exact W.done s Q E (by rw [show 1 + (items.size - 1) = items.size by omega] at st; exact st) hQ
theorem items_tail {items acc : Array Value} (h1 : 1 ≤ items.size) (h : ItemsOf (fun i v => items[1 + i]? = some v) acc (items.size - 1)) : acc.toList = items.toList.drop 1 := by
  refine List.ext_getElem? fun i => ?_
  rw [List.getElem?_drop, Array.getElem?_toList, Array.getElem?_toList]
  by_cases hi : i < acc.size
  · have e := h.2 i acc[i] (by simp [hi])
    rw [e]
    simp [hi]
  · have hz := h.1
    rw [Array.getElem?_eq_none (by omega), Array.getElem?_eq_none (by omega)]
theorem unpack_star {t : Addr} {items : Array Value} {Q : List Value → Shared → Prop} (hh : A.handled = none) (ht : s.heap.IsTuple t items) (h1 : 1 ≤ items.size) (hz : items.size ≤ sizeLine)
    (hQ : ∀ (x : Value) (h' : Heap) (tk : Nat), items.toList = x :: items.toList.drop 1 → (∀ b o, s.heap.get? b = some o → h'.get? b = some o) →
      Q [x, .ref h'.objs.size] { s with heap := h'.push { cls := .type "list", data := .seq (items.toList.drop 1).toArray }, toks := tk }) : wpAny (model prog w) A (unpackItems (.ref t) 2 (some 1)) Q E s := by
  have hlt : t ≠ s.heap.objs.size := by obtain ⟨o, ho, _⟩ := ht; exact Nat.ne_of_lt (Heap.lt_size ho)
  unfold unpackItems
  refine wpAny_bind ?_
  unfold notIterableAtAll
  refine wpAny_bind (wpAny_specialOf ht.typeIs F.slot_tuple_iter.lookup ?_)
  refine wpAny_pure ?_
  simp only [Bool.false_eq_true, if_false]
  refine wpAny_bind (wpAny_holding (wpAny_pyIter_tuple ht ?_))
  refine wpAny_bind (wpAny_holding (wpAny_draw_tuple hlt 1 0 _ _ ⟨_, Heap.get?_push_size _ rfl, rfl, rfl⟩ (ht.push _) (by omega) fun h2 hit2 hs2 => ?_))
  have ht2 : h2.IsTuple t items := (ht.push _).extBut hs2.extBut hlt
  have e0 : items.toList = items[0] :: items.toList.drop 1 := by
    have := List.drop_eq_getElem_cons (l := items.toList) (i := 0) (by rw [Array.length_toList]; omega)
    rw [List.drop_zero] at this
    simpa using this
  have eh : List.take 1 (List.drop 0 items.toList) = [items[0]] := by
    rw [List.drop_zero, e0]
    rfl
  rw [eh]
  rw [if_neg (by simp)]
  have ht2' := ht2
  obtain ⟨ot, hot, _⟩ := id ht2
  obtain ⟨oi, hoi, _⟩ := id hit2
  have W := (walks1 (prog := prog) (w := w) (A := A.in1) hh s.heap.objs.size t hlt items h1).toS
  refine wpAny_bind (wpAny_holding (wpAny_collect_iter (T := "tuple_iterator") (.inr (.inr (.inr rfl))) W (fun i s st => st.1.typeIs) (s := { s with heap := h2 }) ⟨hit2, ht2'⟩ (fun b hb => ?_) (by simp) (fun s' acc hm hacc => ?_) (by omega)))
  · rcases List.mem_cons.mp hb with e | e
    · rw [e]; exact Heap.lt_size hoi
    · rw [List.mem_singleton.mp e]; exact Heap.lt_size hot
  · have el := items_tail h1 hacc
    have hz2 : acc.size = items.size - 1 := hacc.1
    rw [if_neg (by simp)]
    have et : List.take (acc.toList.length - (2 - 1 - 1)) acc.toList = items.toList.drop 1 := by
      rw [el]
      exact List.take_of_length_le (by omega)
    have ed : List.drop (acc.toList.length - (2 - 1 - 1)) acc.toList = [] := List.drop_of_length_le (by omega)
    rw [et, ed]
    refine wpAny_bind (wpAny_newObj_type ?_ (by show ((items.toList.drop 1).toArray).size ≤ sizeLine; rw [List.size_toArray, List.length_drop, Array.length_toList]; omega))
    refine wpAny_pure ?_
    rw [Moved.eq_with hm]
    refine hQ items[0] s'.heap s'.toks e0 fun b o e => ?_
    have hb : b ≠ s.heap.objs.size := Nat.ne_of_lt (Heap.lt_size e)
    exact hm.heap b o (by simpa using hb) (hs2.extBut b o hb (Heap.get?_push_of_some _ e))
end
section
variable {X : Cx}
def gStar (K : PySem.W.Frag) (t : TGs) : TG := fun v σ H Q => ∃ a x xs, v = .ref a ∧ SqT K H a (x :: xs) ∧ ∀ p, H p = none → t [x, .ref p] σ (upd H p (.lst xs)) Q
theorem pg_star {e1 e2 : Expr} {k : Nat} {t : TGs} {pos p2 : Pos} (hc : X.calm = true) (h : PGs X [e1, e2] t)
    (he : assignEach [e1, .Starred e2 p2] X.env = [(false, assign e1 X.env), (true, assign e2 X.env)] := by rfl) (he2 : (assignEach [e1, e2] X.env).map (·.2) = [assign e1 X.env, assign e2 X.env] := by rfl) :
    PG X (.Tuple [e1, .Starred e2 p2] k pos) (gStar X.K t) := by
  refine ⟨fun pins s σ H v u Q I r hw => ?_⟩
  obtain ⟨a, x, xs, ev, hq, hw⟩ := hw
  subst ev
  cases r
  obtain ⟨its, rv, ht, hz⟩ := I.tuple hq
  rw [PyProof.Rows.assign_Tuple, he]
  refine wpAny_bind (wpAny_standAt ?_)
  unfold unpack
  refine wpAny_bind (wpAny_holding (unpack_star (I.ok.hd hc) ht (by rw [List.size_toArray, ← rv.length]; simp) (by rw [List.size_toArray, ← rv.length]; exact hz) fun y h' tk ey hk => ?_))
  have ey' : its = y :: its.drop 1 := by simpa using ey
  rw [ey'] at rv
  cases rv with
  | cons r1 r2 =>
    have I1 : Inv X pins σ H { s with heap := h', toks := tk } := I.kept hk
    have I2 := I1.lnew (t' := tk) r2 (by simp only [List.length_cons] at hz; omega)
    have := h.run pins _ σ _ [x, .ref h'.objs.size] [y, .ref h'.objs.size] Q I2 (.cons r1 (.cons rfl .nil)) (hw _ I1.fresh)
    rw [he2] at this
    simpa using this
end
end GR

namespace GR
open PySem PySem.Spec L2
section
variable {X : Cx} (M : Mu)
/-! ## constants of the module -/
theorem pd_glob {x : Str} {v : V} {u : Value} {d : PyData} {pos : Pos} (hm : X.mg x = some u) (r : RelV v u) (hd : toD v = some d) (hg : Gl X x := by rfl) (hdb : (x == ("__debug__" : Str)) = false := by decide) :
    PD X M (.Name x pos) (fun _ _ e => e = d) :=
  pd_of M (pe_glob hg hm r hdb) (fun σ H e hl h Q q => by subst h; exact q H v (Same.refl H) (toD_dt hd)) (fun _ _ _ _ _ h => h)
theorem pd_globT {x : Str} {a : Addr} {xs : List V} {ds : List PyData} {pos : Pos} (hm : X.mg x = some (.ref a)) (hq : ∀ M H, SqTx M X.K H a xs) (hd : ∀ M H, DtAll M X.K H xs ds) (hg : Gl X x := by rfl) (hdb : (x == ("__debug__" : Str)) = false := by decide) :
    PD X M (.Name x pos) (fun _ _ e => e = .tuple ds) :=
  pd_of M (pe_glob (v := .ref a) hg hm rfl hdb) (fun σ H e hl h Q q => by subst h; exact q H _ (Same.refl H) (.tup (hq M H) (hd M H))) (fun _ _ _ _ _ h => h)
/-! ## texts -/
def rLenS (r : RD) : RD := fun σ H d => ∃ x : Str, r σ H (.str x) ∧ x.length ≤ sizeLine ∧ d = .int x.length
theorem pd_lenS {e : Expr} {r : RD} {p pos} (hm : X.mg "len" = none) (h : PD X M e r) (hg : Gl X "len" := by rfl) (he : starEach (e :: []) X.env = (false, eval e X.env) :: starEach [] X.env := by rfl) (hpl : (backTo pos (starEach [] X.env)).any (·.1) = false := by rfl) :
    PD X M (.Call (.Name "len" p) [e] [] pos) (rLenS r) :=
  pd_of M (pe_callB call_len_str hg hm PySem.boot_len (pa_cons h.run pa_nil he) (by decide) (by decide) he hpl) (fun σ H d hl ⟨x, a1, hz, e⟩ Q q => by
    subst e
    exact ⟨hl, _, a1, fun H1 v f1 d1 => ⟨x, by rw [dt_str d1], hz, q _ _ f1 (.int _)⟩⟩) (fun σ H H' d f ⟨x, a1, e⟩ => ⟨x, h.mono _ _ _ _ f a1, e⟩)
def rAddS (r1 r2 : RD) : RD := fun σ H d => ∃ x y : Str, r1 σ H (.str x) ∧ r2 σ H (.str y) ∧ x.length + y.length ≤ sizeLine ∧ d = .str (x ++ y)
theorem pd_addS {a b : Expr} {r1 r2 : RD} {pos} (h1 : PD X M a r1) (h2 : PD X M b r2) : PD X M (.BinOp a .Add b pos) (rAddS r1 r2) :=
  pd_of M (pe_op op_add_str h1.run h2.run) (fun σ H d hl ⟨x, y, a1, a2, hz, e⟩ Q q => ⟨hl, _, a1, fun H1 v f1 d1 => ⟨hl.same f1, _, h2.mono _ _ _ _ f1 a2, fun H2 w f2 d2 => by
    subst e
    exact ⟨x, y, dt_str d1, dt_str d2, hz, q _ _ (f1.trans f2) (.str _)⟩⟩⟩) (fun σ H H' d f ⟨x, y, a1, a2, h⟩ => ⟨x, y, h1.mono _ _ _ _ f a1, h2.mono _ _ _ _ f a2, h⟩)
/-- one sign in a text -/
def rInS (neg : Bool) (r1 r2 : RD) : RD := fun σ H d => ∃ (c : Nat) (z : Str), r1 σ H (.str ⟨#[c]⟩) ∧ r2 σ H (.str z) ∧ d = .bool (if neg then !decide (c ∈ z.cps.toList) else decide (c ∈ z.cps.toList))
theorem pd_inS {a b : Expr} {r1 r2 : RD} {pos} (h1 : PD X M a r1) (h2 : PD X M b r2) (hm : lastMarks [.In] [b] = false := by with_unfolding_all rfl) : PD X M (.Compare a [.In] [b] pos) (rInS false r1 r2) :=
  pd_of M (pe_cmpR op_in_sign h1.run h2.run hm) (fun σ H d hl ⟨c, z, a1, a2, e⟩ Q q => ⟨hl, _, a1, fun H1 v f1 d1 => ⟨hl.same f1, _, h2.mono _ _ _ _ f1 a2, fun H2 w f2 d2 =>
    ⟨c, z, dt_str d1, dt_str d2, q _ _ (f1.trans f2) (by subst e; exact .bl _)⟩⟩⟩) (fun σ H H' d f ⟨c, z, a1, a2, e⟩ => ⟨c, z, h1.mono _ _ _ _ f a1, h2.mono _ _ _ _ f a2, e⟩)
theorem pb_inS {a b : Expr} {r1 r2 : RD} {pos} (h1 : PD X M a r1) (h2 : PD X M b r2) (hm : lastMarks [.In] [b] = false := by with_unfolding_all rfl) : PB X M (.Compare a [.In] [b] pos) (rBool (rInS false r1 r2)) :=
  pb_of M (pt_cmpR op_in_sign h1.run h2.run hm) (fun σ H d hl ⟨c, z, a1, a2, e⟩ Q q => ⟨hl, _, a1, fun H1 v f1 d1 => ⟨hl.same f1, _, h2.mono _ _ _ _ f1 a2, fun H2 w f2 d2 =>
    ⟨c, z, dt_str d1, dt_str d2, q _ _ (f1.trans f2) (by subst e; exact .bl _)⟩⟩⟩) (fun σ H H' d f ⟨c, z, a1, a2, e⟩ => ⟨c, z, h1.mono _ _ _ _ f a1, h2.mono _ _ _ _ f a2, e⟩)
/-! ## x in a tuple of flat things -/
def flatD : PyData → Bool
  | .none | .bool _ | .int _ | .str _ => true
  | _ => false
theorem flat_v {M : Mu} {K : PySem.W.Frag} {H : Hp} {v : V} {d : PyData} (h : Dt M K H v d) (f : flatD d = true) : flatV v = true := by
  cases h <;> first | rfl | (simp [flatD] at f)
theorem eqV_eqv {M : Mu} {K : PySem.W.Frag} {H : Hp} {v u : V} {d e : PyData} (h : Dt M K H v d) (g : Dt M K H u e) (f1 : flatD d = true) (f2 : flatD e = true) : eqV v u = PyData.eqv d e := by
  cases h <;> cases g <;> first | rfl | (simp [flatD] at f1) | (simp [flatD] at f2)
theorem any_eqv {M : Mu} {K : PySem.W.Frag} {H : Hp} {u : V} {e : PyData} (g : Dt M K H u e) (f2 : flatD e = true) : ∀ {vs : List V} {ds : List PyData}, DtAll M K H vs ds → ds.all flatD = true → inV u vs = (ds.any fun z => PyData.eqv z e) ∧ vs.all flatV = true
  | _, _, .nil, _ => ⟨rfl, rfl⟩
  | v :: vs, d :: ds, .cons a b, h => by
    have h' : flatD d = true ∧ ds.all flatD = true := by simpa using h
    obtain ⟨z1, z2⟩ := any_eqv g f2 b h'.2
    refine ⟨?_, by rw [List.all_cons, flat_v a h'.1, z2]; rfl⟩
    show (eqV v u || inV u vs) = _
    rw [eqV_eqv a g h'.1 f2, z1, List.any_cons]
def rInT (neg : Bool) (r1 r2 : RD) : RD := fun σ H d => ∃ x ds, r1 σ H x ∧ (r2 σ H (.tuple ds) ∨ r2 σ H (.list ds)) ∧ flatD x = true ∧ ds.all flatD = true ∧ d = .bool (if neg then !(ds.any fun z => PyData.eqv z x) else ds.any fun z => PyData.eqv z x)
theorem inT_read {r1 r2 : RD} {neg : Bool} {a b : Expr} (h1 : PD X M a r1) (h2 : PD X M b r2) (σ : L2.St) (H : Hp) (d : PyData) (hl : Live M H) (h : rInT neg r1 r2 σ H d) (Q : VK) (q : ∀ H' v, Same H H' → Dt M X.K H' v d → Q v H') :
    tOp (rIn X.K neg) (tD M X.K r1) (tD M X.K r2) σ H Q := by
  obtain ⟨x, ds, a1, a2, fx, fs, e⟩ := h
  subst e
  refine ⟨hl, _, a1, fun H1 v f1 d1 => ?_⟩
  rcases a2 with a2 | a2
  · refine ⟨hl.same f1, _, h2.mono _ _ _ _ f1 a2, fun H2 w f2 d2 => ?_⟩
    obtain ⟨p, xs, rfl, s1, da⟩ := dt_tuple d2
    obtain ⟨z1, z2⟩ := any_eqv (d1.sm f2) fx da fs
    refine ⟨p, xs, rfl, .inr s1.sq, flat_v (d1.sm f2) fx, z2, ?_⟩
    rw [z1]
    exact q _ _ (f1.trans f2) (.bl _)
  · refine ⟨hl.same f1, _, h2.mono _ _ _ _ f1 a2, fun H2 w f2 d2 => ?_⟩
    obtain ⟨p, xs, rfl, s1, da⟩ := dt_list d2
    obtain ⟨z1, z2⟩ := any_eqv (d1.sm f2) fx da fs
    refine ⟨p, xs, rfl, .inl s1.sq, flat_v (d1.sm f2) fx, z2, ?_⟩
    rw [z1]
    exact q _ _ (f1.trans f2) (.bl _)
theorem rInT_mono {neg : Bool} {r1 r2 : RD} (m1 : ∀ σ H H' d, Same H H' → r1 σ H d → r1 σ H' d) (m2 : ∀ σ H H' d, Same H H' → r2 σ H d → r2 σ H' d) :
    ∀ σ H H' d, Same H H' → rInT neg r1 r2 σ H d → rInT neg r1 r2 σ H' d := fun σ H H' d f ⟨i, j, h1, h2, h⟩ => ⟨i, j, m1 _ _ _ _ f h1, h2.imp (m2 _ _ _ _ f) (m2 _ _ _ _ f), h⟩
theorem pd_inT {a b : Expr} {r1 r2 : RD} {pos} (h1 : PD X M a r1) (h2 : PD X M b r2) (hm : lastMarks [.In] [b] = false := by with_unfolding_all rfl) : PD X M (.Compare a [.In] [b] pos) (rInT false r1 r2) :=
  pd_of M (pe_cmpR op_in_seq h1.run h2.run hm) (fun σ H d hl h Q q => inT_read M h1 h2 σ H d hl h Q q) (rInT_mono h1.mono h2.mono)
theorem pb_inT {a b : Expr} {r1 r2 : RD} {pos} (h1 : PD X M a r1) (h2 : PD X M b r2) (hm : lastMarks [.In] [b] = false := by with_unfolding_all rfl) : PB X M (.Compare a [.In] [b] pos) (rBool (rInT false r1 r2)) :=
  pb_of M (pt_cmpR op_in_seq h1.run h2.run hm) (fun σ H d hl h Q q => inT_read M h1 h2 σ H d hl h Q q) (rInT_mono h1.mono h2.mono)
theorem pd_niT {a b : Expr} {r1 r2 : RD} {pos} (h1 : PD X M a r1) (h2 : PD X M b r2) (hm : lastMarks [.NotIn] [b] = false := by with_unfolding_all rfl) : PD X M (.Compare a [.NotIn] [b] pos) (rInT true r1 r2) :=
  pd_of M (pe_cmpR op_notIn_seq h1.run h2.run hm) (fun σ H d hl h Q q => inT_read M h1 h2 σ H d hl h Q q) (rInT_mono h1.mono h2.mono)
theorem pb_niT {a b : Expr} {r1 r2 : RD} {pos} (h1 : PD X M a r1) (h2 : PD X M b r2) (hm : lastMarks [.NotIn] [b] = false := by with_unfolding_all rfl) : PB X M (.Compare a [.NotIn] [b] pos) (rBool (rInT true r1 r2)) :=
  pb_of M (pt_cmpR op_notIn_seq h1.run h2.run hm) (fun σ H d hl h Q q => inT_read M h1 h2 σ H d hl h Q q) (rInT_mono h1.mono h2.mono)
/-- abs(n) -/
def rAbs (r : RD) : RD := fun σ H d => ∃ i : Int, r σ H (.int i) ∧ d = .int (if i < 0 then -i else i)
theorem pd_abs {e : Expr} {r : RD} {p pos} (hm : X.mg "abs" = none) (h : PD X M e r) (hg : Gl X "abs" := by rfl) (he : starEach (e :: []) X.env = (false, eval e X.env) :: starEach [] X.env := by rfl) (hpl : (backTo pos (starEach [] X.env)).any (·.1) = false := by rfl) :
    PD X M (.Call (.Name "abs" p) [e] [] pos) (rAbs r) :=
  pd_of M (pe_callB call_abs hg hm (by decide +kernel) (pa_cons h.run pa_nil he) (by decide) (by decide) he hpl) (fun σ H d hl ⟨i, a1, e⟩ Q q => by
    subst e
    exact ⟨hl, _, a1, fun H1 v f1 d1 => ⟨i, by rw [dt_int d1], q _ _ f1 (.int _)⟩⟩) (fun σ H H' d f ⟨i, a1, e⟩ => ⟨i, h.mono _ _ _ _ f a1, e⟩)
/-! ## [elt for c in a text] -/
def rLcS (i : Nat) (rs : RD) (r : Mu → RD) : RD := fun σ H d => ∃ (z : Str) (es : List PyData), rs σ H (.str z) ∧ z.cps.size ≤ 1000 ∧ es.length = z.cps.size ∧
  (∀ (M' : Mu) (k : Nat) c e, z.cps[k]? = some c → es[k]? = some e → ∀ H', Same H H' → r M' ((wipe σ [i]).set i (some (.str ⟨#[c]⟩))) H' e) ∧ d = .list es
theorem pd_lcS {elt src : Expr} {scope : Scope} {y : Str} {i : Nat} {pos ps : Pos} {rs : RD} {r : Mu → RD} (hc : X.calm = true) (hN : X.N.Nodup) (hsrc : PD X M src rs) (ok : BlkOk X.N X.env.scope scope [(y, i)])
    (hg : ∀ (s : Shared) (H : Hp) (C : Addr) (cl : List (Str × Addr)) (fp : List Addr), PG (X.blk s H scope (compEnvC scope cl C X.env) fp) (.Name y ps) (gName i))
    (he : ∀ (M : Mu) (s : Shared) (H : Hp) (C : Addr) (cl : List (Str × Addr)) (fp : List Addr), PD (X.blk s H scope (compEnvC scope cl C X.env) fp) M elt (r M)) (hs : ∀ x, foldedSetIterable src X.env x = pure x := by intro _; rfl) :
    PD X M (.ListComp elt [⟨.Name y ps, src, [], 0⟩] scope pos) (rLcS i rs r) := by
  refine pd_of M (pe_lc (own := [(y, i)]) (g := gName i) (tt := tYes) (te := fun σ H Q => ∃ M', tD M' X.K (r M') σ H Q) hc hN (pi_str hsrc.run) ok hg (fun _ _ _ _ _ => pts_nil)
    (fun s H C cl fp => ⟨fun pins s' σ H' Q I ⟨M', z⟩ => (he M' s H C cl fp).run.run pins s' σ H' Q I z⟩) hs) (fun σ H d hl ⟨z, es, a1, hz, el, hr, e⟩ Q q => ?_)
    (fun σ H H' d f ⟨z, es, a1, hz, el, hr, e⟩ => ⟨z, es, hsrc.mono _ _ _ _ f a1, hz, el, fun M' k c y h1 h2 H'' f2 => hr M' k c y h1 h2 H'' (f.trans f2), e⟩)
  refine ⟨hl, _, a1, fun H1 w f1 dw => ⟨z, dt_str dw, fun D nD => ?_⟩⟩
  have F0 : Filled M X.K H1 (upd H1 D (.lst [])) D (es.take 0) := .start nD
  refine ⟨fun k m H2 => m = z.cps.size - k ∧ k ≤ z.cps.size ∧ Filled M X.K H1 H2 D (es.take k), ⟨z.cps.size, rfl, Nat.zero_le _, F0⟩, ?_⟩
  rintro k m H2 ⟨rfl, hk, F⟩
  by_cases hlt : k < z.cps.size
  · refine .inr ⟨hlt, fun H' => Filled M X.K H1 H' D (es.take (k + 1)), fun H' p => ⟨z.cps.size - (k + 1), by omega, rfl, hlt, p⟩, fun x H' yl => ?_⟩
    obtain ⟨rfl, c, ec, rfl⟩ := yl
    have hke : k < es.length := by omega
    obtain ⟨acc, ha, dacc⟩ := F.at_
    refine ⟨wipe1 σ i _, GR.plus1 M D, ((hl.same f1).same F.sm).plus1 (by rw [ha]; simp), es[k], hr _ k c _ ec (List.getElem?_eq_getElem hke) _ (f1.trans F.sm), fun H4 y s4 dy => ?_⟩
    obtain ⟨acc', g1, g2, g3⟩ := F.more nD s4 dy
    refine ⟨acc', g1, ?_, ?_⟩
    · rw [g2, List.length_take]
      exact Nat.lt_of_le_of_lt (Nat.min_le_left _ _) (small1000 (by omega))
    · rw [List.take_add_one, List.getElem?_eq_getElem hke]
      exact g3
  · have ek : k = z.cps.size := by omega
    subst ek
    rw [← el, List.take_length] at F
    subst e
    exact .inl ⟨Nat.le_refl _, q _ _ (f1.trans F.sm) (F.dt ((hl.same f1).ne nD))⟩
end
end GR

namespace K07
open PySem PySem.Spec L2
def top (i : Nat) : Stmt := PySem.Challenge.pw_trailparts_k07_deeds_known.main.body.getD i (.Pass ⟨0, 0, 0, 0⟩)
abbrev sIsWhole : Stmt := top 1
theorem scIsWhole : FnScope ["thing"] ["thing"] (defScope sIsWhole) :=
  ⟨rfl, rfl, rfl, by decide +kernel, rfl, by decide +kernel, by decide +kernel⟩
abbrev sIsName : Stmt := top 9
theorem scIsName : FnScope ["thing", "sign"] ["thing"] (defScope sIsName) :=
  ⟨rfl, rfl, rfl, by decide +kernel, rfl, by decide +kernel, by decide +kernel⟩
abbrev sIsDeed : Stmt := top 10
theorem scIsDeed : FnScope ["thing", "word", "rest"] ["thing"] (defScope sIsDeed) :=
  ⟨rfl, rfl, rfl, by decide +kernel, rfl, by decide +kernel, by decide +kernel⟩
abbrev sTakesGift : Stmt := top 11
theorem scTakesGift : FnScope ["deed"] ["deed"] (defScope sTakesGift) :=
  ⟨rfl, rfl, rfl, by decide +kernel, rfl, by decide +kernel, by decide +kernel⟩
abbrev sTakesTarget : Stmt := top 12
theorem scTakesTarget : FnScope ["deed"] ["deed"] (defScope sTakesTarget) :=
  ⟨rfl, rfl, rfl, by decide +kernel, rfl, by decide +kernel, by decide +kernel⟩
abbrev sLawBag : Stmt := top 14
theorem scLawBag : FnScope ["_law_script", "_law_at", "_law_cell", "_law_mixed", "_law_spot", "_law_other"] ["_law_script", "_law_at"] (defScope sLawBag) :=
  ⟨rfl, rfl, rfl, by decide +kernel, rfl, by decide +kernel, by decide +kernel⟩
abbrev sLawTake : Stmt := top 15
theorem scLawTake : FnScope ["_law_bag_here", "_law_many", "_law_digit"] ["_law_bag_here", "_law_many"] (defScope sLawTake) :=
  ⟨rfl, rfl, rfl, by decide +kernel, rfl, by decide +kernel, by decide +kernel⟩
abbrev sLawWhole : Stmt := top 16
theorem scLawWhole : FnScope ["_law_thing"] ["_law_thing"] (defScope sLawWhole) :=
  ⟨rfl, rfl, rfl, by decide +kernel, rfl, by decide +kernel, by decide +kernel⟩
abbrev sLawOdd : Stmt := top 17
theorem scLawOdd : FnScope ["_law_bag_here", "_law_some"] ["_law_bag_here"] (defScope sLawOdd) :=
  ⟨rfl, rfl, rfl, by decide +kernel, rfl, by decide +kernel, by decide +kernel⟩
abbrev sLawNameOrNot : Stmt := top 18
theorem scLawNameOrNot : FnScope ["_law_bag_here", "_law_signs", "_law_text", "_law_k", "_law_some"] ["_law_bag_here"] (defScope sLawNameOrNot) :=
  ⟨rfl, rfl, rfl, by decide +kernel, rfl, by decide +kernel, by decide +kernel⟩
abbrev sLawNumberOrNot : Stmt := top 19
theorem scLawNumberOrNot : FnScope ["_law_bag_here", "_law_far", "_law_some"] ["_law_bag_here"] (defScope sLawNumberOrNot) :=
  ⟨rfl, rfl, rfl, by decide +kernel, rfl, by decide +kernel, by decide +kernel⟩
abbrev sLawIsName : Stmt := top 20
theorem scLawIsName : FnScope ["_law_thing", "_law_sign"] ["_law_thing"] (defScope sLawIsName) :=
  ⟨rfl, rfl, rfl, by decide +kernel, rfl, by decide +kernel, by decide +kernel⟩
abbrev sLawValue : Stmt := top 21
theorem scLawValue : FnScope ["_law_bag_here", "_law_words", "_law_word", "_law_way", "_law_box", "_law_more", "_law_some"] ["_law_bag_here"] (defScope sLawValue) :=
  ⟨rfl, rfl, rfl, by decide +kernel, rfl, by decide +kernel, by decide +kernel⟩
abbrev sLawDue : Stmt := top 22
theorem scLawDue : FnScope ["_law_thing"] ["_law_thing"] (defScope sLawDue) :=
  ⟨rfl, rfl, rfl, by decide +kernel, rfl, by decide +kernel, by decide +kernel⟩
abbrev sLaw : Stmt := top 23
theorem scLaw : FnScope ["_law_script", "_law_k", "_law_bag_here", "_law_turn", "_law_thing", "_law_due_here", "_law_again"] ["_law_script"] (defScope sLaw) :=
  ⟨rfl, rfl, rfl, by decide +kernel, rfl, by decide +kernel, by decide +kernel⟩
/-- what the top has written -/
structure Txt (K : PySem.W.Frag) (mg : Str → Option Value) where
  fIsWhole : Addr
  dIsWhole : FuncData
  FIsWhole : Fun K "is_whole" "is_whole" sIsWhole fIsWhole dIsWhole
  gIsWhole : mg "is_whole" = some (.ref fIsWhole)
  bIsWhole : Binds K dIsWhole ["thing"] []
  fIsName : Addr
  dIsName : FuncData
  FIsName : Fun K "is_name" "is_name" sIsName fIsName dIsName
  gIsName : mg "is_name" = some (.ref fIsName)
  bIsName : Binds K dIsName ["thing"] []
  fIsDeed : Addr
  dIsDeed : FuncData
  FIsDeed : Fun K "is_deed" "is_deed" sIsDeed fIsDeed dIsDeed
  gIsDeed : mg "is_deed" = some (.ref fIsDeed)
  bIsDeed : Binds K dIsDeed ["thing"] []
  fTakesGift : Addr
  dTakesGift : FuncData
  FTakesGift : Fun K "takes_gift" "takes_gift" sTakesGift fTakesGift dTakesGift
  gTakesGift : mg "takes_gift" = some (.ref fTakesGift)
  bTakesGift : Binds K dTakesGift ["deed"] []
  fTakesTarget : Addr
  dTakesTarget : FuncData
  FTakesTarget : Fun K "takes_target" "takes_target" sTakesTarget fTakesTarget dTakesTarget
  gTakesTarget : mg "takes_target" = some (.ref fTakesTarget)
  bTakesTarget : Binds K dTakesTarget ["deed"] []
  fLawBag : Addr
  dLawBag : FuncData
  FLawBag : Fun K "_law_bag" "_law_bag" sLawBag fLawBag dLawBag
  gLawBag : mg "_law_bag" = some (.ref fLawBag)
  bLawBag : Binds K dLawBag ["_law_script", "_law_at"] []
  fLawTake : Addr
  dLawTake : FuncData
  FLawTake : Fun K "_law_take" "_law_take" sLawTake fLawTake dLawTake
  gLawTake : mg "_law_take" = some (.ref fLawTake)
  bLawTake : Binds K dLawTake ["_law_bag_here", "_law_many"] []
  fLawWhole : Addr
  dLawWhole : FuncData
  FLawWhole : Fun K "_law_whole" "_law_whole" sLawWhole fLawWhole dLawWhole
  gLawWhole : mg "_law_whole" = some (.ref fLawWhole)
  bLawWhole : Binds K dLawWhole ["_law_thing"] []
  fLawOdd : Addr
  dLawOdd : FuncData
  FLawOdd : Fun K "_law_odd" "_law_odd" sLawOdd fLawOdd dLawOdd
  gLawOdd : mg "_law_odd" = some (.ref fLawOdd)
  bLawOdd : Binds K dLawOdd ["_law_bag_here"] []
  fLawNameOrNot : Addr
  dLawNameOrNot : FuncData
  FLawNameOrNot : Fun K "_law_name_or_not" "_law_name_or_not" sLawNameOrNot fLawNameOrNot dLawNameOrNot
  gLawNameOrNot : mg "_law_name_or_not" = some (.ref fLawNameOrNot)
  bLawNameOrNot : Binds K dLawNameOrNot ["_law_bag_here"] []
  fLawNumberOrNot : Addr
  dLawNumberOrNot : FuncData
  FLawNumberOrNot : Fun K "_law_number_or_not" "_law_number_or_not" sLawNumberOrNot fLawNumberOrNot dLawNumberOrNot
  gLawNumberOrNot : mg "_law_number_or_not" = some (.ref fLawNumberOrNot)
  bLawNumberOrNot : Binds K dLawNumberOrNot ["_law_bag_here"] []
  fLawIsName : Addr
  dLawIsName : FuncData
  FLawIsName : Fun K "_law_is_name" "_law_is_name" sLawIsName fLawIsName dLawIsName
  gLawIsName : mg "_law_is_name" = some (.ref fLawIsName)
  bLawIsName : Binds K dLawIsName ["_law_thing"] []
  fLawValue : Addr
  dLawValue : FuncData
  FLawValue : Fun K "_law_value" "_law_value" sLawValue fLawValue dLawValue
  gLawValue : mg "_law_value" = some (.ref fLawValue)
  bLawValue : Binds K dLawValue ["_law_bag_here"] []
  fLawDue : Addr
  dLawDue : FuncData
  FLawDue : Fun K "_law_due" "_law_due" sLawDue fLawDue dLawDue
  gLawDue : mg "_law_due" = some (.ref fLawDue)
  bLawDue : Binds K dLawDue ["_law_thing"] []
  fLaw : Addr
  dLaw : FuncData
  FLaw : Fun K "law" "law" sLaw fLaw dLaw
  gLaw : mg "law" = some (.ref fLaw)
  bLaw : Binds K dLaw ["_law_script"] []
  n_isinstance : mg "isinstance" = none
  n_int : mg "int" = none
  n_bool : mg "bool" = none
  n_all : mg "all" = none
  n_str : mg "str" = none
  n_len : mg "len" = none
  n_tuple : mg "tuple" = none
  n_abs : mg "abs" = none
  n_enumerate : mg "enumerate" = none
  n_range : mg "range" = none
  n_max : mg "max" = none
  n_min : mg "min" = none
  n_repr : mg "repr" = none
  tLETTERS : Tok
  gLETTERS : mg "LETTERS" = some (.str "abcdefghijklmnopqrstuvwxyz" tLETTERS)
  tMOST_SIGNS : Tok
  gMOST_SIGNS : mg "MOST_SIGNS" = some (.int 6 tMOST_SIGNS)
  tMOST_ADDED : Tok
  gMOST_ADDED : mg "MOST_ADDED" = some (.int 1000000000 tMOST_ADDED)
  cBARE : Addr
  gBARE : mg "BARE" = some (.ref cBARE)
  qBARE : ∀ (M : GR.Mu) (H : Hp), GR.SqTx M K H cBARE [.str "get", .str "boxes", .str "make", .str "clone"]
  cWITH_BOX : Addr
  gWITH_BOX : mg "WITH_BOX" = some (.ref cWITH_BOX)
  qWITH_BOX : ∀ (M : GR.Mu) (H : Hp), GR.SqTx M K H cWITH_BOX [.str "take", .str "clear", .str "give"]
  cWITH_TARGET : Addr
  gWITH_TARGET : mg "WITH_TARGET" = some (.ref cWITH_TARGET)
  qWITH_TARGET : ∀ (M : GR.Mu) (H : Hp), GR.SqTx M K H cWITH_TARGET [.str "give", .str "make", .str "clone"]
def isIntD : PyData → Bool
  | .int _ => true
  | _ => false
/-- a def of one argument -/
def R1 (f : PyData → PyData) : List PyData → PyData → Prop := fun ds d => ∃ x, ds = [x] ∧ d = f x

/-! ## names and deeds -/
def lettersS : Str := "abcdefghijklmnopqrstuvwxyz"
def nameOk (x : Str) : Bool := (decide (1 ≤ (x.length : Int)) && decide ((x.length : Int) ≤ 6)) && x.cps.toList.all fun c => decide (c ∈ lettersS.cps.toList)
def isNameD : PyData → Bool
  | .str x => nameOk x
  | _ => false
/-- a text is not too long -/
def lenOk (x : PyData) : Prop := ∀ z, x = .str z → z.length ≤ sizeLine
def RName : List PyData → PyData → Prop := fun ds d => ∃ x, ds = [x] ∧ lenOk x ∧ d = .bool (isNameD x)
def bareL : List PyData := [.str "get", .str "boxes", .str "make", .str "clone"]
def boxL : List PyData := [.str "take", .str "clear", .str "give"]
def targL : List PyData := [.str "give", .str "make", .str "clone"]
def inL (x : PyData) (l : List PyData) : Bool := l.any fun z => PyData.eqv z x
def numOk : PyData → Bool
  | .int i => decide ((if i < 0 then -i else i) ≤ 1000000000)
  | _ => false
def deedTail (w : PyData) (rest : List PyData) : Bool :=
  if inL w bareL = true then rest.isEmpty else
  match rest with
  | [r] => if PyData.eqv w (.str "add") = true then numOk r else inL w boxL && isNameD r
  | _ => false
def isDeedD : PyData → Bool
  | .tuple (w :: rest) => if GR.isS w = true then deedTail w rest else false
  | _ => false
section
variable {P : Program} {w : World} {K : PySem.W.Frag} {mg : Str → Option Value} {bs : Heap} (T : Txt K mg)

theorem okIsWhole : FnOk P w K mg bs CX0 1 T.fIsWhole T.dIsWhole ["thing"] (GR.spPure K (R1 fun x => .bool (isIntD x))) := by
  refine T.FIsWhole.ok scIsWhole (fun vs H Q E h => ?_) (fun cdv A outer s H vs Q E hr h => ?_)
  · obtain ⟨M, ds, d, _, da, ⟨x, rfl, _⟩, _⟩ := h
    exact da.len
  · obtain ⟨M, ds, d, hL, da, ⟨x, rfl, rfl⟩, q⟩ := h
    cases da with
    | cons dx da =>
      cases da
      rename_i v
      refine ⟨_, (pss_one (ps_ret (GR.pd_and M (GR.pd_isi M (n := "int") T.n_isinstance T.n_int (by decide +kernel) (GR.pd_var M 0)) (GR.pd_one M (GR.pd_not M (GR.pd_isi M (n := "bool") T.n_isinstance T.n_bool (by decide +kernel) (GR.pd_var M 0))))).run)), ?_⟩
      refine ⟨hL, _, ⟨GR.isI x, ⟨x, _, ⟨v, rfl, dx⟩, GR.kit_int x, rfl⟩, ?_⟩, q⟩
      cases e : GR.isI x with
      | false =>
        refine iteF ?_
        cases x <;> first | rfl | (simp [GR.isI] at e)
      | true =>
        refine iteT ⟨GR.isB x, ⟨x, _, ⟨v, rfl, dx⟩, GR.kit_bool x, rfl⟩, ?_⟩
        cases x <;> first | rfl | (simp [GR.isI] at e)

theorem okLawWhole : FnOk P w K mg bs CX0 1 T.fLawWhole T.dLawWhole ["_law_thing"] (GR.spPure K (R1 fun x => .bool (isIntD x))) := by
  refine T.FLawWhole.ok scLawWhole (fun vs H Q E h => ?_) (fun cdv A outer s H vs Q E hr h => ?_)
  · obtain ⟨M, ds, d, _, da, ⟨x, rfl, _⟩, _⟩ := h
    exact da.len
  · obtain ⟨M, ds, d, hL, da, ⟨x, rfl, rfl⟩, q⟩ := h
    cases da with
    | cons dx da =>
      cases da
      rename_i v
      refine ⟨_, (pss_one (ps_ret (GR.pd_and M (GR.pd_isi M (n := "int") T.n_isinstance T.n_int (by decide +kernel) (GR.pd_var M 0)) (GR.pd_one M (GR.pd_not M (GR.pd_isi M (n := "bool") T.n_isinstance T.n_bool (by decide +kernel) (GR.pd_var M 0))))).run)), ?_⟩
      refine ⟨hL, _, ⟨GR.isI x, ⟨x, _, ⟨v, rfl, dx⟩, GR.kit_int x, rfl⟩, ?_⟩, q⟩
      cases e : GR.isI x with
      | false =>
        refine iteF ?_
        cases x <;> first | rfl | (simp [GR.isI] at e)
      | true =>
        refine iteT ⟨GR.isB x, ⟨x, _, ⟨v, rfl, dx⟩, GR.kit_bool x, rfl⟩, ?_⟩
        cases x <;> first | rfl | (simp [GR.isI] at e)

theorem okIsName : FnOk P w K mg bs CX0 1 T.fIsName T.dIsName ["thing"] (GR.spPure K RName) := by
  refine T.FIsName.ok scIsName (fun vs H Q E h => ?_) (fun cdv A outer s H vs Q E hr h => ?_)
  · obtain ⟨M, ds, d, _, da, ⟨x, rfl, _⟩, _⟩ := h
    exact da.len
  · obtain ⟨M, ds, d, hL, da, ⟨x, rfl, hsz, rfl⟩, q⟩ := h
    replace q : ∀ (H' : Hp) (v : V), Same H H' → GR.Dt M K H' v (.bool (isNameD x)) → Q v H' := q
    cases da with
    | cons dx da =>
      cases da
      rename_i v
      refine ⟨_, (pss_cons (ps_if (GR.PBW.pb M (GR.pbw_or M (GR.pb_not M (GR.pb_val M (GR.pd_isi M (n := "str") T.n_isinstance T.n_str (by decide +kernel) (GR.pd_var M 0)))) (GR.pbw_or1 M (GR.pb_not M (GR.pb_chain M op_le op_le (GR.pd_int M) (GR.pd_lenS M T.n_len (GR.pd_var M 0)) (GR.pd_glob M T.gMOST_SIGNS (d := (PyData.int 6)) (v := V.int 6) ⟨_, rfl⟩ rfl)))))).run (pss_one (ps_ret pe_bl)) pss_nil)
      (pss_one (ps_ret (GR.pd_all M (by rfl) T.n_all (GR.pd_lcS M (i := 1) (r := fun M' => (GR.rInS false (GR.rVar M' K 1) (fun _ _ e => e = (PyData.str "abcdefghijklmnopqrstuvwxyz")))) (by rfl) scIsName.nd (GR.pd_var M 0) (blkOk_by (own := [("sign", 1)]) (N := ["thing", "sign"]) (sc := defScope sIsName) (by decide +kernel)) (fun _ _ _ _ _ => (pg_name (i := 1) scIsName.nd rfl (Or.inl rfl))) (fun M' _ _ _ _ _ => by exact (GR.pd_inS M' (GR.pd_var M' 1) (GR.pd_glob M' T.gLETTERS (d := (PyData.str "abcdefghijklmnopqrstuvwxyz")) (v := V.str "abcdefghijklmnopqrstuvwxyz") ⟨_, rfl⟩ rfl))))).run))), ?_⟩
      cases e1 : GR.isS x with
      | false =>
        refine ⟨hL, true, ⟨true, ⟨x, _, ⟨v, rfl, dx⟩, GR.kit_str x, by rw [e1]; rfl⟩, iteT rfl⟩, fun H1 f1 => iteT ?_⟩
        have := q H1 (.bl false) f1
        rw [show isNameD x = false by cases x <;> first | rfl | (simp [GR.isS] at e1)] at this
        exact this (.bl false)
      | true =>
        obtain ⟨z, rfl⟩ : ∃ z, x = .str z := by cases x <;> first | exact ⟨_, rfl⟩ | (simp [GR.isS] at e1)
        have q1 : ∀ (H' : Hp) (v : V), Same H H' → GR.Dt M K H' v (.bool (nameOk z)) → Q v H' := q
        unfold nameOk at q1
        have hz : z.length ≤ sizeLine := hsz z rfl
        refine ⟨hL, !(decide (1 ≤ (z.length : Int)) && decide ((z.length : Int) ≤ 6)), ⟨false, ⟨_, _, ⟨v, rfl, dx⟩, GR.kit_str _, rfl⟩, iteF ⟨1, (z.length : Int), 6, rfl, ⟨z, ⟨v, rfl, dx⟩, hz, rfl⟩, rfl, by rw [Bool.not_not]⟩⟩, fun H1 f1 => ?_⟩
        cases e2 : decide (1 ≤ (z.length : Int)) && decide ((z.length : Int) ≤ 6) with
        | false =>
          refine iteT ?_
          have := q1 H1 (.bl false) f1
          rw [e2] at this
          exact this (.bl false)
        | true =>
          refine iteF ?_
          rw [e2, Bool.true_and] at q1
          have e3 : z.length ≤ 6 := by
            have : (z.length : Int) ≤ 6 := by simpa using (Bool.and_eq_true_iff.mp e2).2
            omega
          refine ⟨hL.same f1, _, ⟨z.cps.toList.map fun c => decide (c ∈ lettersS.cps.toList), ⟨z, z.cps.toList.map fun c => .bool (decide (c ∈ lettersS.cps.toList)), ⟨v, rfl, dx.sm f1⟩, ?_, by rw [List.length_map, Array.length_toList], fun M' k c e h1 h2 H' s' => ?_, by rw [List.map_map]; rfl⟩, rfl⟩, fun H2 u f2 du => q1 H2 u (f1.trans f2) ?_⟩
          · have : z.cps.size = z.length := rfl
            omega
          · rw [List.getElem?_map, Array.getElem?_toList, h1] at h2
            cases h2
            exact ⟨c, _, ⟨_, rfl, .str _⟩, rfl, rfl⟩
          · rw [List.all_map] at du
            exact du

theorem okLawIsName : FnOk P w K mg bs CX0 1 T.fLawIsName T.dLawIsName ["_law_thing"] (GR.spPure K RName) := by
  refine T.FLawIsName.ok scLawIsName (fun vs H Q E h => ?_) (fun cdv A outer s H vs Q E hr h => ?_)
  · obtain ⟨M, ds, d, _, da, ⟨x, rfl, _⟩, _⟩ := h
    exact da.len
  · obtain ⟨M, ds, d, hL, da, ⟨x, rfl, hsz, rfl⟩, q⟩ := h
    replace q : ∀ (H' : Hp) (v : V), Same H H' → GR.Dt M K H' v (.bool (isNameD x)) → Q v H' := q
    cases da with
    | cons dx da =>
      cases da
      rename_i v
      refine ⟨_, (pss_cons (ps_if (GR.PBW.pb M (GR.pbw_or M (GR.pb_not M (GR.pb_val M (GR.pd_isi M (n := "str") T.n_isinstance T.n_str (by decide +kernel) (GR.pd_var M 0)))) (GR.pbw_or1 M (GR.pb_not M (GR.pb_chain M op_le op_le (GR.pd_int M) (GR.pd_lenS M T.n_len (GR.pd_var M 0)) (GR.pd_int M)))))).run (pss_one (ps_ret pe_bl)) pss_nil)
      (pss_one (ps_ret (GR.pd_all M (by rfl) T.n_all (GR.pd_lcS M (i := 1) (r := fun M' => (GR.rInS false (GR.rVar M' K 1) (fun _ _ d => d = PyData.str "abcdefghijklmnopqrstuvwxyz"))) (by rfl) scLawIsName.nd (GR.pd_var M 0) (blkOk_by (own := [("_law_sign", 1)]) (N := ["_law_thing", "_law_sign"]) (sc := defScope sLawIsName) (by decide +kernel)) (fun _ _ _ _ _ => (pg_name (i := 1) scLawIsName.nd rfl (Or.inl rfl))) (fun M' _ _ _ _ _ => by exact (GR.pd_inS M' (GR.pd_var M' 1) (GR.pd_str M'))))).run))), ?_⟩
      cases e1 : GR.isS x with
      | false =>
        refine ⟨hL, true, ⟨true, ⟨x, _, ⟨v, rfl, dx⟩, GR.kit_str x, by rw [e1]; rfl⟩, iteT rfl⟩, fun H1 f1 => iteT ?_⟩
        have := q H1 (.bl false) f1
        rw [show isNameD x = false by cases x <;> first | rfl | (simp [GR.isS] at e1)] at this
        exact this (.bl false)
      | true =>
        obtain ⟨z, rfl⟩ : ∃ z, x = .str z := by cases x <;> first | exact ⟨_, rfl⟩ | (simp [GR.isS] at e1)
        have q1 : ∀ (H' : Hp) (v : V), Same H H' → GR.Dt M K H' v (.bool (nameOk z)) → Q v H' := q
        unfold nameOk at q1
        have hz : z.length ≤ sizeLine := hsz z rfl
        refine ⟨hL, !(decide (1 ≤ (z.length : Int)) && decide ((z.length : Int) ≤ 6)), ⟨false, ⟨_, _, ⟨v, rfl, dx⟩, GR.kit_str _, rfl⟩, iteF ⟨1, (z.length : Int), 6, rfl, ⟨z, ⟨v, rfl, dx⟩, hz, rfl⟩, rfl, by rw [Bool.not_not]⟩⟩, fun H1 f1 => ?_⟩
        cases e2 : decide (1 ≤ (z.length : Int)) && decide ((z.length : Int) ≤ 6) with
        | false =>
          refine iteT ?_
          have := q1 H1 (.bl false) f1
          rw [e2] at this
          exact this (.bl false)
        | true =>
          refine iteF ?_
          rw [e2, Bool.true_and] at q1
          have e3 : z.length ≤ 6 := by
            have : (z.length : Int) ≤ 6 := by simpa using (Bool.and_eq_true_iff.mp e2).2
            omega
          refine ⟨hL.same f1, _, ⟨z.cps.toList.map fun c => decide (c ∈ lettersS.cps.toList), ⟨z, z.cps.toList.map fun c => .bool (decide (c ∈ lettersS.cps.toList)), ⟨v, rfl, dx.sm f1⟩, ?_, by rw [List.length_map, Array.length_toList], fun M' k c e h1 h2 H' s' => ?_, by rw [List.map_map]; rfl⟩, rfl⟩, fun H2 u f2 du => q1 H2 u (f1.trans f2) ?_⟩
          · have : z.cps.size = z.length := rfl
            omega
          · rw [List.getElem?_map, Array.getElem?_toList, h1] at h2
            cases h2
            exact ⟨c, _, ⟨_, rfl, .str _⟩, rfl, rfl⟩
          · rw [List.all_map] at du
            exact du

/-- thing: any value; a tuple must be plain data -/
def RDeed : List PyData → PyData → Prop := fun ds d => ∃ x, ds = [x] ∧ (GR.isT x = true → SeqAt.shaped x = true) ∧ (∀ ds, x = .tuple ds → ∀ y ∈ ds, lenOk y) ∧ d = .bool (isDeedD x)
theorem okIsDeed : FnOk P w K mg bs CX0 2 T.fIsDeed T.dIsDeed ["thing"] (GR.spPure K RDeed) := by
  have GIsWhole := okIsWhole (P := P) (w := w) (bs := bs) T
  have GIsName := okIsName (P := P) (w := w) (bs := bs) T
  refine T.FIsDeed.ok scIsDeed (fun vs H Q E h => ?_) (fun cdv A outer s H vs Q E hr h => ?_)
  · obtain ⟨M, ds, d, _, da, ⟨x, rfl, _⟩, _⟩ := h
    exact da.len
  · obtain ⟨M, ds, d, hL, da, ⟨x, rfl, hsh, hln, rfl⟩, q⟩ := h
    cases da with
    | cons dx da =>
      cases da
      rename_i v
      refine ⟨_, (pss_cons (ps_if (GR.PBW.pb M (GR.pbw_or M (GR.pb_not M (GR.pb_val M (GR.pd_isi M (n := "tuple") T.n_isinstance T.n_tuple (by decide +kernel) (GR.pd_var M 0)))) (GR.pbw_or M (GR.pb_eq M hr (GR.pd_var M 0) (GR.pd_tup M (GR.pds_nil M))) (GR.pbw_or1 M (GR.pb_not M (GR.pb_val M (GR.pd_isi M (n := "str") T.n_isinstance T.n_str (by decide +kernel) (GR.pd_ixT M (GR.pd_var M 0) (GR.pd_int M))))))))).run (pss_one (ps_ret pe_bl)) pss_nil)
      (pss_cons (ps_asg (pv 0) (GR.pg_star (by rfl) (pgs_cons (pg_name (i := 1) scIsDeed.nd rfl (Or.inl rfl)) (pgs_cons (pg_name (i := 2) scIsDeed.nd rfl (Or.inl rfl)) pgs_nil))))
      (pss_cons (ps_if (GR.pb_inT M (GR.pd_var M 1) (GR.pd_globT M T.gBARE T.qBARE (ds := [PyData.str "get", PyData.str "boxes", PyData.str "make", PyData.str "clone"]) (fun _ _ => (.cons (.str _) (.cons (.str _) (.cons (.str _) (.cons (.str _) .nil))))))).run (pss_one (ps_ret (GR.pd_eq M hr (GR.pd_var M 2) (GR.pd_lst M (GR.pds_nil M))).run)) pss_nil)
      (pss_cons (ps_if (GR.pb_ne M hr (GR.pd_len M T.n_len (GR.pd_var M 2)) (GR.pd_int M)).run (pss_one (ps_ret pe_bl)) pss_nil)
      (pss_cons (ps_if (GR.pb_eq M hr (GR.pd_var M 1) (GR.pd_str M)).run (pss_one (ps_ret (GR.pd_and M (GR.pd_call M GIsWhole (hr.mono (by decide)) T.gIsWhole T.FIsWhole.kp T.bIsWhole (GR.pds_cons M (GR.pd_ixL M (GR.pd_var M 2) (GR.pd_int M)) (GR.pds_nil M))) (GR.pd_one M (GR.pd_cmp M op_le (GR.pd_abs M T.n_abs (GR.pd_ixL M (GR.pd_var M 2) (GR.pd_int M))) (GR.pd_glob M T.gMOST_ADDED (d := (PyData.int 1000000000)) (v := V.int 1000000000) ⟨_, rfl⟩ rfl)))).run)) pss_nil)
      (pss_one (ps_ret (GR.pd_and M (GR.pd_inT M (GR.pd_var M 1) (GR.pd_globT M T.gWITH_BOX T.qWITH_BOX (ds := [PyData.str "take", PyData.str "clear", PyData.str "give"]) (fun _ _ => (.cons (.str _) (.cons (.str _) (.cons (.str _) .nil)))))) (GR.pd_one M (GR.pd_call M GIsName (hr.mono (by decide)) T.gIsName T.FIsName.kp T.bIsName (GR.pds_cons M (GR.pd_ixL M (GR.pd_var M 2) (GR.pd_int M)) (GR.pds_nil M))))).run))))))), ?_⟩
      cases e1 : GR.isT x with
      | false =>
        refine ⟨hL, true, ⟨true, ⟨x, _, ⟨v, rfl, dx⟩, GR.kit_tuple x, by rw [e1]; rfl⟩, iteT rfl⟩, fun H1 f1 => iteT ?_⟩
        have := q H1 (.bl false) f1
        rw [show isDeedD x = false by cases x <;> first | rfl | (simp [GR.isT] at e1)] at this
        exact this (.bl false)
      | true =>
        obtain ⟨ds, rfl⟩ : ∃ ds, x = .tuple ds := by cases x <;> first | exact ⟨_, rfl⟩ | (simp [GR.isT] at e1)
        have hsh := hsh rfl
        cases ds with
        | nil =>
          refine ⟨hL, true, ⟨false, ⟨_, _, ⟨v, rfl, dx⟩, GR.kit_tuple _, rfl⟩, iteF ⟨true, ⟨_, _, ⟨v, rfl, dx⟩, ⟨[], rfl, by decide, rfl⟩, hsh, rfl, rfl⟩, iteT rfl⟩⟩, fun H1 f1 => iteT ?_⟩
          exact q H1 (.bl false) f1 (.bl false)
        | cons wd rest =>
          have e0 : GR.rEqv false (GR.rVar M K 0) (GR.rTupD GR.rNilD) (start ["thing", "word", "rest"] [v]) H (.bool false) := ⟨_, _, ⟨v, rfl, dx⟩, ⟨[], rfl, by decide, rfl⟩, hsh, rfl, rfl⟩
          have e9 : GR.rIsD "str" (GR.rIxTD (GR.rVar M K 0) (fun _ _ d => d = PyData.int 0)) (start ["thing", "word", "rest"] [v]) H (.bool (GR.isS wd)) := ⟨wd, _, ⟨_, 0, ⟨v, rfl, dx⟩, rfl, atI_nat (j := 0) rfl⟩, GR.kit_str wd, rfl⟩
          obtain ⟨a, xs, rfl, sx, dxs⟩ := GR.dt_tuple dx
          cases e2 : GR.isS wd with
          | false =>
            rw [e2] at e9
            refine ⟨hL, true, ⟨false, ⟨_, _, ⟨_, rfl, dx⟩, GR.kit_tuple _, rfl⟩, iteF ⟨false, e0, iteF e9⟩⟩, fun H1 f1 => iteT ?_⟩
            have := q H1 (.bl false) f1
            rw [show isDeedD (.tuple (wd :: rest)) = false by show (if GR.isS wd = true then _ else false) = false; rw [e2]; rfl] at this
            exact this (.bl false)
          | true =>
            rw [e2] at e9
            rw [show isDeedD (.tuple (wd :: rest)) = deedTail wd rest by show (if GR.isS wd = true then _ else false) = _; rw [e2]; rfl] at q
            refine ⟨hL, false, ⟨false, ⟨_, _, ⟨_, rfl, dx⟩, GR.kit_tuple _, rfl⟩, iteF ⟨false, e0, iteF e9⟩⟩, fun H1 f1 => iteF ?_⟩
            cases dxs with
            | cons dw dr =>
              rename_i vw vr
              obtain ⟨ws, rfl⟩ : ∃ ws, wd = .str ws := by cases wd <;> first | exact ⟨_, rfl⟩ | (simp [GR.isS] at e2)
              have ew := GR.dt_str dw
              subst ew
              -- word, *rest = thing
              refine ⟨_, rfl, a, _, _, rfl, GR.SqT_same f1 sx.sq, fun p np => ⟨_, _, rfl, _, _, rfl, rfl, ?_⟩⟩
              have s2 := GR.same_upd (o := .lst vr) np
              have sAll := f1.trans s2
              have hL2 := hL.same sAll
              have dR : GR.Dt M K (upd H1 p (.lst vr)) (.ref p) (.list rest) := .lst (.new ((hL.same f1).ne np)) (dr.sm sAll)
              have rW : ∀ {Hx : Hp}, GR.rVar M K 1 [some (.ref a), some (.str ws), some (.ref p)] Hx (.str ws) := ⟨_, rfl, .str ws⟩
              have shT : PyData.canLayAll0 (.str ws :: rest) = true ∧ PyData.depthAll (.str ws :: rest) + 1 ≤ 64 := by
                have h1 := SeqAt.canLay_of_shaped hsh
                have h2 := SeqAt.depth_of_shaped hsh
                exact ⟨by simpa only [PyData.canLay0] using h1, by simpa only [PyData.depth] using h2⟩
              have shW : SeqAt.shaped (.str ws) = true := by
                unfold SeqAt.shaped
                have : PyData.canLay0 (.str ws) = true := by
                  have := shT.1
                  simp only [PyData.canLayAll0, Bool.and_eq_true] at this
                  exact this.1
                rw [this]
                rfl
              have shR : SeqAt.shaped (.list rest) = true := by
                unfold SeqAt.shaped
                have h1 := shT.1
                have h2 := shT.2
                simp only [PyData.canLayAll0, Bool.and_eq_true] at h1
                have h3 : PyData.depth (.list rest) ≤ 64 := by
                  simp only [PyData.depthAll] at h2
                  simp only [PyData.depth]
                  omega
                rw [decide_eq_true h3]
                simp only [PyData.canLay0, h1.2, Bool.and_true]
              generalize eH : upd H1 p (.lst vr) = H2 at *
              -- if word in BARE
              refine ⟨hL2, inL (.str ws) bareL, ⟨_, _, rW, .inl rfl, rfl, rfl, rfl⟩, fun H3 f3 => ?_⟩
              unfold deedTail at q
              cases e3 : inL (.str ws) bareL with
              | true =>
                rw [if_pos e3] at q
                refine iteT ⟨hL2.same f3, _, ⟨_, _, ⟨_, rfl, dR.sm f3⟩, ⟨[], rfl, by decide, rfl⟩, shR, rfl, ?_⟩, fun H4 u f4 du => q H4 u ((sAll.trans f3).trans f4) du⟩
                cases rest <;> rfl
              | false =>
                rw [if_neg (by rw [e3]; decide)] at q
                refine iteF ?_
                -- if len(rest) != 1
                refine ⟨hL2.same f3, !((rest.length : Int) == 1), ⟨_, _, ⟨rest, .inl ⟨_, rfl, dR.sm f3⟩, rfl⟩, rfl, rfl, rfl, rfl⟩, fun H4 f4 => ?_⟩
                have s4 := (sAll.trans f3).trans f4
                have hL4 := (hL2.same f3).same f4
                match rest, dR, shR, q with
                | [], dR, shR, q => exact iteT (q H4 (.bl false) s4 (.bl false))
                | r1 :: r2 :: rr, dR, shR, q =>
                  rw [show (!(((r1 :: r2 :: rr).length : Int) == 1)) = true by
                    rw [show (((r1 :: r2 :: rr).length : Int) == 1) = false by simp; omega]
                    rfl]
                  exact iteT (q H4 (.bl false) s4 (.bl false))
                | [r], dR, shR, q =>
                  refine iteF ?_
                  have dR4 := (dR.sm f3).sm f4
                  have rR : ∀ {Hx : Hp}, Same H4 Hx → GR.rIxLD (GR.rVar M K 2) (fun _ _ d => d = PyData.int 0) [some (.ref a), some (.str ws), some (.ref p)] Hx r := fun sx => ⟨[r], 0, ⟨_, rfl, dR4.sm sx⟩, rfl, atI_nat (j := 0) rfl⟩
                  -- if word == 'add'
                  refine ⟨hL4, PyData.eqv (.str ws) (.str "add"), ⟨_, _, rW, rfl, shW, by decide +kernel, rfl⟩, fun H5 f5 => ?_⟩
                  have hL5 := hL4.same f5
                  replace q : ∀ (H' : Hp) (v : V), Same H H' → GR.Dt M K H' v (.bool (if PyData.eqv (.str ws) (.str "add") = true then numOk r else inL (.str ws) boxL && isNameD r)) → Q v H' := q
                  cases e5 : PyData.eqv (.str ws) (.str "add") with
                  | true =>
                    rw [if_pos e5] at q
                    refine iteT ⟨hL5, _, ⟨isIntD r, ⟨[r], ⟨_, [], rR f5, rfl, rfl⟩, r, rfl, rfl⟩, ?_⟩, fun H6 u f6 du => q H6 u ((s4.trans f5).trans f6) du⟩
                    cases e6 : isIntD r with
                    | false =>
                      refine iteF ?_
                      cases r <;> first | rfl | (simp [isIntD] at e6)
                    | true =>
                      obtain ⟨i, rfl⟩ : ∃ i, r = .int i := by cases r <;> first | exact ⟨_, rfl⟩ | (simp [isIntD] at e6)
                      exact iteT ⟨_, _, ⟨i, rR f5, rfl⟩, rfl, trivial, rfl⟩
                  | false =>
                    rw [if_neg (by rw [e5]; decide)] at q
                    refine iteF ⟨hL5, _, ⟨inL (.str ws) boxL, ⟨_, _, rW, .inl rfl, rfl, rfl, rfl⟩, ?_⟩, fun H6 u f6 du => q H6 u ((s4.trans f5).trans f6) du⟩
                    cases inL (.str ws) boxL with
                    | false => exact iteF rfl
                    | true =>
                      refine iteT ⟨[r], ⟨_, [], rR f5, rfl, rfl⟩, r, rfl, hln _ rfl r (by simp), ?_⟩
                      rw [Bool.true_and]

theorem okTakesGift : FnOk P w K mg bs CX0 1 T.fTakesGift T.dTakesGift ["deed"] (GR.spPure K fun ds d => ∃ x r, ds = [.tuple (x :: r)] ∧ SeqAt.shaped x = true ∧ d = .bool (PyData.eqv x (.str "take"))) := by
  refine T.FTakesGift.ok scTakesGift (fun vs H Q E h => ?_) (fun cdv A outer s H vs Q E hr h => ?_)
  · obtain ⟨M, ds, d, _, da, ⟨x, r, rfl, _⟩, _⟩ := h
    exact da.len
  · obtain ⟨M, ds, d, hL, da, ⟨x, r, rfl, hs, rfl⟩, q⟩ := h
    cases da with
    | cons dx da =>
      cases da
      rename_i v
      refine ⟨_, (pss_one (ps_ret (GR.pd_eq M hr (GR.pd_ixT M (GR.pd_var M 0) (GR.pd_int M)) (GR.pd_str M)).run)), ?_⟩
      exact ⟨hL, _, ⟨_, _, ⟨_, 0, ⟨v, rfl, dx⟩, rfl, atI_nat (j := 0) rfl⟩, rfl, hs, by decide +kernel, rfl⟩, q⟩

theorem okTakesTarget : FnOk P w K mg bs CX0 1 T.fTakesTarget T.dTakesTarget ["deed"] (GR.spPure K fun ds d => ∃ x r, ds = [.tuple (x :: r)] ∧ GR.flatD x = true ∧ d = .bool (inL x targL)) := by
  refine T.FTakesTarget.ok scTakesTarget (fun vs H Q E h => ?_) (fun cdv A outer s H vs Q E hr h => ?_)
  · obtain ⟨M, ds, d, _, da, ⟨x, r, rfl, _⟩, _⟩ := h
    exact da.len
  · obtain ⟨M, ds, d, hL, da, ⟨x, r, rfl, hs, rfl⟩, q⟩ := h
    cases da with
    | cons dx da =>
      cases da
      rename_i v
      refine ⟨_, (pss_one (ps_ret (GR.pd_inT M (GR.pd_ixT M (GR.pd_var M 0) (GR.pd_int M)) (GR.pd_globT M T.gWITH_TARGET T.qWITH_TARGET (ds := [PyData.str "give", PyData.str "make", PyData.str "clone"]) (fun _ _ => (.cons (.str _) (.cons (.str _) (.cons (.str _) .nil)))))).run)), ?_⟩
      exact ⟨hL, _, ⟨_, _, ⟨_, 0, ⟨v, rfl, dx⟩, rfl, atI_nat (j := 0) rfl⟩, .inl rfl, hs, rfl, rfl⟩, q⟩

theorem bare_not {ws : Str} (h : inL (.str ws) bareL = true) : PyData.eqv (.str ws) (.str "add") = false ∧ inL (.str ws) boxL = false := by
  have e : ws = "get" ∨ ws = "boxes" ∨ ws = "make" ∨ ws = "clone" := by
    have h' : ((("get" : Str) == ws) || ((("boxes" : Str) == ws) || ((("make" : Str) == ws) || ((("clone" : Str) == ws) || false)))) = true := h
    simp only [Bool.or_eq_true, beq_iff_eq, Bool.or_false] at h'
    rcases h' with z | z | z | z
    · exact .inl z.symm
    · exact .inr (.inl z.symm)
    · exact .inr (.inr (.inl z.symm))
    · exact .inr (.inr (.inr z.symm))
  rcases e with rfl | rfl | rfl | rfl
  · exact ⟨by decide +kernel, by decide +kernel⟩
  · exact ⟨by decide +kernel, by decide +kernel⟩
  · exact ⟨by decide +kernel, by decide +kernel⟩
  · exact ⟨by decide +kernel, by decide +kernel⟩
theorem tail_two (ws : Str) (r : PyData) : deedTail (.str ws) [r] = (if PyData.eqv (.str ws) (.str "add") = true then numOk r else inL (.str ws) boxL && isNameD r) := by
  unfold deedTail
  cases e : inL (.str ws) bareL with
  | true =>
    obtain ⟨h1, h2⟩ := bare_not e
    rw [h1, h2]
    rfl
  | false => rfl
theorem numOk_int (i : Int) : numOk (.int i) = (decide (0 - 1000000000 ≤ i) && decide (i ≤ 1000000000)) := by
  show decide ((if i < 0 then -i else i) ≤ 1000000000) = _
  by_cases h : (if i < 0 then -i else i) ≤ 1000000000
  · rw [decide_eq_true h]
    split at h
    · rw [decide_eq_true (show (0 : Int) - 1000000000 ≤ i by omega), decide_eq_true (show i ≤ 1000000000 by omega)]
      rfl
    · rw [decide_eq_true (show (0 : Int) - 1000000000 ≤ i by omega), decide_eq_true (show i ≤ 1000000000 by omega)]
      rfl
  · rw [decide_eq_false h]
    split at h
    · rw [decide_eq_false (show ¬ (0 : Int) - 1000000000 ≤ i by omega)]
      rfl
    · rw [decide_eq_false (show ¬ i ≤ 1000000000 by omega)]
      simp
theorem okLawDue : FnOk P w K mg bs CX0 2 T.fLawDue T.dLawDue ["_law_thing"] (GR.spPure K RDeed) := by
  have GLawWhole := okLawWhole (P := P) (w := w) (bs := bs) T
  have GLawIsName := okLawIsName (P := P) (w := w) (bs := bs) T
  refine T.FLawDue.ok scLawDue (fun vs H Q E h => ?_) (fun cdv A outer s H vs Q E hr h => ?_)
  · obtain ⟨M, ds, d, _, da, ⟨x, rfl, _⟩, _⟩ := h
    exact da.len
  · obtain ⟨M, ds, d, hL, da, ⟨x, rfl, hsh, hln, rfl⟩, q⟩ := h
    cases da with
    | cons dx da =>
      cases da
      rename_i v
      refine ⟨_, (pss_cons (ps_if (GR.PBW.pb M (GR.pbw_or M (GR.pb_not M (GR.pb_val M (GR.pd_isi M (n := "tuple") T.n_isinstance T.n_tuple (by decide +kernel) (GR.pd_var M 0)))) (GR.pbw_or M (GR.pb_niL M hr (GR.pd_len M T.n_len (GR.pd_var M 0)) (GR.pd_lst M (GR.pds_cons M (GR.pd_int M) (GR.pds_cons M (GR.pd_int M) (GR.pds_nil M))))) (GR.pbw_or1 M (GR.pb_not M (GR.pb_val M (GR.pd_isi M (n := "str") T.n_isinstance T.n_str (by decide +kernel) (GR.pd_ixT M (GR.pd_var M 0) (GR.pd_int M))))))))).run (pss_one (ps_ret pe_bl)) pss_nil)
      (pss_cons (ps_if (GR.pb_eq M hr (GR.pd_len M T.n_len (GR.pd_var M 0)) (GR.pd_int M)).run (pss_one (ps_ret (GR.pd_inL M hr (GR.pd_ixT M (GR.pd_var M 0) (GR.pd_int M)) (GR.pd_lst M (GR.pds_cons M (GR.pd_str M) (GR.pds_cons M (GR.pd_str M) (GR.pds_cons M (GR.pd_str M) (GR.pds_cons M (GR.pd_str M) (GR.pds_nil M))))))).run)) pss_nil)
      (pss_cons (ps_if (GR.pb_eq M hr (GR.pd_ixT M (GR.pd_var M 0) (GR.pd_int M)) (GR.pd_str M)).run (pss_one (ps_ret (GR.pd_and M (GR.pd_call M GLawWhole (hr.mono (by decide)) T.gLawWhole T.FLawWhole.kp T.bLawWhole (GR.pds_cons M (GR.pd_ixT M (GR.pd_var M 0) (GR.pd_int M)) (GR.pds_nil M))) (GR.pd_one M (GR.pd_chain M op_le op_le (GR.pd_op0 M op_sub (GR.pd_int M) (GR.pd_op M op_pow (GR.pd_int M) (GR.pd_int M))) (GR.pd_ixT M (GR.pd_var M 0) (GR.pd_int M)) (GR.pd_op M op_pow (GR.pd_int M) (GR.pd_int M))))).run)) pss_nil)
      (pss_one (ps_ret (GR.pd_and M (GR.pd_inL M hr (GR.pd_ixT M (GR.pd_var M 0) (GR.pd_int M)) (GR.pd_lst M (GR.pds_cons M (GR.pd_str M) (GR.pds_cons M (GR.pd_str M) (GR.pds_cons M (GR.pd_str M) (GR.pds_nil M)))))) (GR.pd_one M (GR.pd_call M GLawIsName (hr.mono (by decide)) T.gLawIsName T.FLawIsName.kp T.bLawIsName (GR.pds_cons M (GR.pd_ixT M (GR.pd_var M 0) (GR.pd_int M)) (GR.pds_nil M))))).run))))), ?_⟩
      cases e1 : GR.isT x with
      | false =>
        refine ⟨hL, true, ⟨true, ⟨x, _, ⟨v, rfl, dx⟩, GR.kit_tuple x, by rw [e1]; rfl⟩, iteT rfl⟩, fun H1 f1 => iteT ?_⟩
        have := q H1 (.bl false) f1
        rw [show isDeedD x = false by cases x <;> first | rfl | (simp [GR.isT] at e1)] at this
        exact this (.bl false)
      | true =>
        obtain ⟨ds, rfl⟩ : ∃ ds, x = .tuple ds := by cases x <;> first | exact ⟨_, rfl⟩ | (simp [GR.isT] at e1)
        have hsh := hsh rfl
        have rT : ∀ (Hx : Hp), Same H Hx → GR.rVar M K 0 [some v] Hx (.tuple ds) := fun _ sx => ⟨v, rfl, dx.sm sx⟩
        have rI : GR.rIsD "tuple" (GR.rVar M K 0) [some v] H (.bool true) := ⟨_, _, rT _ (Same.refl H), GR.kit_tuple _, rfl⟩
        have rN : GR.rInLD true (GR.rLenD (GR.rVar M K 0)) (GR.rLstD (GR.rConsD (fun _ _ d => d = PyData.int 1) (GR.rConsD (fun _ _ d => d = PyData.int 2) GR.rNilD))) [some v] H (.bool (!((1 : Int) == ds.length || ((2 : Int) == ds.length || false)))) :=
          ⟨.int ds.length, [.int 1, .int 2], ⟨ds, .inr (rT _ (Same.refl H)), rfl⟩, ⟨_, ⟨_, _, rfl, ⟨_, _, rfl, rfl, rfl⟩, rfl⟩, by decide, rfl⟩, rfl, rfl, rfl⟩
        match ds, dx, hsh, hln, q, rT, rI, rN with
        | [], dx, hsh, hln, q, rT, rI, rN => exact ⟨hL, true, ⟨false, rI, iteF ⟨true, rN, iteT rfl⟩⟩, fun H1 f1 => iteT (q H1 (.bl false) f1 (.bl false))⟩
        | a1 :: a2 :: a3 :: ar, dx, hsh, hln, q, rT, rI, rN =>
          have e3 : (!((1 : Int) == ((a1 :: a2 :: a3 :: ar).length : Int) || ((2 : Int) == ((a1 :: a2 :: a3 :: ar).length : Int) || false))) = true := by
            have h1 : ((1 : Int) == ((a1 :: a2 :: a3 :: ar).length : Int)) = false := by
              rw [beq_eq_false_iff_ne]
              simp only [List.length_cons]
              omega
            have h2 : ((2 : Int) == ((a1 :: a2 :: a3 :: ar).length : Int)) = false := by
              rw [beq_eq_false_iff_ne]
              simp only [List.length_cons]
              omega
            rw [h1, h2]
            rfl
          rw [e3] at rN
          refine ⟨hL, true, ⟨false, rI, iteF ⟨true, rN, iteT rfl⟩⟩, fun H1 f1 => iteT ?_⟩
          have := q H1 (.bl false) f1
          rw [show isDeedD (.tuple (a1 :: a2 :: a3 :: ar)) = false by
            show (if GR.isS a1 = true then deedTail a1 (a2 :: a3 :: ar) else false) = false
            unfold deedTail
            split
            · split <;> rfl
            · rfl] at this
          exact this (.bl false)
        | [w1], dx, hsh, hln, q, rT, rI, rN =>
          have r0 : ∀ {Hx : Hp}, Same H Hx → GR.rIxTD (GR.rVar M K 0) (fun _ _ d => d = PyData.int 0) [some v] Hx w1 := fun sx => ⟨_, 0, rT _ sx, rfl, atI_nat (j := 0) rfl⟩
          have e9 : GR.rIsD "str" (GR.rIxTD (GR.rVar M K 0) (fun _ _ d => d = PyData.int 0)) [some v] H (.bool (GR.isS w1)) := ⟨w1, _, r0 (Same.refl H), GR.kit_str w1, rfl⟩
          cases e2 : GR.isS w1 with
          | false =>
            rw [e2] at e9
            refine ⟨hL, true, ⟨false, rI, iteF ⟨false, rN, iteF e9⟩⟩, fun H1 f1 => iteT ?_⟩
            have := q H1 (.bl false) f1
            rw [show isDeedD (.tuple [w1]) = false by show (if GR.isS w1 = true then _ else false) = false; rw [e2]; rfl] at this
            exact this (.bl false)
          | true =>
            rw [e2] at e9
            obtain ⟨ws, rfl⟩ : ∃ ws, w1 = .str ws := by cases w1 <;> first | exact ⟨_, rfl⟩ | (simp [GR.isS] at e2)
            have shW : SeqAt.shaped (.str ws) = true := by
              have h1 := SeqAt.canLay_of_shaped hsh
              simp only [PyData.canLay0, PyData.canLayAll0, Bool.and_true] at h1
              show (PyData.canLay0 (.str ws) && _) = true
              simp only [PyData.canLay0, h1, Bool.true_and]
              rfl
            refine ⟨hL, false, ⟨false, rI, iteF ⟨false, rN, iteF e9⟩⟩, fun H1 f1 => iteF ?_⟩
            refine ⟨hL.same f1, true, ⟨_, _, ⟨_, .inr (rT _ f1), rfl⟩, rfl, rfl, rfl, rfl⟩, fun H2 f2 => iteT ?_⟩
            refine ⟨(hL.same f1).same f2, _, ⟨_, bareL, r0 (f1.trans f2), ⟨_, ⟨_, _, rfl, ⟨_, _, rfl, ⟨_, _, rfl, ⟨_, _, rfl, rfl, rfl⟩, rfl⟩, rfl⟩, rfl⟩, by decide, rfl⟩, shW, by decide +kernel, rfl⟩, fun H3 u f3 du => q H3 u ((f1.trans f2).trans f3) ?_⟩
            rw [show isDeedD (.tuple [.str ws]) = inL (.str ws) bareL by
              show (if inL (.str ws) bareL = true then true else false) = _
              cases inL (.str ws) bareL <;> rfl]
            exact du
        | [w1, r], dx, hsh, hln, q, rT, rI, rN =>
          have r0 : ∀ {Hx : Hp}, Same H Hx → GR.rIxTD (GR.rVar M K 0) (fun _ _ d => d = PyData.int 0) [some v] Hx w1 := fun sx => ⟨_, 0, rT _ sx, rfl, atI_nat (j := 0) rfl⟩
          have r1 : ∀ {Hx : Hp}, Same H Hx → GR.rIxTD (GR.rVar M K 0) (fun _ _ d => d = PyData.int 1) [some v] Hx r := fun sx => ⟨_, 1, rT _ sx, rfl, atI_nat (j := 1) rfl⟩
          have e9 : GR.rIsD "str" (GR.rIxTD (GR.rVar M K 0) (fun _ _ d => d = PyData.int 0)) [some v] H (.bool (GR.isS w1)) := ⟨w1, _, r0 (Same.refl H), GR.kit_str w1, rfl⟩
          cases e2 : GR.isS w1 with
          | false =>
            rw [e2] at e9
            refine ⟨hL, true, ⟨false, rI, iteF ⟨false, rN, iteF e9⟩⟩, fun H1 f1 => iteT ?_⟩
            have := q H1 (.bl false) f1
            rw [show isDeedD (.tuple [w1, r]) = false by show (if GR.isS w1 = true then _ else false) = false; rw [e2]; rfl] at this
            exact this (.bl false)
          | true =>
            rw [e2] at e9
            obtain ⟨ws, rfl⟩ : ∃ ws, w1 = .str ws := by cases w1 <;> first | exact ⟨_, rfl⟩ | (simp [GR.isS] at e2)
            have shW : SeqAt.shaped (.str ws) = true := by
              have h1 := SeqAt.canLay_of_shaped hsh
              simp only [PyData.canLay0, PyData.canLayAll0, Bool.and_true, Bool.and_eq_true] at h1
              show (PyData.canLay0 (.str ws) && _) = true
              simp only [PyData.canLay0, h1.1, Bool.true_and]
              rfl
            rw [show isDeedD (.tuple [.str ws, r]) = deedTail (.str ws) [r] from rfl, tail_two] at q
            refine ⟨hL, false, ⟨false, rI, iteF ⟨false, rN, iteF e9⟩⟩, fun H1 f1 => iteF ?_⟩
            refine ⟨hL.same f1, false, ⟨_, _, ⟨_, .inr (rT _ f1), rfl⟩, rfl, rfl, rfl, rfl⟩, fun H2 f2 => iteF ?_⟩
            have s2 := f1.trans f2
            refine ⟨hL.same s2, PyData.eqv (.str ws) (.str "add"), ⟨_, _, r0 s2, rfl, shW, by decide +kernel, rfl⟩, fun H3 f3 => ?_⟩
            have s3 := s2.trans f3
            cases e5 : PyData.eqv (.str ws) (.str "add") with
            | true =>
              rw [if_pos e5] at q
              refine iteT ⟨hL.same s3, _, ⟨isIntD r, ⟨[r], ⟨_, [], r1 s3, rfl, rfl⟩, r, rfl, rfl⟩, ?_⟩, fun H6 u f6 du => q H6 u (s3.trans f6) du⟩
              cases e6 : isIntD r with
              | false =>
                refine iteF ?_
                cases r <;> first | rfl | (simp [isIntD] at e6)
              | true =>
                obtain ⟨i, rfl⟩ : ∃ i, r = .int i := by cases r <;> first | exact ⟨_, rfl⟩ | (simp [isIntD] at e6)
                refine iteT ⟨0 - 1000000000, i, 1000000000, ⟨_, _, rfl, ⟨_, _, rfl, rfl, ⟨by decide, by decide, by decide⟩, rfl⟩, trivial, rfl⟩, r1 s3, ⟨_, _, rfl, rfl, ⟨by decide, by decide, by decide⟩, rfl⟩, ?_⟩
                rw [numOk_int]
            | false =>
              rw [if_neg (by rw [e5]; decide)] at q
              refine iteF ⟨hL.same s3, _, ⟨inL (.str ws) boxL, ⟨_, boxL, r0 s3, ⟨_, ⟨_, _, rfl, ⟨_, _, rfl, ⟨_, _, rfl, rfl, rfl⟩, rfl⟩, rfl⟩, by decide, rfl⟩, shW, by decide +kernel, rfl⟩, ?_⟩, fun H6 u f6 du => q H6 u (s3.trans f6) du⟩
              cases inL (.str ws) boxL with
              | false => exact iteF rfl
              | true =>
                refine iteT ⟨[r], ⟨_, [], r1 s3, rfl, rfl⟩, r, rfl, hln _ rfl r (by simp), ?_⟩
                rw [Bool.true_and]

def spTake : Sp := fun vs H Q _ => ∃ (b : Addr) (many : Int), vs = [.ref b, .int many] ∧ GR.Bag H b ∧ 0 < many ∧ many.natAbs < 2 ^ 8000 ∧
  ∀ r H', 0 ≤ r → r < many → GR.Bag H' b → GR.But b H H' → Q (.int r) H'
theorem okLawTake : FnOk P w K mg bs CX0 1 T.fLawTake T.dLawTake ["_law_bag_here", "_law_many"] spTake := by
  refine T.FLawTake.ok scLawTake (fun vs H Q E h => ?_) (fun cdv A outer s H vs Q E hr h => ?_)
  · obtain ⟨b, many, rfl, _⟩ := h
    rfl
  · obtain ⟨b, many, rfl, ⟨x, m, hb, V⟩, h0, h8, q⟩ := h
    refine ⟨_, (pss_cons (ps_if (pt_cmpR op_gt (pe_ix ix_list (pv 0) pe_int (fun _ _ => rfl)) pe_int (nomark _)) (pss_cons (ps_set (i := 2) scLawTake.nd rfl (Or.inl rfl) (pe_op op_mod (pe_ix ix_list (pv 0) pe_int (fun _ _ => rfl)) (pv 1)))
      (pss_cons (ps_asg (pe_op op_fdivW (pe_ix ix_list (pv 0) pe_int (fun _ _ => rfl)) (pv 1)) (pg_sub (pv 0) pe_int set_list))
      (pss_one (ps_ret (pv 2))))) pss_nil)
      (pss_cons (ps_asg (pe_op op_mod (pe_op op_add (pe_op op_mul (pe_ix ix_list (pv 0) pe_int (fun _ _ => rfl)) pe_int) pe_int) pe_int) (pg_sub (pv 0) pe_int set_list))
      (pss_one (ps_ret (pe_op op_mod (pe_op op_fdivW (pe_op op_mod (pe_op op_mul (pe_op op_fdivW (pe_ix ix_list (pv 0) pe_int (fun _ _ => rfl)) pe_int) pe_int) pe_int) pe_int) (pv 1)))))), ?_⟩
    refine ⟨_, rfl, b, _, _, _, rfl, rfl, SqL.of hb, atI_nat (j := 0) rfl, _, _, rfl, rfl, _, rfl, ?_⟩
    refine ite2 (fun e => ?_) (fun e => ?_)
    · have e' : 0 < x := of_decide_eq_true e
      refine ⟨_, rfl, b, _, _, _, rfl, rfl, SqL.of hb, atI_nat (j := 0) rfl, _, rfl, _, _, rfl, rfl, h0, ?_⟩
      refine ⟨_, rfl, b, _, _, _, rfl, rfl, SqL.of hb, atI_nat (j := 0) rfl, _, rfl, _, _, rfl, rfl, wide_div h0 h8 (by decide) (by decide), ?_⟩
      refine ⟨_, rfl, b, _, _, 0, rfl, rfl, hb, rfl, ?_⟩
      refine ⟨_, rfl, q _ _ (Int.emod_nonneg _ (by omega)) (Int.emod_lt_of_pos _ h0) ⟨x / many, m, upd_same, ?_, ?_, V.m0, V.mb⟩ GR.But.upd⟩
      · exact Int.ediv_nonneg V.x0 (by omega)
      · exact Nat.lt_of_le_of_lt (by
          have z : x / many ≤ x := Int.ediv_le_self many V.x0
          have z2 : 0 ≤ x / many := Int.ediv_nonneg V.x0 (by omega)
          omega) V.xb
    · refine ⟨_, rfl, b, _, _, _, rfl, rfl, SqL.of hb, atI_nat (j := 1) rfl, _, _, rfl, rfl, .inr ⟨by decide, by decide⟩, _, _, rfl, rfl, _, _, rfl, rfl, (by show (0 : Int) < 2147483399; decide), ?_⟩
      refine ⟨_, rfl, b, _, _, 1, rfl, rfl, hb, rfl, ?_⟩
      refine ⟨_, rfl, b, _, _, _, rfl, rfl, SqL.of upd_same, atI_nat (j := 1) rfl, _, _, rfl, rfl, ⟨by decide, by decide⟩, _, _, rfl, rfl, .inr ⟨by decide, by decide⟩, _, _, rfl, rfl, (by show (0 : Int) < 2147483249; decide), _, _, rfl, rfl, ⟨by decide, by decide⟩, _, rfl, _, _, rfl, rfl, h0, ?_⟩
      refine q _ _ (Int.emod_nonneg _ (by omega)) (Int.emod_lt_of_pos _ h0) ⟨x, _, upd_same, V.x0, V.xb, Int.emod_nonneg _ (by decide), ?_⟩ GR.But.upd
      exact Int.lt_trans (Int.emod_lt_of_pos _ (by decide)) (by decide)

def spBag (K : PySem.W.Frag) : Sp := fun vs H Q _ => ∃ (a : Addr) (ns : List Int) (k : Int), vs = [.ref a, .int k] ∧ SqL K H a (ns.map V.int) ∧ ns.length ≤ 63 ∧
  (∀ z ∈ ns, Builtin.Int.intBits z ≤ 1048576) ∧ 0 ≤ k ∧ k < 100 ∧ ∀ H' b, Same H H' → H b = none → GR.Bag H' b → Q (.ref b) H'
theorem map_get {ns : List Int} {i : Nat} {y : V} (h : (ns.map V.int)[i]? = some y) : ∃ z, ns[i]? = some z ∧ y = V.int z := by
  rw [List.getElem?_map] at h
  cases e : ns[i]? with
  | none =>
    rw [e] at h
    cases h
  | some z =>
    rw [e] at h
    exact ⟨z, rfl, (Option.some.inj h).symm⟩
theorem cut_upto (ns : List Int) (k : Nat) : cutV (ns.map V.int) none (some (k : Int)) = (ns.take k).map V.int := by
  unfold cutV
  rw [HT.sIx_none, show HT.sIx (ns.map V.int).length (ns.map V.int).length (some (k : Int)) = min k (ns.map V.int).length from HT.sIx_nat _ _ k]
  rw [List.map_take, List.drop_zero, Nat.sub_zero]
  by_cases h : k ≤ (ns.map V.int).length
  · rw [Nat.min_eq_left h]
  · rw [Nat.min_eq_right (by omega), List.take_of_length_le (Nat.le_refl _), List.take_of_length_le (by omega)]
theorem okLawBag : FnOk P w K mg bs CX0 1 T.fLawBag T.dLawBag ["_law_script", "_law_at"] (spBag K) := by
  refine T.FLawBag.ok scLawBag (fun vs H Q E h => ?_) (fun cdv A outer s H vs Q E hr h => ?_)
  · obtain ⟨a, ns, k, rfl, _⟩ := h
    rfl
  · obtain ⟨a, ns, k, rfl, hS, hlen, hbits, hk0, hk1, q⟩ := h
    refine ⟨_, (pss_cons (ps_set (i := 2) scLawBag.nd rfl (Or.inl rfl) (GR.pe_cut (pe_ifExp (pt_cmpR op_lt (pv 1) (pe_callB call_len_seq (by rfl) T.n_len PySem.boot_len (pa_cons (pv 0) pa_nil)) (nomark _)) (pe_ix ix_list (pv 0) (pv 1) (fun _ _ => rfl)) pe_int)))
      (pss_cons (ps_set (i := 3) scLawBag.nd rfl (Or.inl rfl) (pe_op op_add (pe_op op_mul pe_int (pv 1)) pe_int))
      (pss_cons (ps_for PassesOwn.never rfl (pi_enum (by rfl) T.n_enumerate (pa_cons (pe_slice sl_list (pv 0) po_none (po_some pe_int)) pa_nil)) (pg_tup (by rfl) (pgs_cons (pg_name (i := 4) scLawBag.nd rfl (Or.inl rfl)) (pgs_cons (pg_name (i := 5) scLawBag.nd rfl (Or.inl rfl)) pgs_nil)))
      (pss_one (ps_set (i := 3) scLawBag.nd rfl (Or.inl rfl) (pe_op op_mod (pe_op op_add (pe_op op_add (pe_op op_mul (pv 3) pe_int) (pe_op op_mod (pv 5) pe_int)) (pe_op op_mul pe_int (pv 4))) pe_int))))
      (pss_one (ps_ret (pe_lst (pa_cons (GR.pe_cut (pe_ifExp (pt_cmpR op_ge (pe_callB call_abs (by rfl) T.n_abs (by decide +kernel) (pa_cons (pv 2) pa_nil)) (pe_op op_pow pe_int pe_int) (nomark _)) (pe_callB call_abs (by rfl) T.n_abs (by decide +kernel) (pa_cons (pv 2) pa_nil)) pe_int)) (pa_cons (pv 3) pa_nil)))))))), ?_⟩
    refine ⟨fun v H1 => H1 = H ∧ ∃ c : Int, v = .int c ∧ c.natAbs < 2 ^ 1048576, ?_, ?_⟩
    · refine ⟨_, rfl, _, rfl, a, _, rfl, .inl hS, _, _, rfl, rfl, _, rfl, ?_⟩
      refine ite2 (fun e => ?_) (fun e => ?_)
      · have e' : k < ((ns.map V.int).length : Int) := of_decide_eq_true e
        rw [List.length_map] at e'
        obtain ⟨j, rfl⟩ : ∃ j : Nat, k = (j : Int) := ⟨k.toNat, by omega⟩
        have hj : j < ns.length := by omega
        refine ⟨_, rfl, _, rfl, a, _, _, _, rfl, rfl, hS, atI_nat (j := j) (v := V.int ns[j]) (by rw [List.getElem?_map, List.getElem?_eq_getElem hj]; rfl), rfl, _, rfl, ?_⟩
        exact GR.bits_lt (hbits _ (List.getElem_mem hj))
      · exact ⟨rfl, 0, rfl, Nat.pow_pos (by decide)⟩
    rintro v H1 ⟨rfl, c, rfl, hc⟩
    refine ⟨_, rfl, _, _, rfl, rfl, .inl ⟨by decide, by decide⟩, _, _, rfl, rfl, ?_⟩
    -- for spot, other in enumerate(script[:30])
    refine ⟨_, rfl, 30, rfl, a, _, rfl, hS, fun l nl => ?_⟩
    have sl : Same H1 (upd H1 l (.lst (cutV (ns.map V.int) none (some 30)))) := GR.same_upd nl
    have ec : cutV (ns.map V.int) none (some 30) = (ns.take 30).map V.int := cut_upto ns 30
    refine ⟨l, (ns.take 30).map V.int, rfl, SqL.of (by rw [upd_same, ec]), ?_⟩
    refine GR.for_enum (K := K) (a := l) (xs := (ns.take 30).map V.int) (fun i σ H2 => ∃ (m : Int) (v4 v5 : Option V), σ = [some (.ref a), some (.int k), some (.int c), some (.int m), v4, v5] ∧ Same H1 H2 ∧ H2 l = some (.lst ((ns.take 30).map V.int)) ∧ 0 ≤ m ∧ m < 2147483648)
      ⟨2713 * k + 419, none, none, rfl, sl, by rw [upd_same, ec], by omega, by omega⟩ (fun i σ H2 _ ⟨_, _, _, _, _, h2, _⟩ => SqL.of h2) ?_ ?_
    · rintro i y σ H2 U hi ⟨m, v4, v5, rfl, sm, h2, m0, m1⟩ nU
      obtain ⟨z, hz, rfl⟩ := map_get hi
      have nlU : l ≠ U := ne_of_none h2 nU
      refine ⟨U, _, rfl, .inl (.inl upd_same), rfl, _, _, rfl, _, _, rfl, rfl, ?_⟩
      refine ⟨_, rfl, _, _, rfl, rfl, .inr ⟨by decide, by decide⟩, _, rfl, _, _, rfl, rfl, (by show (0 : Int) < 2147483563; decide), _, _, rfl, rfl, _, rfl, _, _, rfl, rfl, .inl ⟨by decide, by decide⟩, _, _, rfl, rfl, _, _, rfl, rfl, (by show (0 : Int) < 2147483563; decide), ?_⟩
      refine ⟨_, _, _, rfl, sm.trans (GR.same_upd nU), by rw [upd_ne nlU]; exact h2, Int.emod_nonneg _ (by decide), Int.lt_trans (Int.emod_lt_of_pos _ (by decide)) (by decide)⟩
    · rintro σ H2 ⟨m, v4, v5, rfl, sm, h2, m0, m1⟩
      -- return [..]
      refine ⟨fun v H3 => H3 = H2 ∧ ∃ x : Int, v = .int x ∧ 0 ≤ x ∧ x.natAbs < 2 ^ 1048576, ?_, ?_⟩
      · refine ⟨_, rfl, _, rfl, _, _, rfl, rfl, ⟨by decide, by decide, by decide⟩, _, _, rfl, rfl, _, rfl, ?_⟩
        refine ite2 (fun e => ?_) (fun e => ?_)
        · refine ⟨_, rfl, _, rfl, rfl, _, rfl, ?_, ?_⟩
          · split <;> omega
          · refine Nat.lt_of_le_of_lt ?_ hc
            split <;> omega
        · exact ⟨rfl, 0, rfl, Int.le_refl _, Nat.pow_pos (by decide)⟩
      · rintro v H3 ⟨rfl, x, rfl, x0, xb⟩
        refine ⟨_, rfl, (by show 2 ≤ sizeLine; decide), fun b nb => ?_⟩
        exact q _ _ (sm.trans (GR.same_upd nb)) (sm.free nb) ⟨x, m, upd_same, x0, xb, m0, m1⟩

/-! ## drawn values -/
def reprB (d : PyData) : Bool := d.showable && decide (d.depth ≤ 20) && decide (d.shown.length ≤ 100000) && (!d.hasDict || (match d with | .dict kvs => GR.noListAll (kvs.map (·.2)) | _ => false))
theorem reprB_ok {d : PyData} (h : reprB d = true) : GR.ReprOk d := by
  unfold reprB at h
  simp only [Bool.and_eq_true, decide_eq_true_eq] at h
  obtain ⟨⟨⟨h1, h2⟩, h3⟩, h4⟩ := h
  refine ⟨h1, h2, Nat.le_trans h3 (by decide), ?_⟩
  cases e : d.hasDict with
  | false => exact .inl e
  | true =>
    rw [e] at h4
    cases d with
    | dict kvs => exact .inr ⟨kvs, rfl, h4⟩
    | _ => exact (Bool.false_ne_true h4).elim
def oddL : List PyData := [.none, .bool true, .bool false, .int 0, .int 1, .int (-1), .int (10 ^ 39), .str "", .str "1/2", .str "x", .tuple [], .list [], .tuple [.int 1], .list [.int 1, .int 2], .dict [], .dict [(.str "a", .int 1)], .tuple [.int 1, .int 2, .int 3],
  .tuple [.none, .int 1], .tuple [.str "1", .str "2"], .tuple [.tuple [.int 1, .int 2]], .list [.tuple [.int 1, .int 2]], .tuple [.int 1, .list [.int 2]], .tuple [.str "get"], .dict [(.int 1, .tuple [.int 1, .int 2])]]
theorem odd_ok : ∀ d ∈ oddL, GR.ReprOk d := fun d hd => reprB_ok (List.all_eq_true.mp (show oddL.all reprB = true by decide +kernel) d hd)
/-- a drawn value of which repr is known to be made -/
def spDraw (K : PySem.W.Frag) (ok : PyData → Prop) : Sp := fun vs H Q _ => ∃ (b : Addr), vs = [.ref b] ∧ GR.Bag H b ∧
  ∀ H' v d, GR.Fx (GR.onlyB b) H H' → GR.Bag H' b → GR.Dt (GR.onlyB b) K H' v d → ok d → Q v H'
local macro_rules | `(tactic| walk_at "rd") => `(tactic| (repeat' (first | exact rfl | assumption | exact GR.Dt.int _ | exact GR.Dt.str _ | exact GR.Dt.bl _ | exact GR.Dt.non | exact trivial | exact ⟨by decide, by decide, by decide⟩ | decide | exact (Nat.le_of_ble_eq_true rfl) | exact (show GR.keyD (Sum.inr _) = PyData.str _ from rfl) | exact (show GR.keyD (Sum.inl _) = PyData.int _ from rfl) | (intro _ _) | apply And.intro | apply Exists.intro)))
theorem okLawOdd : FnOk P w K mg bs CX0 2 T.fLawOdd T.dLawOdd ["_law_bag_here"] (spDraw K (· ∈ oddL)) := by
  have GLawTake := okLawTake (P := P) (w := w) (bs := bs) T
  refine T.FLawOdd.ok scLawOdd (fun vs H Q E h => ?_) (fun cdv A outer s H vs Q E hr h => ?_)
  · obtain ⟨b, rfl, _⟩ := h
    rfl
  · obtain ⟨b, rfl, hb, q⟩ := h
    generalize eM : GR.onlyB b = M at q
    have hL : GR.Live M H := by rw [← eM]; exact hb.live
    refine ⟨_, (pss_cons (ps_set (i := 1) scLawOdd.nd rfl (Or.inl rfl) (GR.pd_lst M (GR.pds_cons M (GR.pd_non M) (GR.pds_cons M (GR.pd_bl M) (GR.pds_cons M (GR.pd_bl M) (GR.pds_cons M (GR.pd_int M) (GR.pds_cons M (GR.pd_int M) (GR.pds_cons M (GR.pd_neg M (GR.pd_int M)) (GR.pds_cons M (GR.pd_op M op_pow (GR.pd_int M) (GR.pd_int M)) (GR.pds_cons M (GR.pd_str M) (GR.pds_cons M (GR.pd_str M) (GR.pds_cons M (GR.pd_str M) (GR.pds_cons M (GR.pd_tup M (GR.pds_nil M)) (GR.pds_cons M (GR.pd_lst M (GR.pds_nil M)) (GR.pds_cons M (GR.pd_tup M (GR.pds_cons M (GR.pd_int M) (GR.pds_nil M))) (GR.pds_cons M (GR.pd_lst M (GR.pds_cons M (GR.pd_int M) (GR.pds_cons M (GR.pd_int M) (GR.pds_nil M)))) (GR.pds_cons M (GR.pd_d0 M) (GR.pds_cons M (GR.pd_d1 M (fun M' => (GR.pd_str M')) (fun M' => (GR.pd_int M'))) (GR.pds_cons M (GR.pd_tup M (GR.pds_cons M (GR.pd_int M) (GR.pds_cons M (GR.pd_int M) (GR.pds_cons M (GR.pd_int M) (GR.pds_nil M))))) (GR.pds_nil M))))))))))))))))))).run)
      (pss_cons (ps_set (i := 1) scLawOdd.nd rfl (Or.inl rfl) (GR.pd_cat M (GR.pd_var M 1) (GR.pd_lst M (GR.pds_cons M (GR.pd_tup M (GR.pds_cons M (GR.pd_non M) (GR.pds_cons M (GR.pd_int M) (GR.pds_nil M)))) (GR.pds_cons M (GR.pd_tup M (GR.pds_cons M (GR.pd_str M) (GR.pds_cons M (GR.pd_str M) (GR.pds_nil M)))) (GR.pds_cons M (GR.pd_tup M (GR.pds_cons M (GR.pd_tup M (GR.pds_cons M (GR.pd_int M) (GR.pds_cons M (GR.pd_int M) (GR.pds_nil M)))) (GR.pds_nil M))) (GR.pds_cons M (GR.pd_lst M (GR.pds_cons M (GR.pd_tup M (GR.pds_cons M (GR.pd_int M) (GR.pds_cons M (GR.pd_int M) (GR.pds_nil M)))) (GR.pds_nil M))) (GR.pds_cons M (GR.pd_tup M (GR.pds_cons M (GR.pd_int M) (GR.pds_cons M (GR.pd_lst M (GR.pds_cons M (GR.pd_int M) (GR.pds_nil M))) (GR.pds_nil M)))) (GR.pds_cons M (GR.pd_tup M (GR.pds_cons M (GR.pd_str M) (GR.pds_nil M))) (GR.pds_cons M (GR.pd_d1 M (fun M' => (GR.pd_int M')) (fun M' => (GR.pd_tup M' (GR.pds_cons M' (GR.pd_int M') (GR.pds_cons M' (GR.pd_int M') (GR.pds_nil M')))))) (GR.pds_nil M)))))))))).run)
      (pss_one (ps_ret (pe_ix ix_list (pv 1) (pe_call GLawTake (hr.mono (by decide)) (by rfl) T.gLawTake T.FLawTake.kp T.bLawTake .nil pass0 (pa_cons (pv 0) (pa_cons pe_int pa_nil))) (fun _ _ => rfl)))))), ?_⟩
    refine ⟨hL, .list (oddL.take 17), ?_, fun H1 v1 f1 d1 => ?_⟩
    · walk_at "rd"
    refine ⟨hL.same f1, .list oddL, ?_, fun H2 v2 f2 d2 => ?_⟩
    · refine ⟨oddL.take 17, oddL.drop 17, ⟨_, rfl, d1⟩, ?_, by decide, rfl⟩
      walk_at "rd"
    have hb2 := (hb.same f1).same f2
    refine ⟨_, rfl, _, rfl, b, 24, rfl, hb2, by decide, by decide, fun r H3 r0 r1 hb3 f3 => ?_⟩
    have fx : GR.Fx M H2 H3 := f3.fx (by rw [← eM]; rfl) hb3
    obtain ⟨p, xs, rfl, sx, dxs⟩ := GR.dt_list (d2.fx fx)
    obtain ⟨j, rfl⟩ : ∃ j : Nat, r = (j : Int) := ⟨r.toNat, by omega⟩
    have hj : j < oddL.length := by show j < 24; omega
    obtain ⟨v, ev, dv⟩ := dxs.get (List.getElem?_eq_getElem hj)
    exact ⟨p, xs, _, v, rfl, rfl, sx.sq, atI_nat ev, q _ _ _ ((GR.Fx.of (f1.trans f2)).trans fx) hb3 dv (List.getElem_mem hj)⟩

def lenB : PyData → Bool
  | .str z => decide (z.length ≤ 1000)
  | _ => true
theorem lenB_ok {y : PyData} (h : lenB y = true) : lenOk y := by
  intro z e
  subst e
  have h' : z.length ≤ 1000 := of_decide_eq_true h
  exact Nat.le_trans h' (by decide)
def atomB (d : PyData) : Bool := (PyData.canLay0 d && decide (d.depth ≤ 3)) && lenB d
theorem atomB_ok {d : PyData} (h : atomB d = true) : PyData.canLay0 d = true ∧ d.depth ≤ 3 ∧ lenB d = true := by
  unfold atomB at h
  simp only [Bool.and_eq_true, decide_eq_true_eq] at h
  exact ⟨h.1.1, h.1.2, h.2⟩
def fine (z : Str) (n : Nat) : Prop := PyData.strOk z = true ∧ z.length ≤ n
theorem fine_app {x y : Str} {n m : Nat} (hx : fine x n) (hy : fine y m) : fine (x ++ y) (n + m) := by
  refine ⟨?_, by rw [Str.length_append]; exact Nat.add_le_add hx.2 hy.2⟩
  have h1 := hx.1
  have h2 := hy.1
  unfold PyData.strOk at *
  rw [Str.cps_append, Array.all_append, h1, h2]
  rfl
theorem fine_atom {z : Str} {n : Nat} (h : fine z n) (hn : n ≤ 1000) : atomB (.str z) = true := by
  unfold atomB
  rw [show PyData.canLay0 (.str z) = true from h.1, show lenB (.str z) = true from decide_eq_true (Nat.le_trans h.2 hn)]
  rfl
def nameL (z : Str) : List PyData := [.str z, .str z, .str z, .str (z ++ "A"), .str (z ++ " "), .str (z ++ "1"), .str "", .none, .int 1, .list [.str "a"], .tuple [.str "a"], .bool true]
theorem name_atom {z : Str} (h : fine z 9) : ∀ d ∈ nameL z, atomB d = true := by
  intro d hd
  simp only [nameL, List.mem_cons, List.not_mem_nil, or_false] at hd
  have h1 := fine_atom h (by decide)
  have f1 : ∀ y : Str, fine y 1 → atomB (.str (z ++ y)) = true := fun y hy => fine_atom (fine_app h hy) (by decide)
  rcases hd with rfl | rfl | rfl | rfl | rfl | rfl | rfl | rfl | rfl | rfl | rfl | rfl
  · exact h1
  · exact h1
  · exact h1
  · exact f1 _ ⟨by decide +kernel, by decide⟩
  · exact f1 _ ⟨by decide +kernel, by decide⟩
  · exact f1 _ ⟨by decide +kernel, by decide⟩
  all_goals decide +kernel
local macro_rules | `(tactic| walk_at "rd") => `(tactic| (repeat' (first | exact rfl | assumption | exact GR.Dt.int _ | exact GR.Dt.str _ | exact GR.Dt.bl _ | exact GR.Dt.non | exact trivial | exact ⟨by decide, by decide, by decide⟩ | decide | exact (Nat.le_of_ble_eq_true rfl) | exact (show GR.keyD (Sum.inr _) = PyData.str _ from rfl) | exact (show GR.keyD (Sum.inl _) = PyData.int _ from rfl) | (intro _ _) | apply And.intro | apply Exists.intro)))
theorem okLawNameOrNot : FnOk P w K mg bs CX0 2 T.fLawNameOrNot T.dLawNameOrNot ["_law_bag_here"] (spDraw K (atomB · = true)) := by
  have GLawTake := okLawTake (P := P) (w := w) (bs := bs) T
  refine T.FLawNameOrNot.ok scLawNameOrNot (fun vs H Q E h => ?_) (fun cdv A outer s H vs Q E hr h => ?_)
  · obtain ⟨b, rfl, _⟩ := h
    rfl
  · obtain ⟨b, rfl, hb, q⟩ := h
    generalize eM : GR.onlyB b = M at q
    have hMb : M b := by rw [← eM]; rfl
    have hBL : ∀ {Hx : Hp}, GR.Bag Hx b → GR.Live M Hx := fun hx => by rw [← eM]; exact hx.live
    refine ⟨_, (pss_cons (ps_set (i := 1) scLawNameOrNot.nd rfl (Or.inl rfl) pe_str)
      (pss_cons (ps_set (i := 2) scLawNameOrNot.nd rfl (Or.inl rfl) pe_str)
      (pss_cons (ps_for PassesOwn.never rfl (pi_range1 (by rfl) T.n_range (pa_cons (pe_call GLawTake (hr.mono (by decide)) (by rfl) T.gLawTake T.FLawTake.kp T.bLawTake .nil pass0 (pa_cons (pv 0) (pa_cons pe_int pa_nil))) pa_nil)) (pg_name (i := 3) scLawNameOrNot.nd rfl (Or.inl rfl))
      (pss_one (ps_set (i := 2) scLawNameOrNot.nd rfl (Or.inl rfl) (pe_op op_add_str (pv 2) (pe_ix ix_str (pv 1) (pe_call GLawTake (hr.mono (by decide)) (by rfl) T.gLawTake T.FLawTake.kp T.bLawTake .nil pass0 (pa_cons (pv 0) (pa_cons pe_int pa_nil))) (fun _ _ => rfl))))))
      (pss_cons (ps_set (i := 4) scLawNameOrNot.nd rfl (Or.inl rfl) (GR.pd_lst M (GR.pds_cons M (GR.pd_var M 2) (GR.pds_cons M (GR.pd_var M 2) (GR.pds_cons M (GR.pd_var M 2) (GR.pds_cons M (GR.pd_addS M (GR.pd_var M 2) (GR.pd_str M)) (GR.pds_cons M (GR.pd_addS M (GR.pd_var M 2) (GR.pd_str M)) (GR.pds_cons M (GR.pd_addS M (GR.pd_var M 2) (GR.pd_str M)) (GR.pds_cons M (GR.pd_str M) (GR.pds_cons M (GR.pd_non M) (GR.pds_cons M (GR.pd_int M) (GR.pds_cons M (GR.pd_lst M (GR.pds_cons M (GR.pd_str M) (GR.pds_nil M))) (GR.pds_cons M (GR.pd_tup M (GR.pds_cons M (GR.pd_str M) (GR.pds_nil M))) (GR.pds_cons M (GR.pd_bl M) (GR.pds_nil M)))))))))))))).run)
      (pss_one (ps_ret (pe_ix ix_list (pv 4) (pe_call GLawTake (hr.mono (by decide)) (by rfl) T.gLawTake T.FLawTake.kp T.bLawTake .nil pass0 (pa_cons (pv 0) (pa_cons pe_int pa_nil))) (fun _ _ => rfl)))))))), ?_⟩
    refine ⟨_, rfl, b, _, rfl, hb, by decide, by decide, fun r H1 r0 r1 hb1 f1 => ?_⟩
    refine ⟨r, rfl, by omega, by omega, ?_⟩
    obtain ⟨k, rfl⟩ : ∃ k : Nat, r = (k : Int) := ⟨r.toNat, by omega⟩
    refine for_range (lo := 0) (n := ((k : Nat) : Int).toNat) (fun i σ H2 => ∃ w3 w4 z, σ = [some (.ref b), some (.str "abcxyz"), some (.str z), w3, w4] ∧ fine z i ∧ GR.Bag H2 b ∧ GR.Fx M H H2) ⟨_, _, _, rfl, ⟨by decide +kernel, by decide⟩, hb1, f1.fx hMb hb1⟩ ?_ ?_
    · rintro i σ H2 hi ⟨w3, w4, z, rfl, hz, hb2, f2⟩
      rw [Int.toNat_natCast] at hi
      refine ⟨_, rfl, _, rfl, _, rfl, b, _, rfl, hb2, by decide, by decide, fun r H3 r0 r1 hb3 f3 => ?_⟩
      obtain ⟨j, rfl⟩ : ∃ j : Nat, r = (j : Int) := ⟨r.toNat, by omega⟩
      have hj : j < ("abcxyz" : Str).cps.toList.length := by show j < 6; omega
      have hc : fine ⟨#[("abcxyz" : Str).cps.toList[j]]⟩ 1 := by
        refine ⟨?_, by show 1 ≤ 1; decide⟩
        have := List.all_eq_true.mp (show (("abcxyz" : Str).cps.toList.all fun c => decide (c < 0x110000)) = true by decide +kernel) _ (List.getElem_mem hj)
        unfold PyData.strOk
        simpa using this
      refine ⟨_, _, _, rfl, rfl, by decide, atI_nat (List.getElem?_eq_getElem hj), z, _, rfl, rfl, ?_, _, _, _, rfl, fine_app hz hc, hb3, f2.trans (f3.fx hMb hb3)⟩
      have := hz.2
      have e1 : Str.length ⟨#[("abcxyz" : Str).cps.toList[j]]⟩ = 1 := rfl
      rw [e1]
      exact Nat.le_trans (show z.length + 1 ≤ 100 by omega) (by decide)
    · rintro σ H2 ⟨w3, w4, z, rfl, hz, hb2, f2⟩
      have hz9 : fine z 9 := ⟨hz.1, by have := hz.2; rw [Int.toNat_natCast] at this; omega⟩
      have hL2 := hBL hb2
      have hzl : z.length + 1 ≤ sizeLine := Nat.le_trans (show z.length + 1 ≤ 10 by have := hz9.2; omega) (by decide)
      refine ⟨hL2, .list (nameL z), ?_, fun H3 v3 f3 d3 => ?_⟩
      · have k1 : z.length + Str.length "A" ≤ sizeLine := hzl
        have k2 : z.length + Str.length " " ≤ sizeLine := hzl
        have k3 : z.length + Str.length "1" ≤ sizeLine := hzl
        walk_at "rd"
      have hb3 := hb2.same f3
      refine ⟨_, rfl, _, rfl, b, 12, rfl, hb3, by decide, by decide, fun r H4 r0 r1 hb4 f4 => ?_⟩
      have fx : GR.Fx M H3 H4 := f4.fx hMb hb4
      obtain ⟨p, xs, rfl, sx, dxs⟩ := GR.dt_list (d3.fx fx)
      obtain ⟨j, rfl⟩ : ∃ j : Nat, r = (j : Int) := ⟨r.toNat, by omega⟩
      have hj : j < (nameL z).length := by show j < 12; omega
      obtain ⟨v, ev, dv⟩ := dxs.get (List.getElem?_eq_getElem hj)
      exact ⟨p, xs, _, v, rfl, rfl, sx.sq, atI_nat ev, q _ _ _ ((f2.trans (GR.Fx.of f3)).trans fx) hb4 dv (name_atom hz9 _ (List.getElem_mem hj))⟩

def numL (f : Int) : List PyData := [.int f, .int (0 - f), .int 1000000000, .int (0 - 1000000000), .int (1000000000 + 1), .int (-1 - 1000000000), .int 0, .bool true, .bool false, .none, .str "1", .list [.int 1], .int (10 ^ 39)]
theorem num_atom (f : Int) : ∀ d ∈ numL f, atomB d = true := by
  intro d hd
  simp only [numL, List.mem_cons, List.not_mem_nil, or_false] at hd
  rcases hd with rfl | rfl | rfl | rfl | rfl | rfl | rfl | rfl | rfl | rfl | rfl | rfl | rfl
  · rfl
  · rfl
  all_goals decide +kernel
theorem okLawNumberOrNot : FnOk P w K mg bs CX0 2 T.fLawNumberOrNot T.dLawNumberOrNot ["_law_bag_here"] (spDraw K (atomB · = true)) := by
  have GLawTake := okLawTake (P := P) (w := w) (bs := bs) T
  refine T.FLawNumberOrNot.ok scLawNumberOrNot (fun vs H Q E h => ?_) (fun cdv A outer s H vs Q E hr h => ?_)
  · obtain ⟨b, rfl, _⟩ := h
    rfl
  · obtain ⟨b, rfl, hb, q⟩ := h
    generalize eM : GR.onlyB b = M at q
    have hMb : M b := by rw [← eM]; rfl
    have hBL : ∀ {Hx : Hp}, GR.Bag Hx b → GR.Live M Hx := fun hx => by rw [← eM]; exact hx.live
    refine ⟨_, (pss_cons (ps_set (i := 1) scLawNumberOrNot.nd rfl (Or.inl rfl) (pe_call GLawTake (hr.mono (by decide)) (by rfl) T.gLawTake T.FLawTake.kp T.bLawTake .nil pass0 (pa_cons (pv 0) (pa_cons (pe_op op_add (pe_op op_pow pe_int pe_int) pe_int) pa_nil))))
      (pss_cons (ps_set (i := 2) scLawNumberOrNot.nd rfl (Or.inl rfl) (GR.pd_lst M (GR.pds_cons M (GR.pd_var M 1) (GR.pds_cons M (GR.pd_op0 M op_sub (GR.pd_int M) (GR.pd_var M 1)) (GR.pds_cons M (GR.pd_op M op_pow (GR.pd_int M) (GR.pd_int M)) (GR.pds_cons M (GR.pd_op0 M op_sub (GR.pd_int M) (GR.pd_op M op_pow (GR.pd_int M) (GR.pd_int M))) (GR.pds_cons M (GR.pd_op0 M op_add (GR.pd_op M op_pow (GR.pd_int M) (GR.pd_int M)) (GR.pd_int M)) (GR.pds_cons M (GR.pd_op0 M op_sub (GR.pd_neg M (GR.pd_int M)) (GR.pd_op M op_pow (GR.pd_int M) (GR.pd_int M))) (GR.pds_cons M (GR.pd_int M) (GR.pds_cons M (GR.pd_bl M) (GR.pds_cons M (GR.pd_bl M) (GR.pds_cons M (GR.pd_non M) (GR.pds_cons M (GR.pd_str M) (GR.pds_cons M (GR.pd_lst M (GR.pds_cons M (GR.pd_int M) (GR.pds_nil M))) (GR.pds_cons M (GR.pd_op M op_pow (GR.pd_int M) (GR.pd_int M)) (GR.pds_nil M))))))))))))))).run)
      (pss_one (ps_ret (pe_ix ix_list (pv 2) (pe_call GLawTake (hr.mono (by decide)) (by rfl) T.gLawTake T.FLawTake.kp T.bLawTake .nil pass0 (pa_cons (pv 0) (pa_cons pe_int pa_nil))) (fun _ _ => rfl)))))), ?_⟩
    refine ⟨_, rfl, _, _, rfl, rfl, ⟨by decide, by decide, by decide⟩, _, _, rfl, rfl, b, _, rfl, hb, by decide, by decide, fun r H1 r0 r1 hb1 f1 => ?_⟩
    refine ⟨hBL hb1, .list (numL r), ?_, fun H3 v3 f3 d3 => ?_⟩
    · walk_at "rd"
    have hb3 := hb1.same f3
    refine ⟨_, rfl, _, rfl, b, 13, rfl, hb3, by decide, by decide, fun r' H4 r0 r1 hb4 f4 => ?_⟩
    have fx : GR.Fx M H3 H4 := f4.fx hMb hb4
    obtain ⟨p, xs, rfl, sx, dxs⟩ := GR.dt_list (d3.fx fx)
    obtain ⟨j, rfl⟩ : ∃ j : Nat, r' = (j : Int) := ⟨r'.toNat, by omega⟩
    have hj : j < (numL r).length := by show j < 13; omega
    obtain ⟨v, ev, dv⟩ := dxs.get (List.getElem?_eq_getElem hj)
    exact ⟨p, xs, _, v, rfl, rfl, sx.sq, atI_nat ev, q _ _ _ (((f1.fx hMb hb1).trans (GR.Fx.of f3)).trans fx) hb4 dv (num_atom r _ (List.getElem_mem hj))⟩

def preB : PyData → Bool
  | .tuple ds => SeqAt.shaped (.tuple ds) && ds.all lenB
  | _ => true
theorem preB_ok {x : PyData} (h : preB x = true) : (GR.isT x = true → SeqAt.shaped x = true) ∧ (∀ ds, x = .tuple ds → ∀ y ∈ ds, lenOk y) := by
  refine ⟨fun e => ?_, fun ds e y hy => ?_⟩
  · cases x with
    | tuple ds => exact (Bool.and_eq_true_iff.mp h).1
    | _ => exact absurd e Bool.false_ne_true
  · subst e
    exact lenB_ok (List.all_eq_true.mp (Bool.and_eq_true_iff.mp h).2 y hy)
theorem pre_tuple : ∀ ds : List PyData, ds.length ≤ 3 → (∀ y ∈ ds, atomB y = true) → preB (.tuple ds) = true := by
  intro ds _ h
  have hc : ∀ ds : List PyData, (∀ y ∈ ds, atomB y = true) → PyData.canLayAll0 ds = true ∧ PyData.depthAll ds ≤ 3 ∧ ds.all lenB = true := by
    intro ds
    induction ds with
    | nil => intro _; exact ⟨rfl, by decide, rfl⟩
    | cons d ds ih =>
      intro h
      obtain ⟨h1, h2, h3⟩ := atomB_ok (h d (by simp))
      obtain ⟨i1, i2, i3⟩ := ih (fun y hy => h y (by simp [hy]))
      refine ⟨by simp only [PyData.canLayAll0, h1, i1, Bool.and_self], ?_, by simp only [List.all_cons, h3, i3, Bool.and_self]⟩
      simp only [PyData.depthAll]
      omega
  obtain ⟨h1, h2, h3⟩ := hc ds h
  show (SeqAt.shaped (.tuple ds) && ds.all lenB) = true
  unfold SeqAt.shaped
  have h4 : PyData.depth (.tuple ds) ≤ 64 := by
    simp only [PyData.depth]
    omega
  rw [show PyData.canLay0 (.tuple ds) = true from h1, decide_eq_true h4, h3]
  rfl
def wordL : List PyData := [.str "get", .str "add", .str "boxes", .str "take", .str "clear", .str "give", .str "make", .str "clone", .str "copy", .str "Get", .str "", .str "adds", .none, .int 3]
def threeL (w x y : PyData) : List PyData := [.tuple [w], .tuple [w, x], .tuple [w, y]]
def eightL (w x y : PyData) : List PyData := [.tuple [w], .tuple [w, x], .tuple [w, y], .tuple [w, x, x], .list [w, x], .list [w], .tuple [w, x], .tuple [w, y]]
theorem eight_pre {w x y : PyData} (hw : atomB w = true) (hx : atomB x = true) (hy : atomB y = true) : ∀ d ∈ eightL w x y, preB d = true := by
  intro d hd
  simp only [eightL, List.mem_cons, List.not_mem_nil, or_false] at hd
  rcases hd with rfl | rfl | rfl | rfl | rfl | rfl | rfl | rfl
  all_goals first
    | rfl
    | (refine pre_tuple _ (by simp) fun z hz => ?_
       simp only [List.mem_cons, List.not_mem_nil, or_false] at hz
       rcases hz with rfl | rfl | rfl <;> assumption)
    | (refine pre_tuple _ (by simp) fun z hz => ?_
       simp only [List.mem_cons, List.not_mem_nil, or_false] at hz
       rcases hz with rfl | rfl <;> assumption)
    | (refine pre_tuple _ (by simp) fun z hz => ?_
       simp only [List.mem_cons, List.not_mem_nil, or_false] at hz
       rcases hz with rfl <;> assumption)
theorem odd_pre : ∀ d ∈ oddL, preB d = true := fun d hd => List.all_eq_true.mp (show oddL.all preB = true by decide +kernel) d hd
theorem okLawValue : FnOk P w K mg bs CX0 3 T.fLawValue T.dLawValue ["_law_bag_here"] (spDraw K (preB · = true)) := by
  have GLawTake := okLawTake (P := P) (w := w) (bs := bs) T
  have GLawOdd := okLawOdd (P := P) (w := w) (bs := bs) T
  have GLawNameOrNot := okLawNameOrNot (P := P) (w := w) (bs := bs) T
  have GLawNumberOrNot := okLawNumberOrNot (P := P) (w := w) (bs := bs) T
  refine T.FLawValue.ok scLawValue (fun vs H Q E h => ?_) (fun cdv A outer s H vs Q E hr h => ?_)
  · obtain ⟨b, rfl, _⟩ := h
    rfl
  · obtain ⟨b, rfl, hb, q⟩ := h
    generalize eM : GR.onlyB b = M at q
    have hMb : M b := by rw [← eM]; rfl
    have hBL : ∀ {Hx : Hp}, GR.Bag Hx b → GR.Live M Hx := fun hx => by rw [← eM]; exact hx.live
    refine ⟨_, (pss_cons (ps_set (i := 1) scLawValue.nd rfl (Or.inl rfl) (GR.pd_lst M (GR.pds_cons M (GR.pd_str M) (GR.pds_cons M (GR.pd_str M) (GR.pds_cons M (GR.pd_str M) (GR.pds_cons M (GR.pd_str M) (GR.pds_cons M (GR.pd_str M) (GR.pds_cons M (GR.pd_str M) (GR.pds_cons M (GR.pd_str M) (GR.pds_cons M (GR.pd_str M) (GR.pds_cons M (GR.pd_str M) (GR.pds_cons M (GR.pd_str M) (GR.pds_cons M (GR.pd_str M) (GR.pds_cons M (GR.pd_str M) (GR.pds_cons M (GR.pd_non M) (GR.pds_cons M (GR.pd_int M) (GR.pds_nil M)))))))))))))))).run)
      (pss_cons (ps_par (i := 2) (j := 3) (by rfl) scLawValue.nd rfl rfl (by decide) rfl rfl (pa_cons (pe_ix ix_list (pv 1) (pe_call GLawTake (hr.mono (by decide)) (by rfl) T.gLawTake T.FLawTake.kp T.bLawTake .nil pass0 (pa_cons (pv 0) (pa_cons pe_int pa_nil))) (fun _ _ => rfl)) (pa_cons (pe_call GLawTake (hr.mono (by decide)) (by rfl) T.gLawTake T.FLawTake.kp T.bLawTake .nil pass0 (pa_cons (pv 0) (pa_cons pe_int pa_nil))) pa_nil)) (by rfl))
      (pss_cons (ps_par (i := 4) (j := 5) (by rfl) scLawValue.nd rfl rfl (by decide) rfl rfl (pa_cons (pe_call GLawNameOrNot (hr.mono (by decide)) (by rfl) T.gLawNameOrNot T.FLawNameOrNot.kp T.bLawNameOrNot .nil pass0 (pa_cons (pv 0) pa_nil)) (pa_cons (pe_call GLawNumberOrNot (hr.mono (by decide)) (by rfl) T.gLawNumberOrNot T.FLawNumberOrNot.kp T.bLawNumberOrNot .nil pass0 (pa_cons (pv 0) pa_nil)) pa_nil)) (by rfl))
      (pss_cons (ps_set (i := 6) scLawValue.nd rfl (Or.inl rfl) (GR.pd_lst M (GR.pds_cons M (GR.pd_tup M (GR.pds_cons M (GR.pd_var M 2) (GR.pds_nil M))) (GR.pds_cons M (GR.pd_tup M (GR.pds_cons M (GR.pd_var M 2) (GR.pds_cons M (GR.pd_var M 4) (GR.pds_nil M)))) (GR.pds_cons M (GR.pd_tup M (GR.pds_cons M (GR.pd_var M 2) (GR.pds_cons M (GR.pd_var M 5) (GR.pds_nil M)))) (GR.pds_cons M (GR.pd_tup M (GR.pds_cons M (GR.pd_var M 2) (GR.pds_cons M (GR.pd_var M 4) (GR.pds_cons M (GR.pd_var M 4) (GR.pds_nil M))))) (GR.pds_cons M (GR.pd_lst M (GR.pds_cons M (GR.pd_var M 2) (GR.pds_cons M (GR.pd_var M 4) (GR.pds_nil M)))) (GR.pds_cons M (GR.pd_lst M (GR.pds_cons M (GR.pd_var M 2) (GR.pds_nil M))) (GR.pds_cons M (GR.pd_tup M (GR.pds_cons M (GR.pd_var M 2) (GR.pds_cons M (GR.pd_var M 4) (GR.pds_nil M)))) (GR.pds_cons M (GR.pd_tup M (GR.pds_cons M (GR.pd_var M 2) (GR.pds_cons M (GR.pd_var M 5) (GR.pds_nil M)))) (GR.pds_nil M)))))))))).run)
      (pss_cons (ps_if (GR.pb_cmp M op_lt (GR.pd_var M 3) (GR.pd_int M)).run (pss_cons (ps_set (i := 6) scLawValue.nd rfl (Or.inl rfl) (GR.pd_lst M (GR.pds_cons M (GR.pd_tup M (GR.pds_cons M (GR.pd_var M 2) (GR.pds_nil M))) (GR.pds_cons M (GR.pd_tup M (GR.pds_cons M (GR.pd_var M 2) (GR.pds_cons M (GR.pd_var M 4) (GR.pds_nil M)))) (GR.pds_cons M (GR.pd_tup M (GR.pds_cons M (GR.pd_var M 2) (GR.pds_cons M (GR.pd_var M 5) (GR.pds_nil M)))) (GR.pds_nil M))))).run)
      (pss_cons (ps_if (GR.pb_inL M hr (GR.pd_var M 2) (GR.pd_lst M (GR.pds_cons M (GR.pd_str M) (GR.pds_cons M (GR.pd_str M) (GR.pds_cons M (GR.pd_str M) (GR.pds_cons M (GR.pd_str M) (GR.pds_nil M))))))).run (pss_one (ps_ret (GR.pd_ixL M (GR.pd_var M 6) (GR.pd_int M)).run)) pss_nil)
      (pss_one (ps_ret (GR.pd_if M (GR.pb_eq M hr (GR.pd_var M 2) (GR.pd_str M)) (GR.pd_ixL M (GR.pd_var M 6) (GR.pd_int M)) (GR.pd_ixL M (GR.pd_var M 6) (GR.pd_int M))).run)))) pss_nil)
      (pss_one (ps_ret (GR.pe_cut (pe_ifExp (pt_cmpR op_gt (pe_call GLawTake (hr.mono (by decide)) (by rfl) T.gLawTake T.FLawTake.kp T.bLawTake .nil pass0 (pa_cons (pv 0) (pa_cons pe_int pa_nil))) pe_int (nomark _)) (pe_ix ix_list (pv 6) (pe_call GLawTake (hr.mono (by decide)) (by rfl) T.gLawTake T.FLawTake.kp T.bLawTake .nil pass0 (pa_cons (pv 0) (pa_cons pe_int pa_nil))) (fun _ _ => rfl)) (pe_call GLawOdd (hr.mono (by decide)) (by rfl) T.gLawOdd T.FLawOdd.kp T.bLawOdd .nil pass0 (pa_cons (pv 0) pa_nil))))))))))), ?_⟩
    refine ⟨hBL hb, .list wordL, ?_, fun H1 v1 f1 d1 => ?_⟩
    · walk_at "rd"
    have hb1 := hb.same f1
    refine ⟨_, rfl, _, rfl, b, 14, rfl, hb1, by decide, by decide, fun r H2 r0 r1 hb2 f2 => ?_⟩
    have fx2 : GR.Fx M H1 H2 := f2.fx hMb hb2
    obtain ⟨p, xs, rfl, sx, dxs⟩ := GR.dt_list (d1.fx fx2)
    obtain ⟨j, rfl⟩ : ∃ j : Nat, r = (j : Int) := ⟨r.toNat, by omega⟩
    have hj : j < wordL.length := by show j < 14; omega
    obtain ⟨v, ev, dv⟩ := dxs.get (List.getElem?_eq_getElem hj)
    have hw : atomB wordL[j] = true := List.all_eq_true.mp (show wordL.all atomB = true by decide +kernel) _ (List.getElem_mem hj)
    generalize wordL[j] = wd at dv hw
    refine ⟨p, xs, _, v, rfl, rfl, sx.sq, atI_nat ev, _, rfl, b, 8, rfl, hb2, by decide, by decide, fun r2 H3 r20 r21 hb3 f3 => ?_⟩
    have fx3 : GR.Fx M H2 H3 := f3.fx hMb hb3
    have dv3 := dv.fx fx3
    refine ⟨_, _, rfl, ?_⟩
    refine ⟨_, rfl, b, rfl, hb3, fun H4 vx x fx4 hb4 dx4 hx => ⟨_, rfl, b, rfl, hb4, fun H5 vy y fx5 hb5 dy hy => ⟨_, _, rfl, ?_⟩⟩⟩
    rw [eM] at fx4 fx5 dx4 dy
    have dw5 := (dv3.fx fx4).fx fx5
    have dx := dx4.fx fx5
    have fx05 : GR.Fx M H H5 := ((((GR.Fx.of f1).trans fx2).trans fx3).trans fx4).trans fx5
    clear dx4 dv3 dv fx2 fx3 fx4 fx5 d1 ev dxs sx
    refine ⟨hBL hb5, .list (eightL wd x y), ?_, fun H6 v6 f6 d6 => ?_⟩
    · walk_at "rd"
    have hb6 := hb5.same f6
    have dw6 := dw5.sm f6
    have dx6 := dx.sm f6
    have dy6 := dy.sm f6
    refine ⟨hBL hb6, decide (r2 < 5), ?_, fun H7 f7 => ?_⟩
    · exact ⟨_, _, ⟨_, rfl, .int _⟩, rfl, trivial, rfl⟩
    have hb7 := hb6.same f7
    have fx07 : GR.Fx M H H7 := (fx05.trans (.of f6)).trans (.of f7)
    have mem8 := eight_pre hw hx hy
    cases decide (r2 < 5) with
    | true =>
      refine iteT ?_
      have dw7 := dw6.sm f7
      have dx7 := dx6.sm f7
      have dy7 := dy6.sm f7
      refine ⟨hBL hb7, .list (threeL wd x y), ?_, fun H8 v8 f8 d8 => ?_⟩
      · walk_at "rd"
      have hb8 := hb7.same f8
      have shW : SeqAt.shaped wd = true := by
        obtain ⟨h1, h2, _⟩ := atomB_ok hw
        unfold SeqAt.shaped
        rw [h1, decide_eq_true (show wd.depth ≤ 64 by omega)]
        rfl
      have rW : ∀ {Hx : Hp}, Same H8 Hx → GR.rVar M K 2 [some (.ref b), some (.ref p), some v, some (.int r2), some vx, some vy, some v8] Hx wd := fun s => ⟨_, rfl, (dw7.sm f8).sm s⟩
      refine ⟨hBL hb8, _, ⟨_, bareL, rW (Same.refl H8), ⟨_, ⟨_, _, rfl, ⟨_, _, rfl, ⟨_, _, rfl, ⟨_, _, rfl, rfl, rfl⟩, rfl⟩, rfl⟩, rfl⟩, by decide, rfl⟩, shW, by decide +kernel, rfl⟩, fun H9 f9 => ?_⟩
      have hb9 := hb8.same f9
      have fx09 : GR.Fx M H H9 := (fx07.trans (.of f8)).trans (.of f9)
      have fin : ∀ (j : Nat) (d : PyData) (H10 : Hp) (u : V), (eightL wd x y)[j]? = some d → Same H9 H10 → GR.Dt M K H10 u d → Q u H10 := fun j d H10 u e s10 du => q _ _ _ (fx09.trans (.of s10)) (hb9.same s10) du (mem8 _ (List.mem_of_getElem? e))
      have dS : ∀ {Hx : Hp}, Same H9 Hx → GR.rVar M K 6 [some (.ref b), some (.ref p), some v, some (.int r2), some vx, some vy, some v8] Hx (.list (threeL wd x y)) := fun s => ⟨_, rfl, (d8.sm f9).sm s⟩
      refine ite2 (fun e => ?_) (fun e => ?_)
      · exact ⟨hBL hb9, _, ⟨_, 0, dS (Same.refl H9), rfl, atI_nat (j := 0) rfl⟩, fun H10 u f10 du => fin 0 _ _ _ rfl f10 du⟩
      · refine ⟨hBL hb9, if PyData.eqv wd (.str "add") = true then .tuple [wd, y] else .tuple [wd, x], ⟨PyData.eqv wd (.str "add"), ⟨_, _, rW f9, rfl, shW, by decide +kernel, rfl⟩, ?_⟩, fun H10 u f10 du => ?_⟩
        · cases PyData.eqv wd (.str "add") with
          | true => exact iteT ⟨_, 2, dS (Same.refl H9), rfl, atI_nat (j := 2) rfl⟩
          | false => exact iteF ⟨_, 1, dS (Same.refl H9), rfl, atI_nat (j := 1) rfl⟩
        · cases e : PyData.eqv wd (.str "add") with
          | true => exact fin 2 _ _ _ rfl f10 (by rw [e] at du; exact du)
          | false => exact fin 1 _ _ _ rfl f10 (by rw [e] at du; exact du)
    | false =>
      refine iteF ?_
      refine ⟨Q, ?_, fun _ _ h => h⟩
      refine ⟨_, rfl, b, 4, rfl, hb7, by decide, by decide, fun r4 H8 r40 r41 hb8 f8 => ⟨_, _, rfl, rfl, _, rfl, ?_⟩⟩
      have fx08 : GR.Fx M H7 H8 := f8.fx hMb hb8
      refine ite2 (fun e => ?_) (fun e => ?_)
      · refine ⟨_, rfl, _, rfl, b, 8, rfl, hb8, by decide, by decide, fun r5 H9 r50 r51 hb9 f9 => ?_⟩
        have fx9 : GR.Fx M H8 H9 := f9.fx hMb hb9
        obtain ⟨p8, xs8, rfl, sx8, dxs8⟩ := GR.dt_list (((d6.sm f7).fx fx08).fx fx9)
        obtain ⟨j8, rfl⟩ : ∃ j : Nat, r5 = (j : Int) := ⟨r5.toNat, by omega⟩
        have hj8 : j8 < (eightL wd x y).length := by show j8 < 8; omega
        obtain ⟨v8, ev8, dv8⟩ := dxs8.get (List.getElem?_eq_getElem hj8)
        exact ⟨p8, xs8, _, v8, rfl, rfl, sx8.sq, atI_nat ev8, q _ _ _ ((fx07.trans fx08).trans fx9) hb9 dv8 (mem8 _ (List.getElem_mem hj8))⟩
      · exact ⟨_, rfl, b, rfl, hb8, fun H9 u d f9 hb9 du hd => by rw [eM] at f9 du; exact q _ _ _ ((fx07.trans fx08).trans f9) hb9 du (odd_pre d hd)⟩

def spLaw (K : PySem.W.Frag) : Sp := fun vs H Q _ => ∃ (a : Addr) (ns : List Int), vs = [.ref a] ∧ SqL K H a (ns.map V.int) ∧ ns.length ≤ 63 ∧
  (∀ z ∈ ns, Builtin.Int.intBits z ≤ 1048576) ∧ ∀ H', Q (.bl true) H'
theorem few (n : Nat) : ∃ k : Nat, k ≤ 6 ∧ (if (if ((n : Nat) : Int) < 6 then ((n : Nat) : Int) else 6) > 2 then (if ((n : Nat) : Int) < 6 then ((n : Nat) : Int) else 6) else 2) = (k : Int) := by
  by_cases h : ((n : Nat) : Int) < 6
  · rw [if_pos h]
    by_cases h2 : ((n : Nat) : Int) > 2
    · rw [if_pos h2]
      exact ⟨n, by omega, rfl⟩
    · rw [if_neg h2]
      exact ⟨2, by decide, rfl⟩
  · rw [if_neg h]
    exact ⟨6, by decide, rfl⟩

theorem deed_str {d : PyData} (h : isDeedD d = true) : ∃ ws rest, d = .tuple (.str ws :: rest) := by
  unfold isDeedD at h
  split at h
  · rename_i wd rest
    cases wd with
    | str ws => exact ⟨ws, rest, rfl⟩
    | _ => exact absurd h Bool.false_ne_true
  · exact absurd h Bool.false_ne_true
theorem bool_ok (x : Bool) : GR.ReprOk (.bool x) := by cases x <;> exact reprB_ok (by decide +kernel)
include T in
theorem okLaw {f : Addr} {fd : FuncData} (F : Fun K "law" "law" sLaw f fd) : GR.FnG P w K mg bs CX0 9 f fd ["_law_script"] (spLaw K) := by
  have GLawBag := okLawBag (P := P) (w := w) (bs := bs) T
  have GLawTake := okLawTake (P := P) (w := w) (bs := bs) T
  have GLawValue := okLawValue (P := P) (w := w) (bs := bs) T
  have GLawDue := okLawDue (P := P) (w := w) (bs := bs) T
  have GIsDeed := okIsDeed (P := P) (w := w) (bs := bs) T
  have GTakesGift := okTakesGift (P := P) (w := w) (bs := bs) T
  have GTakesTarget := okTakesTarget (P := P) (w := w) (bs := bs) T
  refine GR.okG F scLaw (fun vs H Q E h => ?_) (fun cdv A outer s H vs Q E gd hr h => ?_)
  · obtain ⟨a, ns, rfl, _⟩ := h
    rfl
  · obtain ⟨a, ns, rfl, hS, hlen, hbits, q⟩ := h
    refine ⟨_, (pss_cons (ps_for PassesOwn.never rfl (pi_range1 (by rfl) T.n_range (pa_cons (pe_callB (call_max2 rfl) (by rfl) T.n_max (by decide +kernel) (pa_cons pe_int (pa_cons (pe_callB (call_min2 rfl) (by rfl) T.n_min (by decide +kernel) (pa_cons pe_int (pa_cons (pe_callB call_len_seq (by rfl) T.n_len PySem.boot_len (pa_cons (pv 0) pa_nil)) pa_nil))) pa_nil))) pa_nil)) (pg_name (i := 1) scLaw.nd rfl (Or.inl rfl))
      (pss_cons (ps_set (i := 2) scLaw.nd rfl (Or.inl rfl) (pe_call GLawBag (hr.mono (by decide)) (by rfl) T.gLawBag T.FLawBag.kp T.bLawBag .nil pass0 (pa_cons (pv 0) (pa_cons (pv 1) pa_nil))))
      (pss_one (ps_for PassesOwn.never rfl (pi_range1 (by rfl) T.n_range (pa_cons pe_int pa_nil)) (pg_name (i := 3) scLaw.nd rfl (Or.inl rfl))
      (pss_cons (ps_set (i := 4) scLaw.nd rfl (Or.inl rfl) (pe_call GLawValue (hr.mono (by decide)) (by rfl) T.gLawValue T.FLawValue.kp T.bLawValue .nil pass0 (pa_cons (pv 2) pa_nil)))
      (pss_cons (ps_set (i := 5) scLaw.nd rfl (Or.inl rfl) (GR.pe_ex (r := fun M => (GR.rCallD _ (GR.rConsD (GR.rVar M K 4) GR.rNilD))) (fun M => (GR.pd_call M GLawDue (hr.mono (by decide)) T.gLawDue T.FLawDue.kp T.bLawDue (GR.pds_cons M (GR.pd_var M 4) (GR.pds_nil M))))))
      (pss_one (ps_for PassesOwn.never rfl (pi_range1 (by rfl) T.n_range (pa_cons pe_int pa_nil)) (pg_name (i := 6) scLaw.nd rfl (Or.inl rfl))
      (pss_cons (ps_if (pt_cmpR op_ne (pe_callB (GR.call_reprX hr gd) (by rfl) T.n_repr (by decide +kernel) (pa_cons (GR.pe_ex (r := fun M => (GR.rCallD _ (GR.rConsD (GR.rVar M K 4) GR.rNilD))) (fun M => (GR.pd_call M GIsDeed (hr.mono (by decide)) T.gIsDeed T.FIsDeed.kp T.bIsDeed (GR.pds_cons M (GR.pd_var M 4) (GR.pds_nil M))))) pa_nil)) (pe_callB (GR.call_reprX hr gd) (by rfl) T.n_repr (by decide +kernel) (pa_cons (pv 5) pa_nil)) (nomark _)) (pss_one (ps_ret pe_bl)) pss_nil)
      (pss_cons (ps_if (PW.pt (pw_and (pt_val (pv 5)) (pw_and1 (pt_cmpR op_ne (pe_callB (GR.call_reprX hr gd) (by rfl) T.n_repr (by decide +kernel) (pa_cons (GR.pe_ex (r := fun M => (GR.rCallD _ (GR.rConsD (GR.rVar M K 4) GR.rNilD))) (fun M => (GR.pd_call M GTakesGift (hr.mono (by decide)) T.gTakesGift T.FTakesGift.kp T.bTakesGift (GR.pds_cons M (GR.pd_var M 4) (GR.pds_nil M))))) pa_nil)) (pe_callB (GR.call_reprX hr gd) (by rfl) T.n_repr (by decide +kernel) (pa_cons (GR.pe_ex (r := fun M => (GR.rEqv false (GR.rIxTD (GR.rVar M K 4) (fun _ _ d => d = PyData.int (0))) (fun _ _ d => d = PyData.str "take"))) (fun M => (GR.pd_eq M hr (GR.pd_ixT M (GR.pd_var M 4) (GR.pd_int M)) (GR.pd_str M)))) pa_nil)) (nomark _))))) (pss_one (ps_ret pe_bl)) pss_nil)
      (pss_one (ps_if (PW.pt (pw_and (pt_val (pv 5)) (pw_and1 (pt_cmpR op_ne (pe_callB (GR.call_reprX hr gd) (by rfl) T.n_repr (by decide +kernel) (pa_cons (GR.pe_ex (r := fun M => (GR.rCallD _ (GR.rConsD (GR.rVar M K 4) GR.rNilD))) (fun M => (GR.pd_call M GTakesTarget (hr.mono (by decide)) T.gTakesTarget T.FTakesTarget.kp T.bTakesTarget (GR.pds_cons M (GR.pd_var M 4) (GR.pds_nil M))))) pa_nil)) (pe_callB (GR.call_reprX hr gd) (by rfl) T.n_repr (by decide +kernel) (pa_cons (GR.pe_ex (r := fun M => (GR.rInLD false (GR.rIxTD (GR.rVar M K 4) (fun _ _ d => d = PyData.int (0))) (GR.rLstD (GR.rConsD (fun _ _ d => d = PyData.str "give") (GR.rConsD (fun _ _ d => d = PyData.str "make") (GR.rConsD (fun _ _ d => d = PyData.str "clone") GR.rNilD)))))) (fun M => (GR.pd_inL M hr (GR.pd_ixT M (GR.pd_var M 4) (GR.pd_int M)) (GR.pd_lst M (GR.pds_cons M (GR.pd_str M) (GR.pds_cons M (GR.pd_str M) (GR.pds_cons M (GR.pd_str M) (GR.pds_nil M)))))))) pa_nil)) (nomark _))))) (pss_one (ps_ret pe_bl)) pss_nil))))))))))))
      (pss_one (ps_ret pe_bl))), ?_⟩
    refine ⟨_, rfl, a, _, rfl, .inl hS, _, _, rfl, _, _, rfl, ?_⟩
    obtain ⟨k, hk, ek⟩ := few (ns.map V.int).length
    refine ⟨(k : Int), congrArg (fun z => [V.int z]) ek, by omega, by omega, ?_⟩
    refine for_range (lo := 0) (n := ((k : Nat) : Int).toNat) (fun i σ H1 => ∃ v1 v2 v3 v4 v5 v6, σ = [some (.ref a), v1, v2, v3, v4, v5, v6] ∧ Same H H1) ⟨_, _, _, _, _, _, rfl, Same.refl H⟩ ?_ ?_
    · rintro i σ H1 hi ⟨v1, v2, v3, v4, v5, v6, rfl, s1⟩
      rw [Int.toNat_natCast] at hi
      refine ⟨_, rfl, _, rfl, a, ns, _, rfl, s1.seq hS, hlen, hbits, by omega, by omega, fun H2 b s2 nb hb => ?_⟩
      have nb0 : H b = none := s1.free nb
      have hM : ∀ {H3 : Hp}, GR.Fx (GR.onlyB b) H2 H3 → Same H H3 := fun {H3} f c o e => f.keep c o (fun z => by
        have z' : c = b := z
        rw [z', nb0] at e
        cases e) ((s1.trans s2) c o e)
      -- for turn in range(10)
      refine ⟨10, rfl, by decide, by decide, ?_⟩
      refine for_range (lo := 0) (n := ((10 : Nat) : Int).toNat) (fun j σ H3 => ∃ w3 w4 w5 w6, σ = [some (.ref a), some (.int (0 + (i : Nat))), some (.ref b), w3, w4, w5, w6] ∧ GR.Fx (GR.onlyB b) H2 H3 ∧ GR.Bag H3 b) ⟨_, _, _, _, rfl, .refl _ H2, hb⟩ ?_ ?_
      · rintro tn σ H3 htn ⟨w3, w4, w5, w6, rfl, f3, hb3⟩
        refine ⟨_, rfl, b, rfl, hb3, fun H4 v d f4 hb4 dv okd => ?_⟩
        obtain ⟨p1, p2⟩ := preB_ok okd
        -- due
        refine ⟨GR.onlyB b, hb4.live, _, ⟨[d], ⟨_, [], ⟨_, rfl, dv⟩, rfl, rfl⟩, d, rfl, p1, p2, rfl⟩, fun H5 u f5 du => ?_⟩
        have eu := GR.dt_bl du
        subst eu
        have hb5 := hb4.same f5
        have dv5 := dv.sm f5
        refine ⟨2, rfl, by decide, by decide, ?_⟩
        refine for_range (lo := 0) (n := ((2 : Nat) : Int).toNat) (fun j σ H6 => ∃ w6, σ = [some (.ref a), some (.int (0 + (i : Nat))), some (.ref b), some (.int (0 + (tn : Nat))), some v, some (.bl (isDeedD d)), w6] ∧ Same H5 H6) ⟨_, rfl, Same.refl H5⟩ ?_ ?_
        · rintro j σ H6 hj ⟨w6, rfl, s6⟩
          have hL6 := hb5.live.same s6
          -- repr(is_deed(thing)) != repr(due)
          refine ⟨GR.onlyB b, hL6, _, ⟨[d], ⟨_, [], ⟨_, rfl, dv5.sm s6⟩, rfl, rfl⟩, d, rfl, p1, p2, rfl⟩, fun H7 u7 f7 du7 => ?_⟩
          have ok1 := bool_ok (isDeedD d)
          refine ⟨GR.onlyB b, u7, _, rfl, du7, ok1.sh, ok1.dp, ok1.ln, ok1.top, fun tx etx => ?_⟩
          refine ⟨_, rfl, GR.onlyB b, _, .bool (isDeedD d), rfl, .bl _, ok1.sh, ok1.dp, ok1.ln, ok1.top, fun tx2 etx2 => ?_⟩
          refine ⟨rfl, _, rfl, ?_⟩
          refine iteNS (congrArg V.str (etx.trans etx2.symm)) ?_
          have hL7 := hL6.same f7
          have s7 := s6.trans f7
          have dv7 := dv5.sm s7
          generalize eB : isDeedD d = B at *
          cases B with
          | false => exact ⟨_, rfl, false, rfl, iteF (iteF ⟨_, rfl, false, rfl, iteF (iteF ⟨_, rfl, s7⟩)⟩)⟩
          | true =>
            obtain ⟨ws, rest, rfl⟩ := deed_str eB
            have shW : SeqAt.shaped (.str ws) = true := by
              have h1 := SeqAt.canLay_of_shaped (p1 rfl)
              simp only [PyData.canLay0, PyData.canLayAll0, Bool.and_eq_true] at h1
              show (PyData.canLay0 (.str ws) && _) = true
              simp only [PyData.canLay0, h1.1, Bool.true_and]
              rfl
            have okg := bool_ok (PyData.eqv (.str ws) (.str "take"))
            have okt := bool_ok (inL (.str ws) targL)
            refine ⟨_, rfl, true, rfl, iteT ⟨GR.onlyB b, hL7, _, ⟨[_], ⟨_, [], ⟨_, rfl, dv7⟩, rfl, rfl⟩, _, _, rfl, shW, rfl⟩, fun H8 u8 f8 du8 => ?_⟩⟩
            refine ⟨GR.onlyB b, u8, _, rfl, du8, okg.sh, okg.dp, okg.ln, okg.top, fun tx3 etx3 => ?_⟩
            refine ⟨GR.onlyB b, hL7.same f8, _, ⟨_, _, ⟨_, 0, ⟨v, rfl, dv7.sm f8⟩, rfl, atI_nat (j := 0) rfl⟩, rfl, shW, by decide +kernel, rfl⟩, fun H9 u9 f9 du9 => ?_⟩
            refine ⟨GR.onlyB b, u9, _, rfl, du9, okg.sh, okg.dp, okg.ln, okg.top, fun tx4 etx4 => ?_⟩
            refine ⟨rfl, _, rfl, ?_⟩
            refine iteNS (congrArg V.str (etx3.trans etx4.symm)) ?_
            have hL9 := (hL7.same f8).same f9
            have dv9 := (dv7.sm f8).sm f9
            refine ⟨_, rfl, true, rfl, iteT ⟨GR.onlyB b, hL9, _, ⟨[_], ⟨_, [], ⟨_, rfl, dv9⟩, rfl, rfl⟩, _, _, rfl, rfl, rfl⟩, fun H10 u10 f10 du10 => ?_⟩⟩
            refine ⟨GR.onlyB b, u10, _, rfl, du10, okt.sh, okt.dp, okt.ln, okt.top, fun tx5 etx5 => ?_⟩
            refine ⟨GR.onlyB b, hL9.same f10, _, ⟨_, targL, ⟨_, 0, ⟨v, rfl, dv9.sm f10⟩, rfl, atI_nat (j := 0) rfl⟩, ⟨_, ⟨_, _, rfl, ⟨_, _, rfl, ⟨_, _, rfl, rfl, rfl⟩, rfl⟩, rfl⟩, by decide, rfl⟩, shW, by decide +kernel, rfl⟩, fun H11 u11 f11 du11 => ?_⟩
            refine ⟨GR.onlyB b, u11, _, rfl, du11, okt.sh, okt.dp, okt.ln, okt.top, fun tx6 etx6 => ?_⟩
            refine ⟨rfl, _, rfl, ?_⟩
            refine iteNS (congrArg V.str (etx5.trans etx6.symm)) ?_
            exact ⟨_, rfl, (((s7.trans f8).trans f9).trans f10).trans f11⟩
        · rintro σ H6 ⟨w6, rfl, s6⟩
          exact ⟨_, _, _, _, rfl, (f3.trans f4).trans (.of (f5.trans s6)), hb5.same s6⟩
      · rintro σ H3 ⟨w3, w4, w5, w6, rfl, f3, hb3⟩
        exact ⟨_, _, _, _, _, _, rfl, hM f3⟩
    · rintro σ H1 ⟨v1, v2, v3, v4, v5, v6, rfl, s1⟩
      exact q H1
end
theorem all_mk {l : PySem.W.OpenLaw} {w : World} {K : PySem.W.Frag} {h : Heap} {mg : Str → Option Value} {fa : Addr}
    (X : K.In h) (G : h.Ns mainGlobals mg) (hfa : mg "law" = some (.ref fa))
    {f0 : Addr} {od0 an0 : Option Addr} {sl0 : Array (Option Value)} {oc0 kV0 dc0 pm0 cd0 ct0 : Value}
    {f1 : Addr} {od1 an1 : Option Addr} {sl1 : Array (Option Value)} {oc1 kV1 dc1 pm1 cd1 ct1 : Value}
    {f2 : Addr} {od2 an2 : Option Addr} {sl2 : Array (Option Value)} {oc2 kV2 dc2 pm2 cd2 ct2 : Value}
    {f3 : Addr} {od3 an3 : Option Addr} {sl3 : Array (Option Value)} {oc3 kV3 dc3 pm3 cd3 ct3 : Value}
    {f4 : Addr} {od4 an4 : Option Addr} {sl4 : Array (Option Value)} {oc4 kV4 dc4 pm4 cd4 ct4 : Value}
    {f5 : Addr} {od5 an5 : Option Addr} {sl5 : Array (Option Value)} {oc5 kV5 dc5 pm5 cd5 ct5 : Value}
    {f6 : Addr} {od6 an6 : Option Addr} {sl6 : Array (Option Value)} {oc6 kV6 dc6 pm6 cd6 ct6 : Value}
    {f7 : Addr} {od7 an7 : Option Addr} {sl7 : Array (Option Value)} {oc7 kV7 dc7 pm7 cd7 ct7 : Value}
    {f8 : Addr} {od8 an8 : Option Addr} {sl8 : Array (Option Value)} {oc8 kV8 dc8 pm8 cd8 ct8 : Value}
    {f9 : Addr} {od9 an9 : Option Addr} {sl9 : Array (Option Value)} {oc9 kV9 dc9 pm9 cd9 ct9 : Value}
    {f10 : Addr} {od10 an10 : Option Addr} {sl10 : Array (Option Value)} {oc10 kV10 dc10 pm10 cd10 ct10 : Value}
    {f11 : Addr} {od11 an11 : Option Addr} {sl11 : Array (Option Value)} {oc11 kV11 dc11 pm11 cd11 ct11 : Value}
    {f12 : Addr} {od12 an12 : Option Addr} {sl12 : Array (Option Value)} {oc12 kV12 dc12 pm12 cd12 ct12 : Value}
    {f13 : Addr} {od13 an13 : Option Addr} {sl13 : Array (Option Value)} {oc13 kV13 dc13 pm13 cd13 ct13 : Value}
    {f14 : Addr} {od14 an14 : Option Addr} {sl14 : Array (Option Value)} {oc14 kV14 dc14 pm14 cd14 ct14 : Value}
    {ctLETTERS : Tok}
    {ctMOST_SIGNS : Tok}
    {ctMOST_ADDED : Tok}
    {qBARE : Addr} {qdBARE : Option Addr} {qnBARE : Nat} {qsBARE : Array (Option Value)} {qtBARE0 qtBARE1 qtBARE2 qtBARE3 : Tok}
    {qWITH_BOX : Addr} {qdWITH_BOX : Option Addr} {qnWITH_BOX : Nat} {qsWITH_BOX : Array (Option Value)} {qtWITH_BOX0 qtWITH_BOX1 qtWITH_BOX2 : Tok}
    {qWITH_TARGET : Addr} {qdWITH_TARGET : Option Addr} {qnWITH_TARGET : Nat} {qsWITH_TARGET : Array (Option Value)} {qtWITH_TARGET0 qtWITH_TARGET1 qtWITH_TARGET2 : Tok}
    (a0 : PySem.W.nsIn K mainGlobals "is_whole" = some (some (.ref f0)))
    (l0 : K.lookup f0 = some ⟨oc0, od0, .func (PySem.W.fnOf "is_whole" "is_whole" (defArgs sIsWhole) (defBody sIsWhole) (defScope sIsWhole) .none kV0 dc0 pm0 an0 cd0 ct0), sl0⟩)
    (c0 : PySem.W.codeIn K cd0 "is_whole" = true)
    (k0 : PySem.W.keepIn K (.ref f0) = true)
    (a1 : PySem.W.nsIn K mainGlobals "is_name" = some (some (.ref f1)))
    (l1 : K.lookup f1 = some ⟨oc1, od1, .func (PySem.W.fnOf "is_name" "is_name" (defArgs sIsName) (defBody sIsName) (defScope sIsName) .none kV1 dc1 pm1 an1 cd1 ct1), sl1⟩)
    (c1 : PySem.W.codeIn K cd1 "is_name" = true)
    (k1 : PySem.W.keepIn K (.ref f1) = true)
    (a2 : PySem.W.nsIn K mainGlobals "is_deed" = some (some (.ref f2)))
    (l2 : K.lookup f2 = some ⟨oc2, od2, .func (PySem.W.fnOf "is_deed" "is_deed" (defArgs sIsDeed) (defBody sIsDeed) (defScope sIsDeed) .none kV2 dc2 pm2 an2 cd2 ct2), sl2⟩)
    (c2 : PySem.W.codeIn K cd2 "is_deed" = true)
    (k2 : PySem.W.keepIn K (.ref f2) = true)
    (a3 : PySem.W.nsIn K mainGlobals "takes_gift" = some (some (.ref f3)))
    (l3 : K.lookup f3 = some ⟨oc3, od3, .func (PySem.W.fnOf "takes_gift" "takes_gift" (defArgs sTakesGift) (defBody sTakesGift) (defScope sTakesGift) .none kV3 dc3 pm3 an3 cd3 ct3), sl3⟩)
    (c3 : PySem.W.codeIn K cd3 "takes_gift" = true)
    (k3 : PySem.W.keepIn K (.ref f3) = true)
    (a4 : PySem.W.nsIn K mainGlobals "takes_target" = some (some (.ref f4)))
    (l4 : K.lookup f4 = some ⟨oc4, od4, .func (PySem.W.fnOf "takes_target" "takes_target" (defArgs sTakesTarget) (defBody sTakesTarget) (defScope sTakesTarget) .none kV4 dc4 pm4 an4 cd4 ct4), sl4⟩)
    (c4 : PySem.W.codeIn K cd4 "takes_target" = true)
    (k4 : PySem.W.keepIn K (.ref f4) = true)
    (a5 : PySem.W.nsIn K mainGlobals "_law_bag" = some (some (.ref f5)))
    (l5 : K.lookup f5 = some ⟨oc5, od5, .func (PySem.W.fnOf "_law_bag" "_law_bag" (defArgs sLawBag) (defBody sLawBag) (defScope sLawBag) .none kV5 dc5 pm5 an5 cd5 ct5), sl5⟩)
    (c5 : PySem.W.codeIn K cd5 "_law_bag" = true)
    (k5 : PySem.W.keepIn K (.ref f5) = true)
    (a6 : PySem.W.nsIn K mainGlobals "_law_take" = some (some (.ref f6)))
    (l6 : K.lookup f6 = some ⟨oc6, od6, .func (PySem.W.fnOf "_law_take" "_law_take" (defArgs sLawTake) (defBody sLawTake) (defScope sLawTake) .none kV6 dc6 pm6 an6 cd6 ct6), sl6⟩)
    (c6 : PySem.W.codeIn K cd6 "_law_take" = true)
    (k6 : PySem.W.keepIn K (.ref f6) = true)
    (a7 : PySem.W.nsIn K mainGlobals "_law_whole" = some (some (.ref f7)))
    (l7 : K.lookup f7 = some ⟨oc7, od7, .func (PySem.W.fnOf "_law_whole" "_law_whole" (defArgs sLawWhole) (defBody sLawWhole) (defScope sLawWhole) .none kV7 dc7 pm7 an7 cd7 ct7), sl7⟩)
    (c7 : PySem.W.codeIn K cd7 "_law_whole" = true)
    (k7 : PySem.W.keepIn K (.ref f7) = true)
    (a8 : PySem.W.nsIn K mainGlobals "_law_odd" = some (some (.ref f8)))
    (l8 : K.lookup f8 = some ⟨oc8, od8, .func (PySem.W.fnOf "_law_odd" "_law_odd" (defArgs sLawOdd) (defBody sLawOdd) (defScope sLawOdd) .none kV8 dc8 pm8 an8 cd8 ct8), sl8⟩)
    (c8 : PySem.W.codeIn K cd8 "_law_odd" = true)
    (k8 : PySem.W.keepIn K (.ref f8) = true)
    (a9 : PySem.W.nsIn K mainGlobals "_law_name_or_not" = some (some (.ref f9)))
    (l9 : K.lookup f9 = some ⟨oc9, od9, .func (PySem.W.fnOf "_law_name_or_not" "_law_name_or_not" (defArgs sLawNameOrNot) (defBody sLawNameOrNot) (defScope sLawNameOrNot) .none kV9 dc9 pm9 an9 cd9 ct9), sl9⟩)
    (c9 : PySem.W.codeIn K cd9 "_law_name_or_not" = true)
    (k9 : PySem.W.keepIn K (.ref f9) = true)
    (a10 : PySem.W.nsIn K mainGlobals "_law_number_or_not" = some (some (.ref f10)))
    (l10 : K.lookup f10 = some ⟨oc10, od10, .func (PySem.W.fnOf "_law_number_or_not" "_law_number_or_not" (defArgs sLawNumberOrNot) (defBody sLawNumberOrNot) (defScope sLawNumberOrNot) .none kV10 dc10 pm10 an10 cd10 ct10), sl10⟩)
    (c10 : PySem.W.codeIn K cd10 "_law_number_or_not" = true)
    (k10 : PySem.W.keepIn K (.ref f10) = true)
    (a11 : PySem.W.nsIn K mainGlobals "_law_is_name" = some (some (.ref f11)))
    (l11 : K.lookup f11 = some ⟨oc11, od11, .func (PySem.W.fnOf "_law_is_name" "_law_is_name" (defArgs sLawIsName) (defBody sLawIsName) (defScope sLawIsName) .none kV11 dc11 pm11 an11 cd11 ct11), sl11⟩)
    (c11 : PySem.W.codeIn K cd11 "_law_is_name" = true)
    (k11 : PySem.W.keepIn K (.ref f11) = true)
    (a12 : PySem.W.nsIn K mainGlobals "_law_value" = some (some (.ref f12)))
    (l12 : K.lookup f12 = some ⟨oc12, od12, .func (PySem.W.fnOf "_law_value" "_law_value" (defArgs sLawValue) (defBody sLawValue) (defScope sLawValue) .none kV12 dc12 pm12 an12 cd12 ct12), sl12⟩)
    (c12 : PySem.W.codeIn K cd12 "_law_value" = true)
    (k12 : PySem.W.keepIn K (.ref f12) = true)
    (a13 : PySem.W.nsIn K mainGlobals "_law_due" = some (some (.ref f13)))
    (l13 : K.lookup f13 = some ⟨oc13, od13, .func (PySem.W.fnOf "_law_due" "_law_due" (defArgs sLawDue) (defBody sLawDue) (defScope sLawDue) .none kV13 dc13 pm13 an13 cd13 ct13), sl13⟩)
    (c13 : PySem.W.codeIn K cd13 "_law_due" = true)
    (k13 : PySem.W.keepIn K (.ref f13) = true)
    (a14 : PySem.W.nsIn K mainGlobals "law" = some (some (.ref f14)))
    (l14 : K.lookup f14 = some ⟨oc14, od14, .func (PySem.W.fnOf "law" "law" (defArgs sLaw) (defBody sLaw) (defScope sLaw) .none kV14 dc14 pm14 an14 cd14 ct14), sl14⟩)
    (c14 : PySem.W.codeIn K cd14 "law" = true)
    (k14 : PySem.W.keepIn K (.ref f14) = true)
    (z_isinstance : PySem.W.nsIn K mainGlobals "isinstance" = some none)
    (z_int : PySem.W.nsIn K mainGlobals "int" = some none)
    (z_bool : PySem.W.nsIn K mainGlobals "bool" = some none)
    (z_all : PySem.W.nsIn K mainGlobals "all" = some none)
    (z_str : PySem.W.nsIn K mainGlobals "str" = some none)
    (z_len : PySem.W.nsIn K mainGlobals "len" = some none)
    (z_tuple : PySem.W.nsIn K mainGlobals "tuple" = some none)
    (z_abs : PySem.W.nsIn K mainGlobals "abs" = some none)
    (z_enumerate : PySem.W.nsIn K mainGlobals "enumerate" = some none)
    (z_range : PySem.W.nsIn K mainGlobals "range" = some none)
    (z_max : PySem.W.nsIn K mainGlobals "max" = some none)
    (z_min : PySem.W.nsIn K mainGlobals "min" = some none)
    (z_repr : PySem.W.nsIn K mainGlobals "repr" = some none)
    (q1LETTERS : PySem.W.nsIn K mainGlobals "LETTERS" = some (some (.str "abcdefghijklmnopqrstuvwxyz" ctLETTERS)))
    (q1MOST_SIGNS : PySem.W.nsIn K mainGlobals "MOST_SIGNS" = some (some (.int 6 ctMOST_SIGNS)))
    (q1MOST_ADDED : PySem.W.nsIn K mainGlobals "MOST_ADDED" = some (some (.int 1000000000 ctMOST_ADDED)))
    (q1BARE : PySem.W.nsIn K mainGlobals "BARE" = some (some (.ref qBARE)))
    (q2BARE : K.lookup qBARE = some ⟨.type "tuple", qdBARE, .seq #[.str "get" qtBARE0, .str "boxes" qtBARE1, .str "make" qtBARE2, .str "clone" qtBARE3] qnBARE, qsBARE⟩)
    (q1WITH_BOX : PySem.W.nsIn K mainGlobals "WITH_BOX" = some (some (.ref qWITH_BOX)))
    (q2WITH_BOX : K.lookup qWITH_BOX = some ⟨.type "tuple", qdWITH_BOX, .seq #[.str "take" qtWITH_BOX0, .str "clear" qtWITH_BOX1, .str "give" qtWITH_BOX2] qnWITH_BOX, qsWITH_BOX⟩)
    (q1WITH_TARGET : PySem.W.nsIn K mainGlobals "WITH_TARGET" = some (some (.ref qWITH_TARGET)))
    (q2WITH_TARGET : K.lookup qWITH_TARGET = some ⟨.type "tuple", qdWITH_TARGET, .seq #[.str "give" qtWITH_TARGET0, .str "make" qtWITH_TARGET1, .str "clone" qtWITH_TARGET2] qnWITH_TARGET, qsWITH_TARGET⟩)
    : ∃ fd : FuncData, (∀ (s : Shared) (v : Value), BindsTo s fd ⟨[v], []⟩ [("_law_script", v)]) ∧
      ∀ bs : Heap, K.In bs → bs.Ns mainGlobals mg → GR.FnG l.prog w K mg bs CX0 9 fa fd ["_law_script"] (spLaw K) := by
  have e := hfa.symm.trans (PySem.W.mg_of X G a14)
  cases e
  have F0 := fun_mk (st := sIsWhole) l0 c0 k0
  have b0 := F0.binds (ps := ["thing"]) fun _ _ _ _ _ _ us hl => match us, hl with | [_], _ => rfl
  have F1 := fun_mk (st := sIsName) l1 c1 k1
  have b1 := F1.binds (ps := ["thing"]) fun _ _ _ _ _ _ us hl => match us, hl with | [_], _ => rfl
  have F2 := fun_mk (st := sIsDeed) l2 c2 k2
  have b2 := F2.binds (ps := ["thing"]) fun _ _ _ _ _ _ us hl => match us, hl with | [_], _ => rfl
  have F3 := fun_mk (st := sTakesGift) l3 c3 k3
  have b3 := F3.binds (ps := ["deed"]) fun _ _ _ _ _ _ us hl => match us, hl with | [_], _ => rfl
  have F4 := fun_mk (st := sTakesTarget) l4 c4 k4
  have b4 := F4.binds (ps := ["deed"]) fun _ _ _ _ _ _ us hl => match us, hl with | [_], _ => rfl
  have F5 := fun_mk (st := sLawBag) l5 c5 k5
  have b5 := F5.binds (ps := ["_law_script", "_law_at"]) fun _ _ _ _ _ _ us hl => match us, hl with | [_, _], _ => rfl
  have F6 := fun_mk (st := sLawTake) l6 c6 k6
  have b6 := F6.binds (ps := ["_law_bag_here", "_law_many"]) fun _ _ _ _ _ _ us hl => match us, hl with | [_, _], _ => rfl
  have F7 := fun_mk (st := sLawWhole) l7 c7 k7
  have b7 := F7.binds (ps := ["_law_thing"]) fun _ _ _ _ _ _ us hl => match us, hl with | [_], _ => rfl
  have F8 := fun_mk (st := sLawOdd) l8 c8 k8
  have b8 := F8.binds (ps := ["_law_bag_here"]) fun _ _ _ _ _ _ us hl => match us, hl with | [_], _ => rfl
  have F9 := fun_mk (st := sLawNameOrNot) l9 c9 k9
  have b9 := F9.binds (ps := ["_law_bag_here"]) fun _ _ _ _ _ _ us hl => match us, hl with | [_], _ => rfl
  have F10 := fun_mk (st := sLawNumberOrNot) l10 c10 k10
  have b10 := F10.binds (ps := ["_law_bag_here"]) fun _ _ _ _ _ _ us hl => match us, hl with | [_], _ => rfl
  have F11 := fun_mk (st := sLawIsName) l11 c11 k11
  have b11 := F11.binds (ps := ["_law_thing"]) fun _ _ _ _ _ _ us hl => match us, hl with | [_], _ => rfl
  have F12 := fun_mk (st := sLawValue) l12 c12 k12
  have b12 := F12.binds (ps := ["_law_bag_here"]) fun _ _ _ _ _ _ us hl => match us, hl with | [_], _ => rfl
  have F13 := fun_mk (st := sLawDue) l13 c13 k13
  have b13 := F13.binds (ps := ["_law_thing"]) fun _ _ _ _ _ _ us hl => match us, hl with | [_], _ => rfl
  have F14 := fun_mk (st := sLaw) l14 c14 k14
  have b14 := F14.binds (ps := ["_law_script"]) fun _ _ _ _ _ _ us hl => match us, hl with | [_], _ => rfl
  have T : Txt K mg := {
    fIsWhole := _,
    dIsWhole := _,
    FIsWhole := F0,
    bIsWhole := b0,
    gIsWhole := PySem.W.mg_of X G a0,
    fIsName := _,
    dIsName := _,
    FIsName := F1,
    bIsName := b1,
    gIsName := PySem.W.mg_of X G a1,
    fIsDeed := _,
    dIsDeed := _,
    FIsDeed := F2,
    bIsDeed := b2,
    gIsDeed := PySem.W.mg_of X G a2,
    fTakesGift := _,
    dTakesGift := _,
    FTakesGift := F3,
    bTakesGift := b3,
    gTakesGift := PySem.W.mg_of X G a3,
    fTakesTarget := _,
    dTakesTarget := _,
    FTakesTarget := F4,
    bTakesTarget := b4,
    gTakesTarget := PySem.W.mg_of X G a4,
    fLawBag := _,
    dLawBag := _,
    FLawBag := F5,
    bLawBag := b5,
    gLawBag := PySem.W.mg_of X G a5,
    fLawTake := _,
    dLawTake := _,
    FLawTake := F6,
    bLawTake := b6,
    gLawTake := PySem.W.mg_of X G a6,
    fLawWhole := _,
    dLawWhole := _,
    FLawWhole := F7,
    bLawWhole := b7,
    gLawWhole := PySem.W.mg_of X G a7,
    fLawOdd := _,
    dLawOdd := _,
    FLawOdd := F8,
    bLawOdd := b8,
    gLawOdd := PySem.W.mg_of X G a8,
    fLawNameOrNot := _,
    dLawNameOrNot := _,
    FLawNameOrNot := F9,
    bLawNameOrNot := b9,
    gLawNameOrNot := PySem.W.mg_of X G a9,
    fLawNumberOrNot := _,
    dLawNumberOrNot := _,
    FLawNumberOrNot := F10,
    bLawNumberOrNot := b10,
    gLawNumberOrNot := PySem.W.mg_of X G a10,
    fLawIsName := _,
    dLawIsName := _,
    FLawIsName := F11,
    bLawIsName := b11,
    gLawIsName := PySem.W.mg_of X G a11,
    fLawValue := _,
    dLawValue := _,
    FLawValue := F12,
    bLawValue := b12,
    gLawValue := PySem.W.mg_of X G a12,
    fLawDue := _,
    dLawDue := _,
    FLawDue := F13,
    bLawDue := b13,
    gLawDue := PySem.W.mg_of X G a13,
    fLaw := _,
    dLaw := _,
    FLaw := F14,
    bLaw := b14,
    gLaw := PySem.W.mg_of X G a14,
    n_isinstance := PySem.W.mg_none_of X G z_isinstance,
    n_int := PySem.W.mg_none_of X G z_int,
    n_bool := PySem.W.mg_none_of X G z_bool,
    n_all := PySem.W.mg_none_of X G z_all,
    n_str := PySem.W.mg_none_of X G z_str,
    n_len := PySem.W.mg_none_of X G z_len,
    n_tuple := PySem.W.mg_none_of X G z_tuple,
    n_abs := PySem.W.mg_none_of X G z_abs,
    n_enumerate := PySem.W.mg_none_of X G z_enumerate,
    n_range := PySem.W.mg_none_of X G z_range,
    n_max := PySem.W.mg_none_of X G z_max,
    n_min := PySem.W.mg_none_of X G z_min,
    n_repr := PySem.W.mg_none_of X G z_repr,
    tLETTERS := ctLETTERS,
    gLETTERS := PySem.W.mg_of X G q1LETTERS,
    tMOST_SIGNS := ctMOST_SIGNS,
    gMOST_SIGNS := PySem.W.mg_of X G q1MOST_SIGNS,
    tMOST_ADDED := ctMOST_ADDED,
    gMOST_ADDED := PySem.W.mg_of X G q1MOST_ADDED,
    cBARE := qBARE,
    gBARE := PySem.W.mg_of X G q1BARE,
    qBARE := fun M H => .inr ⟨_, _, _, q2BARE, rfl, rfl, (by show 4 ≤ sizeLine; decide), .cons ⟨_, rfl⟩ (.cons ⟨_, rfl⟩ (.cons ⟨_, rfl⟩ (.cons ⟨_, rfl⟩ (.nil))))⟩,
    cWITH_BOX := qWITH_BOX,
    gWITH_BOX := PySem.W.mg_of X G q1WITH_BOX,
    qWITH_BOX := fun M H => .inr ⟨_, _, _, q2WITH_BOX, rfl, rfl, (by show 3 ≤ sizeLine; decide), .cons ⟨_, rfl⟩ (.cons ⟨_, rfl⟩ (.cons ⟨_, rfl⟩ (.nil)))⟩,
    cWITH_TARGET := qWITH_TARGET,
    gWITH_TARGET := PySem.W.mg_of X G q1WITH_TARGET,
    qWITH_TARGET := fun M H => .inr ⟨_, _, _, q2WITH_TARGET, rfl, rfl, (by show 3 ≤ sizeLine; decide), .cons ⟨_, rfl⟩ (.cons ⟨_, rfl⟩ (.cons ⟨_, rfl⟩ (.nil)))⟩ }
  exact ⟨PySem.W.fnOf "law" "law" (defArgs sLaw) (defBody sLaw) (defScope sLaw) .none kV14 dc14 pm14 an14 cd14 ct14, fun s v => .of_eq rfl, fun bs _ _ => okLaw T F14⟩
end K07
open PySem PySem.W PyProof.Rows
set_option maxRecDepth 100000 in
set_option maxHeartbeats 0 in
theorem PySem.Challenge.cw_trailparts_k07_deeds_known_holds : PySem.Challenge.rw_trailparts_k07_deeds_known.Holds := by
  w_on; o_law; k_head; (case hw => w_witness2)
  k_fill
  refine GR.walk_g (l := PySem.Challenge.rw_trailparts_k07_deeds_known) (n := 63) (k := 9) (x := "_law_script") (sp := K07.spLaw) rfl (by decide) rfl ⟨rfl, by decide, by decide⟩ (fun w h Y => PySem.W.kIn_of Y) ?F (fun K H a ns hl hb _ hS => ⟨a, ns, rfl, hS, hl, hb, fun _ => rfl⟩)
  case F =>
    intro w mg fa h KX G hmg
    refine' K07.all_mk KX G hmg ?a0 ?l0 ?c0 ?k0 ?a1 ?l1 ?c1 ?k1 ?a2 ?l2 ?c2 ?k2 ?a3 ?l3 ?c3 ?k3 ?a4 ?l4 ?c4 ?k4 ?a5 ?l5 ?c5 ?k5 ?a6 ?l6 ?c6 ?k6 ?a7 ?l7 ?c7 ?k7 ?a8 ?l8 ?c8 ?k8 ?a9 ?l9 ?c9 ?k9 ?a10 ?l10 ?c10 ?k10 ?a11 ?l11 ?c11 ?k11 ?a12 ?l12 ?c12 ?k12 ?a13 ?l13 ?c13 ?k13 ?a14 ?l14 ?c14 ?k14 ?z_isinstance ?z_int ?z_bool ?z_all ?z_str ?z_len ?z_tuple ?z_abs ?z_enumerate ?z_range ?z_max ?z_min ?z_repr ?q1LETTERS ?q1MOST_SIGNS ?q1MOST_ADDED ?q1BARE ?q2BARE ?q1WITH_BOX ?q2WITH_BOX ?q1WITH_TARGET ?q2WITH_TARGET
    (case a0 => k_is)
    (case l0 => k_is)
    (case c0 => k_is)
    (case k0 => k_is)
    (case a1 => k_is)
    (case l1 => k_is)
    (case c1 => k_is)
    (case k1 => k_is)
    (case a2 => k_is)
    (case l2 => k_is)
    (case c2 => k_is)
    (case k2 => k_is)
    (case a3 => k_is)
    (case l3 => k_is)
    (case c3 => k_is)
    (case k3 => k_is)
    (case a4 => k_is)
    (case l4 => k_is)
    (case c4 => k_is)
    (case k4 => k_is)
    (case a5 => k_is)
    (case l5 => k_is)
    (case c5 => k_is)
    (case k5 => k_is)
    (case a6 => k_is)
    (case l6 => k_is)
    (case c6 => k_is)
    (case k6 => k_is)
    (case a7 => k_is)
    (case l7 => k_is)
    (case c7 => k_is)
    (case k7 => k_is)
    (case a8 => k_is)
    (case l8 => k_is)
    (case c8 => k_is)
    (case k8 => k_is)
    (case a9 => k_is)
    (case l9 => k_is)
    (case c9 => k_is)
    (case k9 => k_is)
    (case a10 => k_is)
    (case l10 => k_is)
    (case c10 => k_is)
    (case k10 => k_is)
    (case a11 => k_is)
    (case l11 => k_is)
    (case c11 => k_is)
    (case k11 => k_is)
    (case a12 => k_is)
    (case l12 => k_is)
    (case c12 => k_is)
    (case k12 => k_is)
    (case a13 => k_is)
    (case l13 => k_is)
    (case c13 => k_is)
    (case k13 => k_is)
    (case a14 => k_is)
    (case l14 => k_is)
    (case c14 => k_is)
    (case k14 => k_is)
    (case z_isinstance => k_is)
    (case z_int => k_is)
    (case z_bool => k_is)
    (case z_all => k_is)
    (case z_str => k_is)
    (case z_len => k_is)
    (case z_tuple => k_is)
    (case z_abs => k_is)
    (case z_enumerate => k_is)
    (case z_range => k_is)
    (case z_max => k_is)
    (case z_min => k_is)
    (case z_repr => k_is)
    (case q1LETTERS => k_is)
    (case q1MOST_SIGNS => k_is)
    (case q1MOST_ADDED => k_is)
    (case q1BARE => k_is)
    (case q2BARE => k_is)
    (case q1WITH_BOX => k_is)
    (case q2WITH_BOX => k_is)
    (case q1WITH_TARGET => k_is)
    (case q2WITH_TARGET => k_is)
