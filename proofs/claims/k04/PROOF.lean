import PyProof.Rows.All
import Wide.All
import OpenK.AllK
import Wide.FinOn
import HandS.ForMost
import HandS.ForExc
import HandS.EndBits
import HandS.RaiseMore
import HandS.IsInst
import HandS.Wide
import HandS.WideMore
import HandS.Style
import HandS.Deep
import HandS.Text
import HandS.Walk
import KE.KExcInit
import HandS.ExcOwn
import HandS.ExcField
import HandS.TryMany
import HandS.Lambda
import HandS.FStr
import PyProof.ExcBaseAll.ArithmeticError
import PyProof.ExcBaseAll.OverflowError
import PyProof.ExcBaseAll.ValueError
import PyProof.ExcBaseAll.IndexError
import PyProof.ExcBaseAll.LookupError
import PyProof.ExcBaseAll.RuntimeError
import PySem.Challenge.RW_trailparts_k04_whole_the_whole_in_parts
set_option Elab.async false
set_option linter.all false
set_option maxRecDepth 100000
set_option maxHeartbeats 4000000
/-! # Calls that know that no repr is under way (guards empty) -/
namespace GR
open PySem PySem.Spec PyProof.Rows L2
/-- as FnOk, where nobody around is within a repr -/
structure FnG (P : Program) (w : World) (K : PySem.W.Frag) (mg : Str → Option Value) (bs : Heap) (CX : CXT)
    (k : Nat) (f : Addr) (fd : FuncData) (ps : List Str) (sp : Sp) : Prop where
  len : ∀ vs H Q E, sp vs H Q E → vs.length = ps.length
  run : ∀ (A : Around) (out : List Env) (s : Shared) (H : Hp) (ar : Args) (us : List Value) (vs : List V) (Q : VK) (E : XK),
    A.guards = some [] → Room k A → Env0 P w K mg bs A out s H → BindsTo s fd ar (ps.zip us) → Vals vs us → sp vs H Q E →
    codeAny (model P w) A (.call (.ref f) ar) (CR CX out P w H s Q E) s
section
variable {P : Program} {w : World} {K : PySem.W.Frag} {mg : Str → Option Value} {bs : Heap} {CX : CXT} {j k : Nat}
  {f : Addr} {fd : FuncData} {ps : List Str} {sp sp' : Sp}
theorem FnG.of (F : FnOk P w K mg bs CX k f fd ps sp) : FnG P w K mg bs CX k f fd ps sp :=
  ⟨F.len, fun A out s H ar us vs Q E _ => F.run A out s H ar us vs Q E⟩
theorem FnG.mono (F : FnG P w K mg bs CX j f fd ps sp) (h : j ≤ k) : FnG P w K mg bs CX k f fd ps sp :=
  ⟨F.len, fun A out s H ar us vs Q E g hr => F.run A out s H ar us vs Q E g (hr.mono h)⟩
/-- a def by its body -/
theorem fn_g {nm qual : Str} {params : Arguments} {body : List Stmt} {scope : Scope} {dV kV doc pm cdv ct oc : Value}
    {an od : Option Addr} {osl : Array (Option Value)} {N : List Str}
    (lk : K.lookup f = some ⟨oc, od, .func (PySem.W.fnOf nm qual params body scope dV kV doc pm an cdv ct), osl⟩)
    (hcd : PySem.W.codeIn K cdv qual = true) (S : FnScope N ps scope)
    (len : ∀ vs H Q E, sp vs H Q E → vs.length = ps.length)
    (hbody : ∀ (A : Around) (out : List Env) (s : Shared) (H : Hp) (vs : List V) (Q : VK) (E : XK), A.guards = some [] →
      Room k (A.deeper (envOfC qual scope s.heap.objs.size f cdv)) → sp vs H Q E →
      ∃ t, PSs (cxOf CX P w K mg bs N qual scope f cdv A out s H E) body t ∧
        t { nx := fun _ H' => Q .non H', rt := Q } (start N vs) H) :
    FnG P w K mg bs CX (k + 1) f (PySem.W.fnOf nm qual params body scope dV kV doc pm an cdv ct) ps sp := by
  refine ⟨len, fun A out s H ar us vs Q E hgd hr e0 hb r hsp => ?_⟩
  have hl := len _ _ _ _ hsp
  have KX : K.In s.heap := e0.mod.kin.keeps fun b o z => (e0.bs b o z).1
  have lim : s.heap.NoLimit := e0.mod.nolimit.keeps fun b o z => (e0.bs b o z).1
  have hkd : ∀ y ∈ ps.zip us, scope.names.lookup y.1 = some .local ∨
      (scope.names.lookup y.1 = some .cell ∧ ((cellsFrom (s.heap.objs.size + 1) scope.names []).lookup y.1).isSome = true) := fun ⟨n, v⟩ hy => by
    rcases S.par n (List.of_mem_zip hy).1 with z | z
    · exact .inl z
    · exact .inr ⟨z, PySem.W.cellsFrom_some _ _ _ (.inl z)⟩
  refine codeAny_call_function hr.depth (KX _ _ lk) rfl S.co S.gen rfl
    (PySem.W.codeRec_of KX hcd) (hb _ _ _ _ ?_)
  refine wpAny_newFunctionEnv_cells S.kind hkd fun ev hev s1 x => ?_
  subst hev
  refine ⟨lim.keeps x.toInCall.keep, codeAny_func ?_⟩
  obtain ⟨t, ht, hq⟩ := hbody A out s H vs Q E hgd (hr.deeper _) hsp
  have I : Inv (cxOf CX P w K mg bs N qual scope f cdv A out s H E) [] (start N vs) H s1 := inv_start S hr.hd e0 hl r x
  refine wpAny_mono (ht.run [] s1 (start N vs) H _ I hq) (fun fl s' hs => ?_) fun _ _ hs => hs
  have fin : ∀ {σ' : L2.St} {H' : Hp} {v : V} {u : Value},
      Inv (cxOf CX P w K mg bs N qual scope f cdv A out s H E) [] σ' H' s' → RelV v u → Q v H' → CE out P w H s Q u s' :=
    fun {σ' H' v u} J rv q => ⟨v, H', J.os, J.bare, J.base, J.hok, rv, q⟩
  cases fl with
  | ret u =>
    obtain ⟨v, _, _, J, rv, z⟩ := hs
    exact fin J rv z
  | next =>
    obtain ⟨_, _, J, z⟩ := hs
    exact fin (v := V.non) (u := Value.none) J rfl z
  | brk =>
    obtain ⟨_, _, _, z⟩ := hs
    exact z.elim
  | cont =>
    obtain ⟨_, _, _, z⟩ := hs
    exact z.elim
theorem okG {x qual : Str} {st : Stmt} {N : List Str} (F : Fun K x qual st f fd) (S : FnScope N ps (defScope st))
    (len : ∀ vs H Q E, sp vs H Q E → vs.length = ps.length)
    (hbody : ∀ (cdv : Value) (A : Around) (out : List Env) (s : Shared) (H : Hp) (vs : List V) (Q : VK) (E : XK), A.guards = some [] →
      Room k (A.deeper (envOfC qual (defScope st) s.heap.objs.size f cdv)) → sp vs H Q E →
      ∃ t, PSs (cxOf CX0 P w K mg bs N qual (defScope st) f cdv A out s H E).nox (defBody st) t ∧
        t { nx := fun _ H' => Q .non H', rt := Q } (start N vs) H) : FnG P w K mg bs CX0 (k + 1) f fd ps sp := by
  obtain ⟨oc, od, kV, doc, pm, an, cdv, ct, osl, rfl, lk, hcd⟩ := F.ex
  refine fn_g lk hcd S len fun A out s H vs Q E hg hr hsp => ?_
  obtain ⟨t, h, q⟩ := hbody cdv A out s H vs Q E hg hr hsp
  exact ⟨t, h.nox, q⟩
theorem okXG {x qual : Str} {st : Stmt} {N : List Str} (F : Fun K x qual st f fd) (S : FnScope N ps (defScope st))
    (len : ∀ vs H Q E, sp vs H Q E → vs.length = ps.length)
    (hbody : ∀ (cdv : Value) (A : Around) (out : List Env) (s : Shared) (H : Hp) (vs : List V) (Q : VK) (E : XK), A.guards = some [] →
      Room k (A.deeper (envOfC qual (defScope st) s.heap.objs.size f cdv)) → sp vs H Q E →
      ∃ t, PSs (cxOf (L2.CX P w) P w K mg bs N qual (defScope st) f cdv A out s H E) (defBody st) t ∧
        t { nx := fun _ H' => Q .non H', rt := Q } (start N vs) H) : FnG P w K mg bs (L2.CX P w) (k + 1) f fd ps sp := by
  obtain ⟨oc, od, kV, doc, pm, an, cdv, ct, osl, rfl, lk, hcd⟩ := F.ex
  exact fn_g lk hcd S len fun A out s H vs Q E hg hr hsp => hbody cdv A out s H vs Q E hg hr hsp
end
section
variable {X : Cx} {CX : CXT} {k : Nat} {f : Addr} {fd : FuncData} {ps : List Str} {sp : Sp} {dvs : List V} {ds : List Value}
  {E : XK} {x : Str} {p pos : Pos} {e : Expr} {es : List Expr} {t : TA}
theorem run_g {pins : List (Addr × Obj)} {σ : L2.St} {H : Hp} {s : Shared} {Q : VK} {us : List Value} {vs : List V}
    (F : FnG X.prog X.w X.K X.mg X.base CX k f fd ps sp) (gd : X.A.guards = some []) (hr : Room k X.A) (hb : Binds X.K fd ps ds)
    (hd : Vals dvs ds) (hx : Passes CX X E) (I : Inv X pins σ H s) (r : Vals vs us) (h : sp (vs ++ dvs) H Q E) :
    wpAny (model X.prog X.w) X.A (call (.ref f) us) (EP X pins σ Q) X.xe s := by
  have r2 : Vals (vs ++ dvs) (us ++ ds) := r.append hd
  have hl : (us ++ ds).length = ps.length := by rw [← r2.length]; exact F.len _ _ _ _ h
  refine wpAny_call (codeAny_mono (F.run X.A X.stack s H ⟨us, []⟩ (us ++ ds) (vs ++ dvs) Q E gd hr I.env0
    (hb s us I.kIn hl) r2 h) fun r s' hq => ?_)
  cases r with
  | error e => exact hx pins σ H s e s' I hq
  | ok fl =>
    cases fl with
    | ret u => exact I.after hq
    | next => exact hq.elim
    | brk => exact hq.elim
    | cont => exact hq.elim
/-- f(e, ..) -/
theorem pe_callG (F : FnG X.prog X.w X.K X.mg X.base CX k f fd ps sp) (gd : X.A.guards = some []) (hr : Room k X.A) (hg : Gl X x)
    (hm : X.mg x = some (.ref f)) (hk : PySem.W.keepIn X.K (.ref f) = true) (hb : Binds X.K fd ps ds) (hd : Vals dvs ds) (hx : Passes CX X E)
    (ha : PA X (e :: es) t) (hdb : (x == ("__debug__" : Str)) = false := by decide)
    (he : starEach (e :: es) X.env = (false, eval e X.env) :: starEach es X.env := by rfl)
    (hpl : (backTo pos (starEach es X.env)).any (·.1) = false := by rfl) :
    PE X (.Call (.Name x p) (e :: es) [] pos) (tCall sp dvs E t) := by
  refine ⟨fun pins s σ H Q I h => ?_⟩
  refine wpAny_Call_Name_kw (ld_glob I hg hm ?_ hdb)
  refine PySem.W.callWith_K (h₀ := X.base) I.ok.mod.kin hk (thn (ha.run pos pins s σ H _ I h)
    fun us s1 ⟨vs, H1, I1, r, q⟩ => ⟨I1.kIn, ?_⟩) he hpl
  exact run_g F gd hr hb hd hx I1 r q
end
/-! ## repr of data -/
section
variable {X : Cx}
mutual
theorem Dp_noDict {K : PySem.W.Frag} {H : Hp} : ∀ (d : PyData) (v : V), Dp K H v d → d.hasDict = false
  | .none, _, _ => rfl
  | .bool _, _, _ => rfl
  | .int _, _, _ => rfl
  | .str _, _, _ => rfl
  | .list ds, _, .lst _ h => by simpa only [PyData.hasDict] using DpAll_noDict ds _ h
  | .tuple ds, _, .tup _ h => by simpa only [PyData.hasDict] using DpAll_noDict ds _ h
  | .dict _, _, h => by cases h
theorem DpAll_noDict {K : PySem.W.Frag} {H : Hp} : ∀ (ds : List PyData) (vs : List V), DpAll K H vs ds → PyData.hasDictAll ds = false
  | [], _, _ => rfl
  | d :: ds, _, .cons h1 h2 => by rw [PyData.hasDictAll, Dp_noDict d _ h1, DpAll_noDict ds _ h2]; rfl
end
/-- repr(x), x data (Dp): its text -/
def rRepr (K : PySem.W.Frag) : List V → Hp → VK → Prop := fun xs H Q => ∃ x d, xs = [x] ∧ Dp K H x d ∧ d.showable = true ∧
  d.depth ≤ 20 ∧ d.shown.length ≤ sizeLine ∧ ∀ tx, tx = d.shown → Q (.str tx) H
theorem call_reprD {k : Nat} (hr : Room k X.A) (gd : X.A.guards = some []) : CallR X (.builtin "repr") (rRepr X.K) := by
  intro pins s σ H xs us Q I r h
  obtain ⟨x, d, rfl, hd, hs, hdp, hl, q0⟩ := h
  have q := q0 d.shown rfl
  cases r with
  | cons r1 r2 =>
    cases r2
    rename_i u
    cases hd with
    | non =>
      obtain rfl : u = Value.none := r1
      exact PySem.P.repr_of_none ⟨.str _, H, I.tok _, ⟨_, rfl⟩, q⟩
    | bl b =>
      obtain rfl : u = Value.bool b := r1
      exact PySem.P.repr_of_bool ⟨.str _, H, I.tok _, ⟨_, rfl⟩, q⟩
    | int i =>
      obtain ⟨t, rfl⟩ := r1
      exact PySem.P.repr_of_int (by simpa [PyData.showable] using hs) ⟨.str _, H, I.tok _, ⟨_, rfl⟩, q⟩
    | str z =>
      obtain ⟨t, rfl⟩ := r1
      exact PySem.P.repr_of_str ⟨.str _, H, I.tok _, ⟨_, rfl⟩, q⟩ hl
    | @lst a xs ds h1 h2 =>
      obtain ⟨as, rd⟩ := Dp.reads I _ _ _ (.lst h1 h2) r1
      cases (show u = Value.ref a from r1)
      have hu := hr.un
      refine repr_of_reads' rd hs (PyData.noDict_hsm ?_) gd (by omega) (fun _ _ z => z) (fun h' u tk hk => ?_) hl
      · exact Dp_noDict _ _ (.lst h1 h2)
      · exact ⟨.str _, H, I.kept hk, ⟨_, rfl⟩, q⟩
    | @tup a xs ds h1 h2 =>
      obtain ⟨as, rd⟩ := Dp.reads I _ _ _ (.tup h1 h2) r1
      cases (show u = Value.ref a from r1)
      have hu := hr.un
      refine repr_of_reads' rd hs (PyData.noDict_hsm ?_) gd (by omega) (fun _ _ z => z) (fun h' u tk hk => ?_) hl
      · exact Dp_noDict _ _ (.tup h1 h2)
      · exact ⟨.str _, H, I.kept hk, ⟨_, rfl⟩, q⟩
end
/-! ## the law's own call -/
theorem law_callG {P : Program} {w : World} {K : PySem.W.Frag} {mg mb : Str → Option Value} {CX : CXT} {k : Nat} {fa a : Addr}
    {fd : FuncData} {x : Str} {sp : Sp} {s1 : Shared} {vs : List Value} {ns : List Int} (KX : K.In s1.heap)
    (hns : s1.heap.Ns mainGlobals mg) (hb : s1.heap.Ns builtinsNs mb) (hbb : ∀ x : Str, x ≠ "__name__" → mb x = bootBuiltins x)
    (hlim : s1.heap.NoLimit) (hg : s1.gens = #[]) (ha : s1.heap.get? a = some { cls := .type "list", data := .seq vs.toArray })
    (hi : IntsAre vs ns) (hl : ns.length ≤ sizeLine) (hr : Room k callerA)
    (F : ∀ bs : Heap, K.In bs → bs.Ns mainGlobals mg → FnG P w K mg bs CX k fa fd [x] sp)
    (hbind : ∀ (s : Shared) (u : Value), BindsTo s fd ⟨[u], []⟩ [(x, u)])
    (hsp : ∀ H : Hp, Only H → SqL K H a (ns.map V.int) → sp [.ref a] H (fun v _ => v = .bl true) fun _ _ _ => False)
    (hCX : ∀ H e s', CX [] H s1 (fun _ _ _ => False) e s' → False) :
    codeAny (model P w) callerA (.call (.ref fa) ⟨[.ref a], []⟩)
      (fun r s' => r = .ok (.ret (.bool true)) ∧ OldK s1.heap s'.heap ∧ s'.os = s1.os ∧ AllBare s'.gens) s1 := by
  have rv := vals_ints hi
  have lenV := hi.length
  have core : ∀ H : Hp, Only H → SqL K H a (ns.map V.int) → HOk P w H s1.heap → (∀ b, H b ≠ none → b = a) →
      (H a ≠ none → K.lookup a = none) → codeAny (model P w) callerA (.call (.ref fa) ⟨[.ref a], []⟩)
      (fun r s' => r = .ok (.ret (.bool true)) ∧ OldK s1.heap s'.heap ∧ s'.os = s1.os ∧ AllBare s'.gens) s1 := by
    intro H hO hS hok hA hK
    have bof : ∀ {b : Addr} {o : Obj}, s1.heap.get? b = some o → H b = none → (hidT s1.heap H).get? b = some o := fun z n => hidT_get z n
    have noA : ∀ {b : Addr} {o : Obj} {es : Array DictEntry} {ep : Nat}, s1.heap.get? b = some o → o.data = .dict es ep → H b = none := by
      intro b o es ep z d
      cases q : H b with
      | none => rfl
      | some u =>
        have z' : b = a := hA b (by rw [q]; simp)
        subst z'
        rw [ha] at z; cases z
        have d' : Data.seq vs.toArray _ = Data.dict es ep := d
        cases d'
    have nsK : ∀ {b : Addr} {m : Str → Option Value}, s1.heap.Ns b m → (hidT s1.heap H).Ns b m :=
      fun {b m} ⟨o, es, ep, z, d, r⟩ => ⟨o, es, ep, bof z (noA z d), d, r⟩
    have hKb : K.In (hidT s1.heap H) := fun b o z => bof (KX b o z) (by
      cases q : H b with
      | none => rfl
      | some u =>
        have z' : b = a := hA b (by rw [q]; simp)
        subst z'
        rw [hK (by rw [q]; simp)] at z; cases z)
    have hM : Mod K mg (hidT s1.heap H) := ⟨hKb, nsK hns, ⟨mb, nsK hb, hbb⟩, let ⟨mc, y1, y2⟩ := hlim; ⟨mc, nsK y1, y2⟩⟩
    have e0 : Env0 P w K mg (hidT s1.heap H) callerA [] s1 H := ⟨rfl, hM, fun b o z => of_hidT z,
      Nat.le_of_eq (hidT_size _ _), trivial, fun b hb => absurd (show b ∈ ([] : List Addr) from hb) (by simp), hok, .of_eq hg⟩
    refine codeAny_mono ((F _ hKb (nsK hns)).run callerA [] s1 H ⟨[.ref a], []⟩ [.ref a] [.ref a] _ _ rfl hr e0
      (hbind s1 (.ref a)) (.cons rfl .nil) (hsp H hO hS)) fun r s' h => ?_
    cases r with
    | error e => exact (hCX H e s' h).elim
    | ok fl =>
      cases fl with
      | next => exact h.elim
      | brk => exact h.elim
      | cont => exact h.elim
      | ret u =>
        obtain ⟨v, H', os, bare, un, hok', r', q⟩ := h
        have q' : v = .bl true := q
        subst q'
        obtain rfl : u = Value.bool true := r'
        refine ⟨rfl, OldK.of_keep fun b o z => ?_, os, bare⟩
        cases q : H b with
        | none => exact un.keep b o z q (by intro y; exact absurd (show b ∈ ([] : List Addr) from y) (by simp)) (by simp)
        | some u =>
          rcases hO b with y | ⟨ob, xs, y⟩
          · rw [q] at y; cases y
          · have y2 := un.frzs b ob _ y
            obtain ⟨y3, _⟩ := hok b _ y
            obtain ⟨y4, _⟩ := hok' b _ y2
            rw [z] at y3; cases y3
            exact y4
  cases hk : K.lookup a with
  | some o =>
    have z := KX a o hk
    rw [ha] at z
    cases z
    refine core (fun _ => none) (fun _ => .inl rfl) (.inr ⟨_, vs.toArray, _, hk, rfl, rfl, rfl, by rw [List.size_toArray, lenV]; exact hl,
      by simpa using rv⟩) (fun b u z => by have z' : (none : Option HO) = some u := z; cases z') (fun b z => absurd rfl z) fun z => absurd rfl z
  | none =>
    refine core (fun b => if b = a then some (.frz { cls := .type "list", data := .seq vs.toArray } (.lst (ns.map V.int))) else none)
      (fun b => ?_) (.inl (.inr ⟨{ cls := .type "list", data := .seq vs.toArray }, if_pos rfl⟩)) (fun b u z => ?_) (fun b z => ?_) fun _ => hk
    · by_cases hb : b = a
      · exact .inr ⟨_, _, if_pos hb⟩
      · exact .inl (if_neg hb)
    · by_cases hb : b = a
      · have z' := (if_pos hb).symm.trans z
        cases z'
        subst hb
        exact ⟨ha, by rw [List.length_map]; exact hl, vs, _, rv, ha⟩
      · have z' := (if_neg hb).symm.trans z
        cases z'
    · by_cases hb : b = a
      · exact hb
      · exact absurd (if_neg hb) z
/-- the goal that the head leaves, from the law's promise; the script's bits are told -/
theorem walk_g {l : PySem.W.OpenLaw} {n k : Nat} {q : Program} {loose : List Str} {XP : (Str → Option Value) → Heap → Prop}
    {YP : World → Heap → Prop} {d : DefRec} {K : Params → PySem.W.Frag} {sp : PySem.W.Frag → Sp} {x : Str}
    (hn : l.most = some n) (hn2 : n ≤ sizeLine) (hdf : d.params.defaults = []) (hr : Room k callerA)
    (hY : ∀ (w : World) (h : Heap), YP w h → (K w.params).In h)
    (F : ∀ (w : World) (mg : Str → Option Value) (fa : Addr) (h : Heap), (K w.params).In h → h.Ns mainGlobals mg → mg d.name = some (.ref fa) →
      ∃ fd : FuncData, (∀ (s : Shared) (u : Value), BindsTo s fd ⟨[u], []⟩ [(x, u)]) ∧
        ∀ bs : Heap, (K w.params).In bs → bs.Ns mainGlobals mg → FnG l.prog w (K w.params) mg bs CX0 k fa fd [x] (sp (K w.params)))
    (hsp : ∀ (K : PySem.W.Frag) (H : Hp) (a : Addr) (ns : List Int), ns.length ≤ n → (∀ z ∈ ns, Builtin.Int.intBits z ≤ 1048576) →
      Only H → SqL K H a (ns.map V.int) → sp K [.ref a] H (fun v _ => v = .bl true) fun _ _ _ => False) :
    PySem.W.WalkO q loose XP YP l.row.toRowW d [] (fun f vs => PySem.call f vs) := by
  refine Att.attach_callB hn hdf fun w s0 s1 mg mb fa o pm cd doc a vs ns G Y ho hd hcd hmg hobj hints hlen hbits hg => ?_
  have KX := hY w _ Y
  obtain ⟨fd, hb, hF⟩ := F w mg fa _ KX G.T.g hmg
  exact law_callG KX G.T.g G.T.b G.T.builtins G.T.nolimit hg hobj hints (Nat.le_trans hlen hn2) hr hF hb
    (fun H hO hS => hsp (K w.params) H a ns hlen hbits hO hS) fun H e s' z => z
end GR

namespace GR
open PySem PySem.Spec L2
/-! ## data stays when nothing tracked changes -/
theorem SqL_same {K : PySem.W.Frag} {H H' : Hp} {a : Addr} {xs : List V} (e : Same H H') (h : SqL K H a xs) : SqL K H' a xs := e.seq h
theorem SqT_same {K : PySem.W.Frag} {H H' : Hp} {a : Addr} {xs : List V} (e : Same H H') (h : SqT K H a xs) : SqT K H' a xs := by
  rcases h with (h | ⟨o, h⟩) | h
  · exact .inl (.inl (e _ _ h))
  · exact .inl (.inr ⟨o, e _ _ h⟩)
  · exact .inr h
mutual
theorem Dp_same {K : PySem.W.Frag} {H H' : Hp} (e : Same H H') : ∀ (d : PyData) (v : V), Dp K H v d → Dp K H' v d
  | _, _, .non => .non
  | _, _, .bl b => .bl b
  | _, _, .int i => .int i
  | _, _, .str x => .str x
  | .list ds, _, .lst h1 h2 => .lst (SqL_same e h1) (DpAll_same e ds _ h2)
  | .tuple ds, _, .tup h1 h2 => .tup (SqT_same e h1) (DpAll_same e ds _ h2)
theorem DpAll_same {K : PySem.W.Frag} {H H' : Hp} (e : Same H H') : ∀ (ds : List PyData) (vs : List V), DpAll K H vs ds → DpAll K H' vs ds
  | [], _, .nil => .nil
  | d :: ds, _, .cons h1 h2 => .cons (Dp_same e d _ h1) (DpAll_same e ds _ h2)
end
theorem same_upd {H : Hp} {p : Addr} {o : HO} (h : H p = none) : Same H (upd H p o) := fun b x e => by
  rw [upd_ne (ne_of_none e h)]
  exact e
/-- the class of data -/
def tyName : PyData → String
  | .none => "NoneType"
  | .bool _ => "bool"
  | .int _ => "int"
  | .str _ => "str"
  | .list _ => "list"
  | .tuple _ => "tuple"
  | .dict _ => "dict"
theorem SqT_ty {K : PySem.W.Frag} {H : Hp} {a : Addr} {xs : List V} (h : SqT K H a xs) : TyX K H (.ref a) (.type "tuple") := by
  rcases h with (h | ⟨o, h⟩) | ⟨o, its, n, h1, h2, _⟩
  · exact .base (.tup h)
  · exact .fTuple h
  · exact .kTuple h1 h2
theorem SqL_ty {K : PySem.W.Frag} {H : Hp} {a : Addr} {xs : List V} (h : SqL K H a xs) : TyX K H (.ref a) (.type "list") := by
  rcases h with (h | ⟨o, h⟩) | ⟨o, its, n, h1, h2, _⟩
  · exact .base (.lst h)
  · exact .base (.frz h)
  · exact .kList h1 h2
theorem Dp_ty {K : PySem.W.Frag} {H : Hp} : ∀ {d : PyData} {v : V}, Dp K H v d → TyX K H v (.type (tyName d))
  | _, _, .non => .base .non
  | _, _, .bl b => .base (.bl b)
  | _, _, .int i => .base (.int i)
  | _, _, .str x => .base (.str x)
  | _, _, .lst h _ => SqL_ty h
  | _, _, .tup h _ => SqT_ty h
/-! ## how long a repr is -/
mutual
def cost : PyData → Nat
  | .none => 4
  | .bool _ => 5
  | .int _ => 1921
  | .str x => (reprText x).length
  | .list xs => costAll xs + 4
  | .tuple xs => costAll xs + 4
  | .dict _ => 0
def costAll : List PyData → Nat
  | [] => 0
  | x :: xs => cost x + 2 + costAll xs
end
theorem textFrom_cost : ∀ (ts : List Str) (k : Nat) (acc : Str), (textFrom k acc ts).length ≤ acc.length + (ts.map (·.length + 2)).sum
  | [], k, acc => by show acc.length ≤ acc.length + 0; omega
  | t :: r, k, acc => by
    have ih := textFrom_cost r (k + 1) (acc ++ (if k > 0 then ", " else "" : String) ++ t)
    have e : (acc ++ (if k > 0 then ", " else "" : String) ++ t).length = acc.length + (if k > 0 then 2 else 0) + t.length := by
      rw [strLen_append, strLen_append]
      split <;> rfl
    rw [e] at ih
    show (textFrom (k + 1) (acc ++ (if k > 0 then ", " else "" : String) ++ t) r).length ≤ _
    rw [List.map_cons, List.sum_cons]
    have z : (if k > 0 then 2 else 0) ≤ 2 := by split <;> omega
    omega
theorem join_cost : ∀ ts : List Str, (Str.join ", " ts).length ≤ (ts.map (·.length + 2)).sum
  | [] => Nat.zero_le _
  | [x] => by show x.length ≤ _; simp
  | x :: y :: r => by
    have ih := join_cost (y :: r)
    show (x ++ ", " ++ Str.join ", " (y :: r)).length ≤ _
    have e2 : ((", " : String) : Str).length = 2 := rfl
    rw [strLen_append, strLen_append, e2, List.map_cons, List.sum_cons]
    omega
theorem tup_cost (ts : List Str) : (tupleText ts).length ≤ (ts.map (·.length + 2)).sum + 4 := by
  unfold tupleText
  have h := join_cost ts
  rw [strLen_append, strLen_append]
  have e1 : (("(" : String) : Str).length = 1 := rfl
  rw [e1]
  have e2 : ∀ b : Bool, ((if b = true then ",)" else ")" : String) : Str).length ≤ 2 := by
    intro b
    cases b
    · show (1 : Nat) ≤ 2; decide
    · show (2 : Nat) ≤ 2; decide
  have := e2 (ts.length == 1)
  omega
theorem lst_cost (ts : List Str) : (listText ts).length ≤ (ts.map (·.length + 2)).sum + 4 := by
  unfold listText
  have h := textFrom_cost ts 0 "["
  rw [strLen_append]
  have e1 : (("[" : String) : Str).length = 1 := rfl
  have e2 : (("]" : String) : Str).length = 1 := rfl
  rw [e1] at h
  rw [e2]
  omega
mutual
theorem shown_cost : ∀ d : PyData, d.showable = true → d.hasDict = false → d.shown.length ≤ cost d
  | .none, _, _ => by
    show (4 : Nat) ≤ cost .none
    rw [cost]
    exact Nat.le_refl _
  | .bool b, _, _ => by
    rw [cost]
    cases b
    · show (5 : Nat) ≤ 5; decide
    · show (4 : Nat) ≤ 5; decide
  | .int i, h, _ => by
    have h' : i.natAbs.log2 < 1920 := by simpa [PyData.showable] using h
    simpa only [cost, PyData.shown] using PyProof.Rows.int_text_len_1921 h'
  | .str x, _, _ => by simp only [cost, PyData.shown]; exact Nat.le_refl _
  | .list xs, h, h2 => by
    have a := shownAll_cost xs (by simpa only [PyData.showable] using h) (by simpa only [PyData.hasDict] using h2)
    have b := lst_cost (PyData.shownAll xs)
    simp only [cost, PyData.shown]
    omega
  | .tuple xs, h, h2 => by
    have a := shownAll_cost xs (by simpa only [PyData.showable] using h) (by simpa only [PyData.hasDict] using h2)
    have b := tup_cost (PyData.shownAll xs)
    simp only [cost, PyData.shown]
    omega
  | .dict _, _, h => by simp [PyData.hasDict] at h
theorem shownAll_cost : ∀ xs : List PyData, PyData.showableAll xs = true → PyData.hasDictAll xs = false → ((PyData.shownAll xs).map (·.length + 2)).sum ≤ costAll xs
  | [], _, _ => by simp [PyData.shownAll, costAll]
  | x :: xs, h, h2 => by
    have h' : x.showable = true ∧ PyData.showableAll xs = true := by simpa [PyData.showableAll] using h
    have h2' : x.hasDict = false ∧ PyData.hasDictAll xs = false := by simpa [PyData.hasDictAll] using h2
    have a := shown_cost x h'.1 h2'.1
    have b := shownAll_cost xs h'.2 h2'.2
    simp only [PyData.shownAll, costAll, List.map_cons, List.sum_cons]
    omega
end
/-- what repr's rule asks of the length -/
theorem repr_len {K : PySem.W.Frag} {H : Hp} {x : V} {d : PyData} (h : Dp K H x d) (hs : d.showable = true) (hc : cost d ≤ 1000000) : d.shown.length ≤ sizeLine :=
  Nat.le_trans (shown_cost d hs (Dp_noDict d x h)) (Nat.le_trans hc (by decide))
/-! ## a bag of draws: [digits left, number mixed] -/
structure BagV (x m : Int) : Prop where
  x0 : 0 ≤ x
  xb : x.natAbs < 2 ^ 1048576
  m0 : 0 ≤ m
  mb : m < 2147483648
/-- a bag stands at b -/
def Bag (H : Hp) (b : Addr) : Prop := ∃ x m : Int, H b = some (.lst [.int x, .int m]) ∧ BagV x m
/-- all but b is as it was -/
def But (b : Addr) (H H' : Hp) : Prop := ∀ c, c ≠ b → H' c = H c
theorem But.refl (b : Addr) (H : Hp) : But b H H := fun _ _ => rfl
theorem But.trans {b : Addr} {H H1 H2 : Hp} (x : But b H H1) (y : But b H1 H2) : But b H H2 := fun c hc => (y c hc).trans (x c hc)
theorem But.upd {b : Addr} {H : Hp} {o : HO} : But b H (upd H b o) := fun c hc => upd_ne hc
theorem bits_lt {z : Int} {n : Nat} (h : Builtin.Int.intBits z ≤ n) : z.natAbs < 2 ^ n := by
  unfold Builtin.Int.intBits at h
  by_cases e : z = 0
  · subst e
    exact Nat.pow_pos (by decide)
  · rw [if_neg (by simpa using e)] at h
    exact Nat.lt_of_lt_of_le Nat.lt_log2_self (Nat.pow_le_pow_right (by decide) h)
end GR
namespace GR
open PySem PySem.Spec L2
/-! ## for i, x in enumerate(xs) -/
theorem for_enum {K : PySem.W.Frag} {a : Addr} {xs : List V} {g : TG} {tb : TS} {D : Ends} {σ : L2.St} {H : Hp} (Pv : Nat → L2.St → Hp → Prop) (h0 : Pv 0 σ H)
    (hl : ∀ i σ H, i ≤ xs.length → Pv i σ H → SqL K H a xs)
    (hs : ∀ i x σ H T, xs[i]? = some x → Pv i σ H → H T = none →
      g (.ref T) σ (upd H T (.tup [.int (i : Nat), x])) fun σ2 H2 => tb { D with nx := Pv (i + 1), ct := Pv (i + 1), bk := D.nx } σ2 H2)
    (hd : ∀ σ H, Pv xs.length σ H → D.nx σ H) :
    ∃ W : Nat → Nat → L2.St → Hp → Prop, (∃ m, W 0 m σ H) ∧ ∀ i m σ H, W i m σ H →
      ((Ite K a).stop i H ∧ D.nx σ H) ∨ ((Ite K a).go i H ∧ ∃ N : L2.St → Hp → Prop, (∀ σ' H', N σ' H' → ∃ m', m' < m ∧ W (i + 1) m' σ' H') ∧
        ∀ x H', (Ite K a).yld i H x H' → g x σ H' fun σ2 H2 => tb { D with nx := N, ct := N, bk := D.nx } σ2 H2) := by
  refine ⟨fun i m σ H => m = xs.length - i ∧ i ≤ xs.length ∧ Pv i σ H, ⟨xs.length, by simp, Nat.zero_le _, h0⟩, ?_⟩
  rintro i m σ H ⟨rfl, hi, p⟩
  have q := hl i σ H hi p
  by_cases hlt : i < xs.length
  · refine .inr ⟨⟨xs, xs[i], q, by simp [hlt]⟩, Pv (i + 1), fun σ' H' p' => ⟨xs.length - (i + 1), by omega, rfl, hlt, p'⟩, fun x H' y => ?_⟩
    obtain ⟨T, z, e1, e2, e3, e4⟩ := y
    subst e1 e3
    exact hs i z σ H T (e4 xs q) p e2
  · have e : i = xs.length := by omega
    subst e
    exact .inl ⟨⟨xs, q, Nat.le_refl _⟩, hd σ H p⟩
theorem pow_and (k : Nat) : Builtin.bitAnd ((2 : Int) ^ k) ((2 : Int) ^ k - 1) = 0 := by
  have h : (0 : Int) ≤ 2 ^ k := Int.le_of_lt (Int.pow_pos (by decide))
  rw [Bits.bitAnd_mask k h]
  exact Int.emod_self
end GR
namespace GR
open PySem PySem.Spec L2
/-! ## cuts: the ways of an expression, a test or a statement meet in one property -/
section
variable {X : Cx} {e : Expr} {t : TE} {tt : TT} {st : Stmt} {ts : TS}
def tCut (t : TE) : TE := fun σ H Q => ∃ Pv : VK, t σ H Pv ∧ ∀ v H', Pv v H' → Q v H'
theorem pe_cut (h : PE X e t) : PE X e (tCut t) := ⟨fun pins s σ H Q I ⟨Pv, hw, hq⟩ =>
  thn (h.run pins s σ H Pv I hw) fun _ _ ⟨v, H', I', r, p⟩ => ⟨v, H', I', r, hq v H' p⟩⟩
def tCutT (t : TT) : TT := fun σ H Q => ∃ Pv : Bool → Hp → Prop, t σ H Pv ∧ ∀ v H', Pv v H' → Q v H'
theorem pt_cut (h : PT X e tt) : PT X e (tCutT tt) := ⟨fun pins s σ H Q I ⟨Pv, hw, hq⟩ =>
  thn (h.run pins s σ H Pv I hw) fun b _ ⟨H', I', p⟩ => ⟨H', I', hq b H' p⟩⟩
def tCutS (t : TS) : TS := fun D σ H => ∃ Pn : L2.St → Hp → Prop, t { D with nx := Pn } σ H ∧ ∀ σ' H', Pn σ' H' → D.nx σ' H'
theorem ps_cut (h : PS X st ts) : PS X st (tCutS ts) := ⟨fun pins s σ H D I ⟨Pn, hw, hq⟩ =>
  thn (h.run pins s σ H { D with nx := Pn } I hw) fun f _ z => by
    cases f with
    | next =>
      obtain ⟨σ', H', I', p⟩ := z
      exact ⟨σ', H', I', hq σ' H' p⟩
    | brk => exact z
    | cont => exact z
    | ret u => exact z⟩
end
end GR
namespace GR
open PySem PySem.Spec L2
/-- what was tracked stays, but at b -/
def SameX (b : Addr) (H H' : Hp) : Prop := ∀ c o, c ≠ b → H c = some o → H' c = some o
theorem SameX.refl (b : Addr) (H : Hp) : SameX b H H := fun _ _ _ h => h
theorem SameX.trans {b : Addr} {H H1 H2 : Hp} (x : SameX b H H1) (y : SameX b H1 H2) : SameX b H H2 := fun c o hc h => y c o hc (x c o hc h)
theorem But.x {b : Addr} {H H' : Hp} (h : But b H H') : SameX b H H' := fun c o hc e => (h c hc).trans e
theorem SameX.of {b : Addr} {H H' : Hp} (h : Same H H') : SameX b H H' := fun c o _ e => h c o e
theorem SameX.new {b : Addr} {H : Hp} {p : Addr} {o : HO} (h : H p = none) : SameX b H (upd H p o) := .of (same_upd h)
/-- b was no tracked thing -/
theorem SameX.same {b : Addr} {H H1 H2 : Hp} (x : Same H H1) (n : H b = none) (y : SameX b H1 H2) : Same H H2 := fun c o h => y c o (ne_of_none h n) (x c o h)
theorem SqT_x {K : PySem.W.Frag} {b : Addr} {H H' : Hp} {a : Addr} {xs : List V} (e : SameX b H H') (hb : ∃ l, H b = some (.lst l)) (h : SqT K H a xs) : SqT K H' a xs := by
  obtain ⟨l, hb⟩ := hb
  rcases h with (h | ⟨o, h⟩) | h
  · exact .inl (.inl (e _ _ (ne_of h hb (fun z => nomatch z)) h))
  · exact .inl (.inr ⟨o, e _ _ (ne_of h hb (fun z => nomatch z)) h⟩)
  · exact .inr h
/-- a list that is frozen or of the module stays -/
theorem Bag.ex {H : Hp} {b : Addr} (h : Bag H b) : ∃ l, H b = some (.lst l) := by
  obtain ⟨x, m, e, _⟩ := h
  exact ⟨_, e⟩
end GR

/-! # Data that nobody changes, beside objects that may be changed (M) -/
namespace GR
open PySem PySem.Spec L2
abbrev Mu := Addr → Prop
/-- the changeable objects stand -/
def Live (M : Mu) (H : Hp) : Prop := ∀ m, M m → H m ≠ none
/-- all but the changeable objects stays -/
structure Fx (M : Mu) (H H' : Hp) : Prop where
  keep : ∀ c o, ¬ M c → H c = some o → H' c = some o
  live : Live M H → Live M H'
theorem Fx.refl (M : Mu) (H : Hp) : Fx M H H := ⟨fun _ _ _ h => h, fun h => h⟩
theorem Fx.trans {M : Mu} {H H1 H2 : Hp} (a : Fx M H H1) (b : Fx M H1 H2) : Fx M H H2 := ⟨fun c o n h => b.keep c o n (a.keep c o n h), fun h => b.live (a.live h)⟩
theorem Fx.of {M : Mu} {H H' : Hp} (s : Same H H') : Fx M H H' := ⟨fun c o _ h => s c o h, fun h m hm => by
  cases e : H m with
  | none => exact absurd e (h m hm)
  | some o => rw [s m o e]; simp⟩
theorem Fx.new {M : Mu} {H : Hp} {p : Addr} {o : HO} (n : H p = none) : Fx M H (upd H p o) := .of (same_upd n)
theorem Live.ne {M : Mu} {H : Hp} (h : Live M H) {p : Addr} (n : H p = none) : ¬ M p := fun z => h p z n
def keyD : Key → PyData
  | .inl i => .int i
  | .inr x => .str x
/-- a list, a tuple that nobody changes: tracked and not of M, or of the module -/
def SqLx (M : Mu) (K : PySem.W.Frag) (H : Hp) (a : Addr) (xs : List V) : Prop := (Rd H a (.lst xs) ∧ ¬ M a) ∨
  ∃ (o : Obj) (its : Array Value) (n : Nat), K.lookup a = some o ∧ o.cls = .type "list" ∧ o.dict = none ∧ o.data = .seq its n ∧ its.size ≤ sizeLine ∧ Vals xs its.toList
def SqTx (M : Mu) (K : PySem.W.Frag) (H : Hp) (a : Addr) (xs : List V) : Prop := (Rd H a (.tup xs) ∧ ¬ M a) ∨
  ∃ (o : Obj) (its : Array Value) (n : Nat), K.lookup a = some o ∧ o.cls = .type "tuple" ∧ o.data = .seq its n ∧ its.size ≤ sizeLine ∧ Vals xs its.toList
theorem SqLx.sq {M : Mu} {K : PySem.W.Frag} {H : Hp} {a : Addr} {xs : List V} (h : SqLx M K H a xs) : SqL K H a xs := h.imp (fun z => z.1) id
theorem SqTx.sq {M : Mu} {K : PySem.W.Frag} {H : Hp} {a : Addr} {xs : List V} (h : SqTx M K H a xs) : SqT K H a xs := h.imp (fun z => z.1) id
theorem SqLx.new {M : Mu} {K : PySem.W.Frag} {H : Hp} {a : Addr} {xs : List V} (n : ¬ M a) : SqLx M K (upd H a (.lst xs)) a xs := .inl ⟨.inl upd_same, n⟩
theorem SqTx.new {M : Mu} {K : PySem.W.Frag} {H : Hp} {a : Addr} {xs : List V} (n : ¬ M a) : SqTx M K (upd H a (.tup xs)) a xs := .inl ⟨.inl upd_same, n⟩
theorem Rd_fx {M : Mu} {H H' : Hp} {a : Addr} {u : HO} (f : Fx M H H') (n : ¬ M a) (h : Rd H a u) : Rd H' a u := by
  rcases h with h | ⟨o, h⟩
  · exact .inl (f.keep _ _ n h)
  · exact .inr ⟨o, f.keep _ _ n h⟩
theorem SqLx.fx {M : Mu} {K : PySem.W.Frag} {H H' : Hp} {a : Addr} {xs : List V} (f : Fx M H H') (h : SqLx M K H a xs) : SqLx M K H' a xs := h.imp (fun z => ⟨Rd_fx f z.2 z.1, z.2⟩) id
theorem SqTx.fx {M : Mu} {K : PySem.W.Frag} {H H' : Hp} {a : Addr} {xs : List V} (f : Fx M H H') (h : SqTx M K H a xs) : SqTx M K H' a xs := h.imp (fun z => ⟨Rd_fx f z.2 z.1, z.2⟩) id
theorem Rd_ne {H : Hp} {a : Addr} {u : HO} (h : Rd H a u) : H a ≠ none := by
  rcases h with h | ⟨o, h⟩ <;> rw [h] <;> simp
theorem SqLx.more {M M' : Mu} {K : PySem.W.Frag} {H : Hp} {a : Addr} {xs : List V} (hM : ∀ c, M' c → M c ∨ H c = none) (h : SqLx M K H a xs) : SqLx M' K H a xs :=
  h.imp (fun z => ⟨z.1, fun m => (hM a m).elim z.2 (Rd_ne z.1)⟩) id
theorem SqTx.more {M M' : Mu} {K : PySem.W.Frag} {H : Hp} {a : Addr} {xs : List V} (hM : ∀ c, M' c → M c ∨ H c = none) (h : SqTx M K H a xs) : SqTx M' K H a xs :=
  h.imp (fun z => ⟨z.1, fun m => (hM a m).elim z.2 (Rd_ne z.1)⟩) id
mutual
inductive Dt (M : Mu) (K : PySem.W.Frag) (H : Hp) : V → PyData → Prop
  | non : Dt M K H .non .none
  | bl (b : Bool) : Dt M K H (.bl b) (.bool b)
  | int (i : Int) : Dt M K H (.int i) (.int i)
  | str (x : Str) : Dt M K H (.str x) (.str x)
  | lst {a : Addr} {xs : List V} {ds : List PyData} : SqLx M K H a xs → DtAll M K H xs ds → Dt M K H (.ref a) (.list ds)
  | tup {a : Addr} {xs : List V} {ds : List PyData} : SqTx M K H a xs → DtAll M K H xs ds → Dt M K H (.ref a) (.tuple ds)
  | dct {a : Addr} {kvs : List (Key × V)} {ks : List Key} {ds : List PyData} : H a = some (.dK kvs) → ¬ M a → ks = kvs.map (·.1) → DtAll M K H (kvs.map (·.2)) ds →
      Dt M K H (.ref a) (.dict ((ks.map keyD).zip ds))
inductive DtAll (M : Mu) (K : PySem.W.Frag) (H : Hp) : List V → List PyData → Prop
  | nil : DtAll M K H [] []
  | cons {v : V} {vs : List V} {d : PyData} {ds : List PyData} : Dt M K H v d → DtAll M K H vs ds → DtAll M K H (v :: vs) (d :: ds)
end
mutual
theorem Dt.fx {M : Mu} {K : PySem.W.Frag} {H H' : Hp} (f : Fx M H H') : ∀ {v : V} {d : PyData}, Dt M K H v d → Dt M K H' v d
  | _, _, .non => .non
  | _, _, .bl b => .bl b
  | _, _, .int i => .int i
  | _, _, .str x => .str x
  | _, _, .lst h a => .lst (h.fx f) (DtAll.fx f a)
  | _, _, .tup h a => .tup (h.fx f) (DtAll.fx f a)
  | _, _, .dct h n e a => .dct (f.keep _ _ n h) n e (DtAll.fx f a)
theorem DtAll.fx {M : Mu} {K : PySem.W.Frag} {H H' : Hp} (f : Fx M H H') : ∀ {vs : List V} {ds : List PyData}, DtAll M K H vs ds → DtAll M K H' vs ds
  | _, _, .nil => .nil
  | _, _, .cons a b => .cons (Dt.fx f a) (DtAll.fx f b)
end
mutual
/-- other changeable objects -/
theorem Dt.more {M M' : Mu} {K : PySem.W.Frag} {H : Hp} (hM : ∀ c, M' c → M c ∨ H c = none) : ∀ {v : V} {d : PyData}, Dt M K H v d → Dt M' K H v d
  | _, _, .non => .non
  | _, _, .bl b => .bl b
  | _, _, .int i => .int i
  | _, _, .str x => .str x
  | _, _, .lst h z => .lst (h.more hM) (DtAll.more hM z)
  | _, _, .tup h z => .tup (h.more hM) (DtAll.more hM z)
  | _, _, .dct (a := a) h n e z => .dct h (fun m => (hM a m).elim n fun q => by rw [q] at h; cases h) e (DtAll.more hM z)
theorem DtAll.more {M M' : Mu} {K : PySem.W.Frag} {H : Hp} (hM : ∀ c, M' c → M c ∨ H c = none) : ∀ {vs : List V} {ds : List PyData}, DtAll M K H vs ds → DtAll M' K H vs ds
  | _, _, .nil => .nil
  | _, _, .cons a b => .cons (Dt.more hM a) (DtAll.more hM b)
end
theorem DtAll.len {M : Mu} {K : PySem.W.Frag} {H : Hp} : ∀ {vs : List V} {ds : List PyData}, DtAll M K H vs ds → vs.length = ds.length
  | _, _, .nil => rfl
  | _, _, .cons _ h => by rw [List.length_cons, List.length_cons, h.len]
theorem DtAll.get {M : Mu} {K : PySem.W.Frag} {H : Hp} : ∀ {vs : List V} {ds : List PyData} {i : Nat} {d : PyData}, DtAll M K H vs ds → ds[i]? = some d → ∃ v, vs[i]? = some v ∧ Dt M K H v d
  | _, _, _, _, .nil, e => by simp at e
  | _, _, 0, _, .cons h _, e => by
    cases e
    exact ⟨_, rfl, h⟩
  | _, _, i + 1, d, .cons _ h, e => DtAll.get (i := i) h e
theorem DtAll.append {M : Mu} {K : PySem.W.Frag} {H : Hp} : ∀ {vs ws : List V} {ds es : List PyData}, DtAll M K H vs ds → DtAll M K H ws es → DtAll M K H (vs ++ ws) (ds ++ es)
  | _, _, _, _, .nil, h => h
  | _, _, _, _, .cons a b, h => .cons a (b.append h)
theorem DtAll.take {M : Mu} {K : PySem.W.Frag} {H : Hp} : ∀ {vs : List V} {ds : List PyData} (n : Nat), DtAll M K H vs ds → DtAll M K H (vs.take n) (ds.take n)
  | _, _, 0, _ => .nil
  | _, _, _ + 1, .nil => .nil
  | _, _, n + 1, .cons a b => .cons a (b.take n)
theorem DtAll.drop {M : Mu} {K : PySem.W.Frag} {H : Hp} : ∀ {vs : List V} {ds : List PyData} (n : Nat), DtAll M K H vs ds → DtAll M K H (vs.drop n) (ds.drop n)
  | _, _, 0, h => h
  | _, _, _ + 1, .nil => .nil
  | _, _, n + 1, .cons _ b => b.drop n
theorem DtAll.ints {M : Mu} {K : PySem.W.Frag} {H : Hp} : ∀ ns : List Int, DtAll M K H (ns.map V.int) (ns.map PyData.int)
  | [] => .nil
  | n :: ns => .cons (.int n) (.ints ns)
mutual
/-- without dicts it is plain data -/
theorem Dt.dp {M : Mu} {K : PySem.W.Frag} {H : Hp} : ∀ {v : V} {d : PyData}, d.hasDict = false → Dt M K H v d → Dp K H v d
  | _, _, _, .non => .non
  | _, _, _, .bl b => .bl b
  | _, _, _, .int i => .int i
  | _, _, _, .str x => .str x
  | _, .list ds, e, .lst h a => .lst h.sq (DtAll.dp (by simpa only [PyData.hasDict] using e) a)
  | _, .tuple ds, e, .tup h a => .tup h.sq (DtAll.dp (by simpa only [PyData.hasDict] using e) a)
  | _, _, e, .dct _ _ _ _ => by simp [PyData.hasDict] at e
theorem DtAll.dp {M : Mu} {K : PySem.W.Frag} {H : Hp} : ∀ {vs : List V} {ds : List PyData}, PyData.hasDictAll ds = false → DtAll M K H vs ds → DpAll K H vs ds
  | _, _, _, .nil => .nil
  | _, d :: ds, e, .cons a b => by
    have e' : d.hasDict = false ∧ PyData.hasDictAll ds = false := by simpa [PyData.hasDictAll] using e
    exact .cons (Dt.dp e'.1 a) (DtAll.dp e'.2 b)
end
theorem Dt.ty {M : Mu} {K : PySem.W.Frag} {H : Hp} {v : V} {d : PyData} (h : Dt M K H v d) : TyX K H v (.type (tyName d)) := by
  cases h with
  | non => exact .base .non
  | bl b => exact .base (.bl b)
  | int i => exact .base (.int i)
  | str x => exact .base (.str x)
  | lst h _ => exact SqL_ty h.sq
  | tup h _ => exact SqT_ty h.sq
  | dct h _ _ _ => exact .base (.dK h)
theorem Live.same {M : Mu} {H H' : Hp} (h : Live M H) (s : Same H H') : Live M H' := (Fx.of s).live h
theorem Dt.sm {M : Mu} {K : PySem.W.Frag} {H H' : Hp} {v : V} {d : PyData} (h : Dt M K H v d) (s : Same H H') : Dt M K H' v d := h.fx (.of s)
theorem DtAll.sm {M : Mu} {K : PySem.W.Frag} {H H' : Hp} {vs : List V} {ds : List PyData} (h : DtAll M K H vs ds) (s : Same H H') : DtAll M K H' vs ds := h.fx (.of s)
/-! ## expressions over data -/
abbrev RD := L2.St → Hp → PyData → Prop
def tD (M : Mu) (K : PySem.W.Frag) (r : RD) : TE := fun σ H Q => Live M H ∧ ∃ d, r σ H d ∧ ∀ H' v, Same H H' → Dt M K H' v d → Q v H'
structure PD (X : Cx) (M : Mu) (e : Expr) (r : RD) : Prop where
  run : PE X e (tD M X.K r)
  mono : ∀ σ H H' d, Same H H' → r σ H d → r σ H' d
abbrev RDs := L2.St → Hp → List PyData → Prop
def tDs (M : Mu) (K : PySem.W.Frag) (r : RDs) : TA := fun σ H Q => Live M H ∧ ∃ ds, r σ H ds ∧ ∀ H' vs, Same H H' → DtAll M K H' vs ds → Q vs H'
structure PDs (X : Cx) (M : Mu) (es : List Expr) (r : RDs) : Prop where
  run : PA X es (tDs M X.K r)
  mono : ∀ σ H H' d, Same H H' → r σ H d → r σ H' d
/-- a test over data -/
abbrev RB := L2.St → Hp → Bool → Prop
def tDB (M : Mu) (r : RB) : TT := fun σ H Q => Live M H ∧ ∃ b, r σ H b ∧ ∀ H', Same H H' → Q b H'
structure PB (X : Cx) (M : Mu) (e : Expr) (r : RB) : Prop where
  run : PT X e (tDB M r)
  mono : ∀ σ H H' d, Same H H' → r σ H d → r σ H' d
section
variable {X : Cx} (M : Mu)
/-- weaker readings -/
theorem pe_imp {X : Cx} {e : Expr} {t u : TE} (h : PE X e t) (i : ∀ σ H Q, u σ H Q → t σ H Q) : PE X e u := ⟨fun pins s σ H Q I q => h.run pins s σ H Q I (i σ H Q q)⟩
theorem pt_imp {X : Cx} {e : Expr} {t u : TT} (h : PT X e t) (i : ∀ σ H Q, u σ H Q → t σ H Q) : PT X e u := ⟨fun pins s σ H Q I q => h.run pins s σ H Q I (i σ H Q q)⟩
theorem pa_imp {X : Cx} {e : List Expr} {t u : TA} (h : PA X e t) (i : ∀ σ H Q, u σ H Q → t σ H Q) : PA X e u := ⟨fun pos pins s σ H Q I q => h.run pos pins s σ H Q I (i σ H Q q)⟩
theorem pd_int {i j pos} : PD X M (.Constant (.int i) j pos) (fun _ _ d => d = .int i) :=
  ⟨pe_imp pe_int fun σ H Q ⟨_, d, e, q⟩ => by subst e; exact q H _ (Same.refl H) (.int i), fun _ _ _ _ _ h => h⟩
theorem pd_bl {b j pos} : PD X M (.Constant (.bool b) j pos) (fun _ _ d => d = .bool b) :=
  ⟨pe_imp pe_bl fun σ H Q ⟨_, d, e, q⟩ => by subst e; exact q H _ (Same.refl H) (.bl b), fun _ _ _ _ _ h => h⟩
theorem pd_non {j pos} : PD X M (.Constant .none j pos) (fun _ _ d => d = .none) :=
  ⟨pe_imp pe_non fun σ H Q ⟨_, d, e, q⟩ => by subst e; exact q H _ (Same.refl H) .non, fun _ _ _ _ _ h => h⟩
theorem pd_str {x j pos} : PD X M (.Constant (.str x) j pos) (fun _ _ d => d = .str x) :=
  ⟨pe_imp pe_str fun σ H Q ⟨_, d, e, q⟩ => by subst e; exact q H _ (Same.refl H) (.str x), fun _ _ _ _ _ h => h⟩
def rVar (M : Mu) (K : PySem.W.Frag) (i : Nat) : RD := fun σ H d => ∃ v, σ[i]? = some (some v) ∧ Dt M K H v d
theorem pd_var (i : Nat) {x : Str} {pos : Pos} (hN : X.N[i]? = some x := by rfl) (hv : Vis X.env.scope x := by first | exact Or.inl rfl | exact Or.inr (Or.inl rfl) | exact Or.inr (Or.inr rfl))
    (hd : (x == ("__debug__" : Str)) = false := by decide) (hcd : (x == ("__classdict__" : Str)) = false := by decide) : PD X M (.Name x pos) (rVar M X.K i) :=
  ⟨pe_imp (pe_var hN hv hd hcd) fun σ H Q ⟨_, d, ⟨v, e, h⟩, q⟩ => ⟨v, e, q H v (Same.refl H) h⟩, fun _ _ _ _ f ⟨v, e, h⟩ => ⟨v, e, h.sm f⟩⟩
/-- an expression of another kind, told by what it gives -/
theorem pd_of {e : Expr} {t : TE} {r : RD} (h : PE X e t) (i : ∀ σ H d, Live M H → r σ H d → ∀ Q : VK, (∀ H' v, Same H H' → Dt M X.K H' v d → Q v H') → t σ H Q) (m : ∀ σ H H' d, Same H H' → r σ H d → r σ H' d) : PD X M e r :=
  ⟨pe_imp h fun σ H Q ⟨hl, d, hr, q⟩ => i σ H d hl hr Q q, m⟩
def rNilD : RDs := fun _ _ ds => ds = []
def rConsD (r : RD) (rs : RDs) : RDs := fun σ H ds => ∃ d es, r σ H d ∧ rs σ H es ∧ ds = d :: es
theorem pds_nil : PDs X M [] rNilD := ⟨pa_imp pa_nil fun σ H Q ⟨_, ds, e, q⟩ => by subst e; exact q H [] (Same.refl H) .nil, fun _ _ _ _ _ h => h⟩
theorem pds_cons {e : Expr} {es : List Expr} {r : RD} {rs : RDs} (h : PD X M e r) (hs : PDs X M es rs) (hst : starEach (e :: es) X.env = (false, eval e X.env) :: starEach es X.env := by rfl) : PDs X M (e :: es) (rConsD r rs) :=
  ⟨pa_imp (pa_cons h.run hs.run hst) fun σ H Q ⟨hl, ds, ⟨d, es', h1, h2, e⟩, q⟩ => by
    subst e
    exact ⟨hl, d, h1, fun H1 v f1 d1 => ⟨hl.same f1, es', hs.mono _ _ _ _ f1 h2, fun H2 vs f2 d2 => q H2 _ (f1.trans f2) (.cons (d1.sm f2) d2)⟩⟩,
    fun σ H H' ds f ⟨d, es', h1, h2, e⟩ => ⟨d, es', h.mono _ _ _ _ f h1, hs.mono _ _ _ _ f h2, e⟩⟩
def rTupD (rs : RDs) : RD := fun σ H d => ∃ ds, rs σ H ds ∧ ds.length ≤ 1000 ∧ d = .tuple ds
def rLstD (rs : RDs) : RD := fun σ H d => ∃ ds, rs σ H ds ∧ ds.length ≤ 1000 ∧ d = .list ds
theorem le1000 {n : Nat} (h : n ≤ 1000) : n ≤ sizeLine := Nat.le_trans h (by decide)
theorem pd_tup {es : List Expr} {rs : RDs} {k pos} (h : PDs X M es rs) : PD X M (.Tuple es k pos) (rTupD rs) :=
  ⟨pe_imp (pe_tup h.run) fun σ H Q ⟨hl, d, ⟨ds, h1, hz, e⟩, q⟩ => by
    subst e
    refine ⟨hl, ds, h1, fun H1 vs f1 d1 => ⟨by rw [d1.len]; exact le1000 hz, fun p np => q _ _ (f1.trans (same_upd np)) (.tup (.new ((hl.same f1).ne np)) (d1.sm (same_upd np)))⟩⟩,
    fun σ H H' d f ⟨ds, h1, hz, e⟩ => ⟨ds, h.mono _ _ _ _ f h1, hz, e⟩⟩
theorem pd_lst {es : List Expr} {rs : RDs} {pos} (h : PDs X M es rs) : PD X M (.List es pos) (rLstD rs) :=
  ⟨pe_imp (pe_lst h.run) fun σ H Q ⟨hl, d, ⟨ds, h1, hz, e⟩, q⟩ => by
    subst e
    refine ⟨hl, ds, h1, fun H1 vs f1 d1 => ⟨by rw [d1.len]; exact le1000 hz, fun p np => q _ _ (f1.trans (same_upd np)) (.lst (.new ((hl.same f1).ne np)) (d1.sm (same_upd np)))⟩⟩,
    fun σ H H' d f ⟨ds, h1, hz, e⟩ => ⟨ds, h.mono _ _ _ _ f h1, hz, e⟩⟩
/-- flat values as data -/
def toD : V → Option PyData
  | .non => some .none
  | .bl b => some (.bool b)
  | .int i => some (.int i)
  | .str x => some (.str x)
  | _ => none
theorem toD_dt {M : Mu} {K : PySem.W.Frag} {H : Hp} {v : V} {d : PyData} (h : toD v = some d) : Dt M K H v d := by
  cases v <;> simp only [toD, Option.some.injEq] at h <;> first | (subst h; constructor) | cases h
theorem dt_int {M : Mu} {K : PySem.W.Frag} {H : Hp} {v : V} {i : Int} (h : Dt M K H v (.int i)) : v = .int i := by cases h; rfl
theorem dt_bl {M : Mu} {K : PySem.W.Frag} {H : Hp} {v : V} {b : Bool} (h : Dt M K H v (.bool b)) : v = .bl b := by cases h; rfl
theorem dt_str {M : Mu} {K : PySem.W.Frag} {H : Hp} {v : V} {x : Str} (h : Dt M K H v (.str x)) : v = .str x := by cases h; rfl
/-- an operation on two ints -/
def rOpD (r1 r2 : RD) (C : Int → Int → Prop) (g : Int → Int → V) : RD := fun σ H d => ∃ i j, r1 σ H (.int i) ∧ r2 σ H (.int j) ∧ C i j ∧ toD (g i j) = some d
theorem rOpD_mono {r1 r2 : RD} {C g} (m1 : ∀ σ H H' d, Same H H' → r1 σ H d → r1 σ H' d) (m2 : ∀ σ H H' d, Same H H' → r2 σ H d → r2 σ H' d) :
    ∀ σ H H' d, Same H H' → rOpD r1 r2 C g σ H d → rOpD r1 r2 C g σ H' d := fun σ H H' d f ⟨i, j, h1, h2, h⟩ => ⟨i, j, m1 _ _ _ _ f h1, m2 _ _ _ _ f h2, h⟩
theorem pd_op {op : Operator} {a b : Expr} {r1 r2 : RD} {C : Int → Int → Prop} {g : Int → Int → V} {pos} (ho : OpR X (binaryOp op) (rI C g)) (h1 : PD X M a r1) (h2 : PD X M b r2) : PD X M (.BinOp a op b pos) (rOpD r1 r2 C g) :=
  pd_of M (pe_op ho h1.run h2.run) (fun σ H d hl ⟨i, j, a1, a2, hc, e⟩ Q q => ⟨hl, _, a1, fun H1 v f1 d1 => ⟨hl.same f1, _, h2.mono _ _ _ _ f1 a2, fun H2 w f2 d2 =>
    ⟨i, j, dt_int d1, dt_int d2, hc, q H2 _ (f1.trans f2) (toD_dt e)⟩⟩⟩) (rOpD_mono h1.mono h2.mono)
theorem pd_op0 {op : Operator} {a b : Expr} {r1 r2 : RD} {g : Int → Int → V} {pos} (ho : OpR X (binaryOp op) (rI0 g)) (h1 : PD X M a r1) (h2 : PD X M b r2) : PD X M (.BinOp a op b pos) (rOpD r1 r2 (fun _ _ => True) g) :=
  pd_of M (pe_op ho h1.run h2.run) (fun σ H d hl ⟨i, j, a1, a2, hc, e⟩ Q q => ⟨hl, _, a1, fun H1 v f1 d1 => ⟨hl.same f1, _, h2.mono _ _ _ _ f1 a2, fun H2 w f2 d2 =>
    ⟨i, j, dt_int d1, dt_int d2, q H2 _ (f1.trans f2) (toD_dt e)⟩⟩⟩) (rOpD_mono h1.mono h2.mono)
/-- a comparison of two ints -/
theorem pd_cmp {op : CmpOp} {a b : Expr} {r1 r2 : RD} {g : Int → Int → V} {pos} (ho : OpR X (compareOp op) (rI0 g)) (h1 : PD X M a r1) (h2 : PD X M b r2) (hm : lastMarks [op] [b] = false := by first | exact nomark _ | with_unfolding_all rfl) : PD X M (.Compare a [op] [b] pos) (rOpD r1 r2 (fun _ _ => True) g) :=
  pd_of M (pe_cmpR ho h1.run h2.run hm) (fun σ H d hl ⟨i, j, a1, a2, hc, e⟩ Q q => ⟨hl, _, a1, fun H1 v f1 d1 => ⟨hl.same f1, _, h2.mono _ _ _ _ f1 a2, fun H2 w f2 d2 =>
    ⟨i, j, dt_int d1, dt_int d2, q H2 _ (f1.trans f2) (toD_dt e)⟩⟩⟩) (rOpD_mono h1.mono h2.mono)
theorem noDict_of {d : PyData} (h : SeqAt.shaped d = true) : d.hasDict = false := PyData.hasDict_of_canLay d (SeqAt.canLay_of_shaped h)
def rEqv (neg : Bool) (r1 r2 : RD) : RD := fun σ H d => ∃ x y, r1 σ H x ∧ r2 σ H y ∧ SeqAt.shaped x = true ∧ SeqAt.shaped y = true ∧ d = .bool (if neg then !PyData.eqv x y else PyData.eqv x y)
theorem rEqv_mono {neg : Bool} {r1 r2 : RD} (m1 : ∀ σ H H' d, Same H H' → r1 σ H d → r1 σ H' d) (m2 : ∀ σ H H' d, Same H H' → r2 σ H d → r2 σ H' d) :
    ∀ σ H H' d, Same H H' → rEqv neg r1 r2 σ H d → rEqv neg r1 r2 σ H' d := fun σ H H' d f ⟨i, j, h1, h2, h⟩ => ⟨i, j, m1 _ _ _ _ f h1, m2 _ _ _ _ f h2, h⟩
theorem pd_eq {k : Nat} {a b : Expr} {r1 r2 : RD} {pos} (hr : Room k X.A) (h1 : PD X M a r1) (h2 : PD X M b r2) (hm : lastMarks [.Eq] [b] = false := by first | exact nomark _ | with_unfolding_all rfl) : PD X M (.Compare a [.Eq] [b] pos) (rEqv false r1 r2) :=
  pd_of M (pe_cmpR (op_eqD hr.units) h1.run h2.run hm) (fun σ H d hl ⟨x, y, a1, a2, s1, s2, e⟩ Q q => ⟨hl, _, a1, fun H1 v f1 d1 => ⟨hl.same f1, _, h2.mono _ _ _ _ f1 a2, fun H2 w f2 d2 =>
    ⟨x, y, (d1.sm f2).dp (noDict_of s1), d2.dp (noDict_of s2), s1, s2, q H2 _ (f1.trans f2) (by subst e; exact .bl _)⟩⟩⟩) (rEqv_mono h1.mono h2.mono)
theorem pd_ne {k : Nat} {a b : Expr} {r1 r2 : RD} {pos} (hr : Room k X.A) (h1 : PD X M a r1) (h2 : PD X M b r2) (hm : lastMarks [.NotEq] [b] = false := by first | exact nomark _ | with_unfolding_all rfl) : PD X M (.Compare a [.NotEq] [b] pos) (rEqv true r1 r2) :=
  pd_of M (pe_cmpR (op_neD hr.units) h1.run h2.run hm) (fun σ H d hl ⟨x, y, a1, a2, s1, s2, e⟩ Q q => ⟨hl, _, a1, fun H1 v f1 d1 => ⟨hl.same f1, _, h2.mono _ _ _ _ f1 a2, fun H2 w f2 d2 =>
    ⟨x, y, (d1.sm f2).dp (noDict_of s1), d2.dp (noDict_of s2), s1, s2, q H2 _ (f1.trans f2) (by subst e; exact .bl _)⟩⟩⟩) (rEqv_mono h1.mono h2.mono)
end
end GR

namespace GR
open PySem PySem.Spec L2
section
variable {X : Cx}
/-- list + list, both only read -/
def rCatS (K : PySem.W.Frag) : R2 := fun x y H Q => ∃ l b xs zs, x = .ref l ∧ y = .ref b ∧ SqL K H l xs ∧ SqL K H b zs ∧ xs.length + zs.length ≤ sizeLine ∧
  ∀ p, H p = none → Q (.ref p) (upd H p (.lst (xs ++ zs)))
theorem op_catS : OpR X (binaryOp .Add) (rCatS X.K) := by
  intro pins s σ H x y v u Q I rx ry h
  obtain ⟨l, b, xs, zs, rfl, rfl, hl, hb, hz, q⟩ := h
  cases rx
  cases ry
  obtain ⟨its, r, ⟨⟨cls, dd, data, sl⟩, n, ho, hc, _, hd⟩, _⟩ := I.list hl
  obtain ⟨its2, r2, ⟨⟨cls2, dd2, data2, sl2⟩, n2, ho2, hc2, _, hd2⟩, _⟩ := I.list hb
  simp only at hc hd hc2 hd2
  subst hc hd hc2 hd2
  have z1 := r.length
  have z2 := r2.length
  refine PySem.concat_meets ⟨_, ho, rfl⟩ ⟨_, ho2, rfl⟩ PySem.noFill_list_add PySem.seq_list_add PySem.F.slot_list_add PySem.F.entry_list_add
    (PySem.F.args_list_add_2 _ _) (PyProof.Rows.list_addW l b its.toArray its2.toArray n n2 dd dd2 sl sl2 (by rw [List.size_toArray, List.size_toArray]; omega)) ⟨ho, ho2, ?_⟩
  have ea : its.toArray ++ its2.toArray = (its ++ its2).toArray := by simp
  rw [ea]
  exact ⟨.ref _, _, I.lnew (t' := s.toks) (r.append r2) (by rw [List.length_append]; omega), rfl, q _ I.fresh⟩
end
section
variable {X : Cx} (M : Mu)
theorem dt_list {M : Mu} {K : PySem.W.Frag} {H : Hp} {v : V} {ds : List PyData} (h : Dt M K H v (.list ds)) : ∃ a xs, v = .ref a ∧ SqLx M K H a xs ∧ DtAll M K H xs ds := by
  cases h with
  | lst h a => exact ⟨_, _, rfl, h, a⟩
theorem dt_tuple {M : Mu} {K : PySem.W.Frag} {H : Hp} {v : V} {ds : List PyData} (h : Dt M K H v (.tuple ds)) : ∃ a xs, v = .ref a ∧ SqTx M K H a xs ∧ DtAll M K H xs ds := by
  cases h with
  | tup h a => exact ⟨_, _, rfl, h, a⟩
/-- list + list -/
def rCatD (r1 r2 : RD) : RD := fun σ H d => ∃ xs ys, r1 σ H (.list xs) ∧ r2 σ H (.list ys) ∧ xs.length + ys.length ≤ sizeLine ∧ d = .list (xs ++ ys)
theorem pd_cat {a b : Expr} {r1 r2 : RD} {pos} (h1 : PD X M a r1) (h2 : PD X M b r2) : PD X M (.BinOp a .Add b pos) (rCatD r1 r2) :=
  pd_of M (pe_op op_catS h1.run h2.run) (fun σ H d hl ⟨xs, ys, a1, a2, hz, e⟩ Q q => ⟨hl, _, a1, fun H1 v f1 d1 => ⟨hl.same f1, _, h2.mono _ _ _ _ f1 a2, fun H2 w f2 d2 => by
    subst e
    obtain ⟨p1, vs1, rfl, s1, da1⟩ := dt_list (d1.sm f2)
    obtain ⟨p2, vs2, rfl, s2, da2⟩ := dt_list d2
    refine ⟨p1, p2, vs1, vs2, rfl, rfl, s1.sq, s2.sq, by rw [da1.len, da2.len]; exact hz, fun p np => q _ _ ((f1.trans f2).trans (same_upd np)) (.lst (.new ((hl.same (f1.trans f2)).ne np)) ((da1.append da2).sm (same_upd np)))⟩⟩⟩)
    (fun σ H H' d f ⟨xs, ys, a1, a2, h⟩ => ⟨xs, ys, h1.mono _ _ _ _ f a1, h2.mono _ _ _ _ f a2, h⟩)
theorem atI_dt {M : Mu} {K : PySem.W.Frag} {H : Hp} {vs : List V} {ds : List PyData} {i : Int} {d : PyData} (h : DtAll M K H vs ds) (e : atI ds i = some d) : ∃ v, atI vs i = some v ∧ Dt M K H v d := by
  unfold atI at *
  rw [h.len]
  cases z : ixN ds.length i with
  | none => rw [z] at e; cases e
  | some j =>
    rw [z] at e
    exact h.get e
def rIxLD (r1 r2 : RD) : RD := fun σ H d => ∃ ds i, r1 σ H (.list ds) ∧ r2 σ H (.int i) ∧ atI ds i = some d
def rIxTD (r1 r2 : RD) : RD := fun σ H d => ∃ ds i, r1 σ H (.tuple ds) ∧ r2 σ H (.int i) ∧ atI ds i = some d
theorem pd_ixL {a b : Expr} {r1 r2 : RD} {pos} (h1 : PD X M a r1) (h2 : PD X M b r2) (hp : PlainIx b := by exact fun _ _ => rfl) : PD X M (.Subscript a b pos) (rIxLD r1 r2) :=
  pd_of M (pe_ix ix_list h1.run h2.run hp) (fun σ H d hl ⟨ds, i, a1, a2, e⟩ Q q => ⟨hl, _, a1, fun H1 v f1 d1 => ⟨hl.same f1, _, h2.mono _ _ _ _ f1 a2, fun H2 w f2 d2 => by
    obtain ⟨p1, vs1, rfl, s1, da1⟩ := dt_list (d1.sm f2)
    obtain ⟨v, ev, dv⟩ := atI_dt da1 e
    exact ⟨p1, vs1, i, v, rfl, dt_int d2, s1.sq, ev, q _ _ (f1.trans f2) dv⟩⟩⟩)
    (fun σ H H' d f ⟨xs, ys, a1, a2, h⟩ => ⟨xs, ys, h1.mono _ _ _ _ f a1, h2.mono _ _ _ _ f a2, h⟩)
theorem pd_ixT {a b : Expr} {r1 r2 : RD} {pos} (h1 : PD X M a r1) (h2 : PD X M b r2) (hp : PlainIx b := by exact fun _ _ => rfl) : PD X M (.Subscript a b pos) (rIxTD r1 r2) :=
  pd_of M (pe_ix ix_tup h1.run h2.run hp) (fun σ H d hl ⟨ds, i, a1, a2, e⟩ Q q => ⟨hl, _, a1, fun H1 v f1 d1 => ⟨hl.same f1, _, h2.mono _ _ _ _ f1 a2, fun H2 w f2 d2 => by
    obtain ⟨p1, vs1, rfl, s1, da1⟩ := dt_tuple (d1.sm f2)
    obtain ⟨v, ev, dv⟩ := atI_dt da1 e
    exact ⟨p1, vs1, i, v, rfl, dt_int d2, s1.sq, ev, q _ _ (f1.trans f2) dv⟩⟩⟩)
    (fun σ H H' d f ⟨xs, ys, a1, a2, h⟩ => ⟨xs, ys, h1.mono _ _ _ _ f a1, h2.mono _ _ _ _ f a2, h⟩)
/-- len of a list, a tuple -/
def rLenD (r : RD) : RD := fun σ H d => ∃ ds, (r σ H (.list ds) ∨ r σ H (.tuple ds)) ∧ d = .int ds.length
theorem pd_len {e : Expr} {r : RD} {p pos} (hm : X.mg "len" = none) (h : PD X M e r) (hg : Gl X "len" := by rfl) (he : starEach (e :: []) X.env = (false, eval e X.env) :: starEach [] X.env := by rfl) (hpl : (backTo pos (starEach [] X.env)).any (·.1) = false := by rfl) :
    PD X M (.Call (.Name "len" p) [e] [] pos) (rLenD r) :=
  pd_of M (pe_callB call_len_seq hg hm PySem.boot_len (pa_cons h.run pa_nil he) (by decide) (by decide) he hpl) (fun σ H d hl ⟨ds, a1, e⟩ Q q => by
    subst e
    rcases a1 with a1 | a1
    · refine ⟨hl, _, a1, fun H1 v f1 d1 => ?_⟩
      obtain ⟨p1, vs1, rfl, s1, da1⟩ := dt_list d1
      refine ⟨p1, vs1, rfl, .inl s1.sq, ?_⟩
      rw [da1.len]
      exact q _ _ f1 (.int _)
    · refine ⟨hl, _, a1, fun H1 v f1 d1 => ?_⟩
      obtain ⟨p1, vs1, rfl, s1, da1⟩ := dt_tuple d1
      refine ⟨p1, vs1, rfl, .inr s1.sq, ?_⟩
      rw [da1.len]
      exact q _ _ f1 (.int _))
    (fun σ H H' d f ⟨ds, a1, e⟩ => ⟨ds, a1.imp (h.mono _ _ _ _ f) (h.mono _ _ _ _ f), e⟩)
/-- isinstance(x, T), T a built-in class -/
def rIsD (n : String) (r : RD) : RD := fun σ H d => ∃ x b, r σ H x ∧ kitB (tyName x) n = some b ∧ d = .bool b
theorem pd_isi {e : Expr} {r : RD} {n : String} {x : Str} {p p2 pos} (hm : X.mg "isinstance" = none) (hx : X.mg x = none) (hv : bootBuiltins x = some (.type n)) (h : PD X M e r) (hg : Gl X "isinstance" := by rfl) (hgx : Gl X x := by rfl)
    (hn : x ≠ "__name__" := by decide) (hd : (x == ("__debug__" : Str)) = false := by decide)
    (he : starEach (e :: [.Name x p2]) X.env = (false, eval e X.env) :: starEach [.Name x p2] X.env := by rfl) (he2 : starEach [.Name x p2] X.env = (false, eval (.Name x p2) X.env) :: starEach [] X.env := by rfl) (hpl : (backTo pos (starEach [.Name x p2] X.env)).any (·.1) = false := by rfl) :
    PD X M (.Call (.Name "isinstance" p) [e, .Name x p2] [] pos) (rIsD n r) :=
  pd_of M (pe_callB call_isi hg hm (by decide +kernel) (pa_cons h.run (pa_cons (pe_bltn (v := .ty n) hgx hx hv rfl hn hd) pa_nil he2) he) (by decide) (by decide) he hpl) (fun σ H d hl ⟨y, b, a1, k, e⟩ Q q => by
    subst e
    refine ⟨hl, _, a1, fun H1 v f1 d1 => ?_⟩
    exact ⟨v, .ty n, _, _, b, rfl, .ty n, d1.ty, kit_ty k, q _ _ f1 (.bl b)⟩)
    (fun σ H H' d f ⟨y, b, a1, k, e⟩ => ⟨y, b, h.mono _ _ _ _ f a1, k, e⟩)
/-- not x, x a bool -/
def rNotD (r : RD) : RD := fun σ H d => ∃ b, r σ H (.bool b) ∧ d = .bool (!b)
theorem pd_not {e : Expr} {r : RD} {pos} (h : PD X M e r) : PD X M (.UnaryOp .Not e pos) (rNotD r) :=
  pd_of M (pe_not h.run) (fun σ H d hl ⟨b, a1, e⟩ Q q => ⟨hl, _, a1, fun H1 v f1 d1 => ⟨b, dt_bl d1, by subst e; exact q _ _ f1 (.bl _)⟩⟩) (fun σ H H' d f ⟨b, a1, e⟩ => ⟨b, h.mono _ _ _ _ f a1, e⟩)
/-- x and y, x or y, x a bool -/
def rAndD (r1 r2 : RD) : RD := fun σ H d => ∃ b, r1 σ H (.bool b) ∧ (if b = true then r2 σ H d else d = .bool false)
def rOrD (r1 r2 : RD) : RD := fun σ H d => ∃ b, r1 σ H (.bool b) ∧ (if b = true then d = .bool true else r2 σ H d)
theorem pd_one {op} {a : Expr} {r : RD} {pos} (h : PD X M a r) : PD X M (.BoolOp op [a] pos) r := ⟨pe_one h.run, h.mono⟩
theorem pd_and {a b : Expr} {rest : List Expr} {r1 r2 : RD} {pos} (h1 : PD X M a r1) (h2 : PD X M (.BoolOp .And (b :: rest) pos) r2) : PD X M (.BoolOp .And (a :: b :: rest) pos) (rAndD r1 r2) :=
  pd_of M (pe_and h1.run h2.run) (fun σ H d hl ⟨c, a1, e⟩ Q q => ⟨hl, _, a1, fun H1 v f1 d1 => ⟨c, dt_bl d1, by
    cases c with
    | true =>
      rw [if_pos rfl] at e ⊢
      exact ⟨hl.same f1, d, h2.mono _ _ _ _ f1 e, fun H2 w f2 d2 => q _ _ (f1.trans f2) d2⟩
    | false =>
      rw [if_neg Bool.false_ne_true] at e ⊢
      subst e
      exact q _ _ f1 (.bl false)⟩⟩) (fun σ H H' d f ⟨c, a1, e⟩ => ⟨c, h1.mono _ _ _ _ f a1, by
    cases c with
    | true =>
      rw [if_pos rfl] at e ⊢
      exact h2.mono _ _ _ _ f e
    | false => exact e⟩)
theorem pd_or {a b : Expr} {rest : List Expr} {r1 r2 : RD} {pos} (h1 : PD X M a r1) (h2 : PD X M (.BoolOp .Or (b :: rest) pos) r2) : PD X M (.BoolOp .Or (a :: b :: rest) pos) (rOrD r1 r2) :=
  pd_of M (pe_or h1.run h2.run) (fun σ H d hl ⟨c, a1, e⟩ Q q => ⟨hl, _, a1, fun H1 v f1 d1 => ⟨c, dt_bl d1, by
    cases c with
    | false =>
      rw [if_neg Bool.false_ne_true] at e ⊢
      exact ⟨hl.same f1, d, h2.mono _ _ _ _ f1 e, fun H2 w f2 d2 => q _ _ (f1.trans f2) d2⟩
    | true =>
      rw [if_pos rfl] at e ⊢
      subst e
      exact q _ _ f1 (.bl true)⟩⟩) (fun σ H H' d f ⟨c, a1, e⟩ => ⟨c, h1.mono _ _ _ _ f a1, by
    cases c with
    | false =>
      rw [if_neg Bool.false_ne_true] at e ⊢
      exact h2.mono _ _ _ _ f e
    | true => exact e⟩)
/-- a < b < c of ints -/
def rChainD (r1 r2 r3 : RD) (g g' : Int → Int → Bool) : RD := fun σ H d => ∃ i j k, r1 σ H (.int i) ∧ r2 σ H (.int j) ∧ r3 σ H (.int k) ∧ d = .bool (g i j && g' j k)
theorem pd_chain {op op' : CmpOp} {a b c : Expr} {r1 r2 r3 : RD} {g g' : Int → Int → Bool} {pos} (ho : OpR X (compareOp op) (rI0 fun i j => .bl (g i j))) (ho' : OpR X (compareOp op') (rI0 fun i j => .bl (g' i j)))
    (h1 : PD X M a r1) (h2 : PD X M b r2) (h3 : PD X M c r3) (hm : lastMarks [op, op'] [b, c] = false := by with_unfolding_all rfl) : PD X M (.Compare a [op, op'] [b, c] pos) (rChainD r1 r2 r3 g g') :=
  pd_of M (pe_chain ho ho' h1.run h2.run h3.run hm) (fun σ H d hl ⟨i, j, k, a1, a2, a3, e⟩ Q q => ⟨hl, _, a1, fun H1 v f1 d1 => ⟨hl.same f1, _, h2.mono _ _ _ _ f1 a2, fun H2 w f2 d2 =>
    ⟨i, j, dt_int d1, dt_int d2, _, rfl, by
      cases z : g i j with
      | false =>
        rw [if_neg Bool.false_ne_true]
        refine q _ _ (f1.trans f2) ?_
        rw [e, z]
        exact .bl false
      | true =>
        rw [if_pos rfl]
        refine ⟨hl.same (f1.trans f2), _, h3.mono _ _ _ _ (f1.trans f2) a3, fun H3 u f3 d3 => ⟨j, k, dt_int d2, dt_int d3, q _ _ ((f1.trans f2).trans f3) ?_⟩⟩
        rw [e, z]
        exact .bl _⟩⟩⟩) (fun σ H H' d f ⟨i, j, k, a1, a2, a3, e⟩ => ⟨i, j, k, h1.mono _ _ _ _ f a1, h2.mono _ _ _ _ f a2, h3.mono _ _ _ _ f a3, e⟩)
/-- x in (a list of data) -/
def rInLD (neg : Bool) (r1 r2 : RD) : RD := fun σ H d => ∃ x ds, r1 σ H x ∧ r2 σ H (.list ds) ∧ SeqAt.shaped x = true ∧ SeqAt.shaped (.list ds) = true ∧
  d = .bool (if neg then !(ds.any fun z => PyData.eqv z x) else ds.any fun z => PyData.eqv z x)
theorem rInLD_mono {neg : Bool} {r1 r2 : RD} (m1 : ∀ σ H H' d, Same H H' → r1 σ H d → r1 σ H' d) (m2 : ∀ σ H H' d, Same H H' → r2 σ H d → r2 σ H' d) :
    ∀ σ H H' d, Same H H' → rInLD neg r1 r2 σ H d → rInLD neg r1 r2 σ H' d := fun σ H H' d f ⟨i, j, h1, h2, h⟩ => ⟨i, j, m1 _ _ _ _ f h1, m2 _ _ _ _ f h2, h⟩
theorem pd_inL {k : Nat} {a b : Expr} {r1 r2 : RD} {pos} (hr : Room k X.A) (h1 : PD X M a r1) (h2 : PD X M b r2) (hm : lastMarks [.In] [b] = false := by with_unfolding_all rfl) : PD X M (.Compare a [.In] [b] pos) (rInLD false r1 r2) :=
  pd_of M (pe_cmpR (op_inD (by have := hr.un; omega)) h1.run h2.run hm) (fun σ H d hl ⟨x, ds, a1, a2, s1, s2, e⟩ Q q => ⟨hl, _, a1, fun H1 v f1 d1 => ⟨hl.same f1, _, h2.mono _ _ _ _ f1 a2, fun H2 w f2 d2 =>
    ⟨x, ds, (d1.sm f2).dp (noDict_of s1), d2.dp (noDict_of s2), s1, s2, q H2 _ (f1.trans f2) (by subst e; exact .bl _)⟩⟩⟩) (rInLD_mono h1.mono h2.mono)
theorem pd_niL {k : Nat} {a b : Expr} {r1 r2 : RD} {pos} (hr : Room k X.A) (h1 : PD X M a r1) (h2 : PD X M b r2) (hm : lastMarks [.NotIn] [b] = false := by with_unfolding_all rfl) : PD X M (.Compare a [.NotIn] [b] pos) (rInLD true r1 r2) :=
  pd_of M (pe_cmpR (op_notInD (by have := hr.un; omega)) h1.run h2.run hm) (fun σ H d hl ⟨x, ds, a1, a2, s1, s2, e⟩ Q q => ⟨hl, _, a1, fun H1 v f1 d1 => ⟨hl.same f1, _, h2.mono _ _ _ _ f1 a2, fun H2 w f2 d2 =>
    ⟨x, ds, (d1.sm f2).dp (noDict_of s1), d2.dp (noDict_of s2), s1, s2, q H2 _ (f1.trans f2) (by subst e; exact .bl _)⟩⟩⟩) (rInLD_mono h1.mono h2.mono)
/-- a if t else b -/
def rIfD (rt : RB) (r1 r2 : RD) : RD := fun σ H d => ∃ b, rt σ H b ∧ (if b = true then r1 σ H d else r2 σ H d)
theorem pd_if {c a b : Expr} {rt : RB} {r1 r2 : RD} {pos} (ht : PB X M c rt) (h1 : PD X M a r1) (h2 : PD X M b r2) : PD X M (.IfExp c a b pos) (rIfD rt r1 r2) :=
  pd_of M (pe_ifExp ht.run h1.run h2.run) (fun σ H d hl ⟨k, a1, e⟩ Q q => ⟨hl, _, a1, fun H1 f1 => by
    cases k with
    | true =>
      rw [if_pos rfl] at e ⊢
      exact ⟨hl.same f1, d, h1.mono _ _ _ _ f1 e, fun H2 w f2 d2 => q _ _ (f1.trans f2) d2⟩
    | false =>
      rw [if_neg Bool.false_ne_true] at e ⊢
      exact ⟨hl.same f1, d, h2.mono _ _ _ _ f1 e, fun H2 w f2 d2 => q _ _ (f1.trans f2) d2⟩⟩) (fun σ H H' d f ⟨k, a1, e⟩ => ⟨k, ht.mono _ _ _ _ f a1, by
    cases k with
    | true =>
      rw [if_pos rfl] at e ⊢
      exact h1.mono _ _ _ _ f e
    | false =>
      rw [if_neg Bool.false_ne_true] at e ⊢
      exact h2.mono _ _ _ _ f e⟩)
/-! tests -/
def rBool (r : RD) : RB := fun σ H b => r σ H (.bool b)
theorem pb_val {e : Expr} {r : RD} (h : PD X M e r) (he : ∀ whole, isTrue e X.env whole = (do let v ← whole; standAt e.pos; holding [v] (truthy v)) := by intro _; rfl) : PB X M e (rBool r) :=
  ⟨pt_imp (pt_val h.run he) fun σ H Q ⟨hl, b, a1, q⟩ => ⟨hl, _, a1, fun H1 v f1 d1 => ⟨b, dt_bl d1, q H1 f1⟩⟩, fun σ H H' b f a => h.mono _ _ _ _ f a⟩
def rNotB (r : RB) : RB := fun σ H b => r σ H (!b)
theorem pb_not {e : Expr} {r : RB} {pos} (h : PB X M e r) : PB X M (.UnaryOp .Not e pos) (rNotB r) :=
  ⟨pt_imp (pt_not h.run) fun σ H Q ⟨hl, b, a1, q⟩ => ⟨hl, _, a1, fun H1 f1 => by show Q (!(!b)) H1; rw [Bool.not_not]; exact q H1 f1⟩, fun σ H H' b f a => h.mono _ _ _ _ f a⟩
/-- a chain of tests -/
structure PBW (X : Cx) (M : Mu) (e : Expr) (r : RB) : Prop where
  run : PW X e (tDB M r)
  mono : ∀ σ H H' d, Same H H' → r σ H d → r σ H' d
theorem pw_imp {X : Cx} {e : Expr} {t u : TT} (h : PW X e t) (i : ∀ σ H Q, u σ H Q → t σ H Q) : PW X e u := ⟨fun wh pins s σ H Q I q => h.run wh pins s σ H Q I (i σ H Q q)⟩
def rAndB (r1 r2 : RB) : RB := fun σ H b => ∃ c, r1 σ H c ∧ (if c = true then r2 σ H b else b = false)
def rOrB (r1 r2 : RB) : RB := fun σ H b => ∃ c, r1 σ H c ∧ (if c = true then b = true else r2 σ H b)
theorem pbw_and1 {a : Expr} {r : RB} {pos} (h : PB X M a r) : PBW X M (.BoolOp .And [a] pos) r := ⟨pw_and1 h.run, h.mono⟩
theorem pbw_or1 {a : Expr} {r : RB} {pos} (h : PB X M a r) : PBW X M (.BoolOp .Or [a] pos) r := ⟨pw_or1 h.run, h.mono⟩
theorem pbw_and {a b : Expr} {rest : List Expr} {r1 r2 : RB} {pos} (h1 : PB X M a r1) (h2 : PBW X M (.BoolOp .And (b :: rest) pos) r2) : PBW X M (.BoolOp .And (a :: b :: rest) pos) (rAndB r1 r2) :=
  ⟨pw_imp (pw_and h1.run h2.run) fun σ H Q ⟨hl, b, ⟨c, a1, e⟩, q⟩ => ⟨hl, _, a1, fun H1 f1 => by
    cases c with
    | true =>
      rw [if_pos rfl] at e ⊢
      exact ⟨hl.same f1, b, h2.mono _ _ _ _ f1 e, fun H2 f2 => q _ (f1.trans f2)⟩
    | false =>
      rw [if_neg Bool.false_ne_true] at e ⊢
      subst e
      exact q _ f1⟩, fun σ H H' b f ⟨c, a1, e⟩ => ⟨c, h1.mono _ _ _ _ f a1, by
    cases c with
    | true =>
      rw [if_pos rfl] at e ⊢
      exact h2.mono _ _ _ _ f e
    | false => exact e⟩⟩
theorem pbw_or {a b : Expr} {rest : List Expr} {r1 r2 : RB} {pos} (h1 : PB X M a r1) (h2 : PBW X M (.BoolOp .Or (b :: rest) pos) r2) : PBW X M (.BoolOp .Or (a :: b :: rest) pos) (rOrB r1 r2) :=
  ⟨pw_imp (pw_or h1.run h2.run) fun σ H Q ⟨hl, b, ⟨c, a1, e⟩, q⟩ => ⟨hl, _, a1, fun H1 f1 => by
    cases c with
    | false =>
      rw [if_neg Bool.false_ne_true] at e ⊢
      exact ⟨hl.same f1, b, h2.mono _ _ _ _ f1 e, fun H2 f2 => q _ (f1.trans f2)⟩
    | true =>
      rw [if_pos rfl] at e ⊢
      subst e
      exact q _ f1⟩, fun σ H H' b f ⟨c, a1, e⟩ => ⟨c, h1.mono _ _ _ _ f a1, by
    cases c with
    | false =>
      rw [if_neg Bool.false_ne_true] at e ⊢
      exact h2.mono _ _ _ _ f e
    | true => exact e⟩⟩
theorem PBW.pb {e : Expr} {r : RB} (h : PBW X M e r) : PB X M e r := ⟨h.run.pt, h.mono⟩
/-! a def over data: its promise, its call -/
def spPure (K : PySem.W.Frag) (R : List PyData → PyData → Prop) : Sp := fun vs H Q _ => ∃ (M : Mu) (ds : List PyData) (d : PyData), Live M H ∧ DtAll M K H vs ds ∧ R ds d ∧ ∀ H' v, Same H H' → Dt M K H' v d → Q v H'
def rCallD (R : List PyData → PyData → Prop) (rs : RDs) : RD := fun σ H d => ∃ ds, rs σ H ds ∧ R ds d
theorem pd_call {k : Nat} {f : Addr} {fd : FuncData} {ps : List Str} {R : List PyData → PyData → Prop} {x : Str} {e : Expr} {es : List Expr} {rs : RDs} {p pos} (F : FnOk X.prog X.w X.K X.mg X.base CX0 k f fd ps (spPure X.K R)) (hr : Room k X.A) (hm : X.mg x = some (.ref f)) (hk : PySem.W.keepIn X.K (.ref f) = true)
    (hb : Binds X.K fd ps []) (ha : PDs X M (e :: es) rs) (hg : Gl X x := by rfl) (hdb : (x == ("__debug__" : Str)) = false := by decide) (he : starEach (e :: es) X.env = (false, eval e X.env) :: starEach es X.env := by rfl) (hpl : (backTo pos (starEach es X.env)).any (·.1) = false := by rfl) :
    PD X M (.Call (.Name x p) (e :: es) [] pos) (rCallD R rs) :=
  pd_of M (pe_call F hr hg hm hk hb .nil pass0 ha.run hdb he hpl) (fun σ H d hl ⟨ds, a1, a2⟩ Q q => ⟨hl, ds, a1, fun H1 vs f1 d1 =>
    ⟨M, ds, d, hl.same f1, by rw [List.append_nil]; exact d1, a2, fun H2 v f2 d2 => q _ _ (f1.trans f2) d2⟩⟩) (fun σ H H' d f ⟨ds, a1, a2⟩ => ⟨ds, ha.mono _ _ _ _ f a1, a2⟩)
/-! [elt for x in src], elt over data -/
/-- M and one more -/
def plus1 (M : Mu) (D : Addr) : Mu := fun c => M c ∨ c = D
def rLc (K : PySem.W.Frag) (c : List PyData → PyData) (i : Nat) (rs : RD) (r : Mu → RD) : RD := fun σ H d => ∃ ds es, rs σ H (c ds) ∧ ds.length ≤ 1000 ∧ es.length = ds.length ∧
  (∀ (M' : Mu) (k : Nat) x e, ds[k]? = some x → es[k]? = some e → ∀ H' v, Same H H' → Dt M' K H' v x → r M' ((wipe σ [i]).set i (some v)) H' e) ∧ d = .list es
theorem Live.plus1 {M : Mu} {H : Hp} {D : Addr} (h : Live M H) (e : H D ≠ none) : Live (plus1 M D) H := fun m hm => hm.elim (h m) fun z => by rw [z]; exact e
/-- what stands while a new list at D is filled -/
structure Filled (M : Mu) (K : PySem.W.Frag) (H1 H2 : Hp) (D : Addr) (es : List PyData) : Prop where
  sm : Same H1 H2
  at_ : ∃ acc, H2 D = some (.lst acc) ∧ DtAll (GR.plus1 M D) K H2 acc es
theorem Filled.start {M : Mu} {K : PySem.W.Frag} {H1 : Hp} {D : Addr} (n : H1 D = none) : Filled M K H1 (upd H1 D (.lst [])) D [] := ⟨same_upd n, [], upd_same, .nil⟩
theorem Filled.more {M : Mu} {K : PySem.W.Frag} {H1 H2 H3 : Hp} {D : Addr} {es : List PyData} {y : V} {e : PyData} (F : Filled M K H1 H2 D es) (n : H1 D = none) (s : Same H2 H3) (d : Dt (GR.plus1 M D) K H3 y e) :
    ∃ acc, H3 D = some (.lst acc) ∧ acc.length = es.length ∧ Filled M K H1 (upd H3 D (.lst (acc ++ [y]))) D (es ++ [e]) := by
  obtain ⟨acc, ha, da⟩ := F.at_
  refine ⟨acc, s _ _ ha, da.len, ⟨fun c o h => ?_, acc ++ [y], upd_same, ?_⟩⟩
  · rw [upd_ne (ne_of_none h n)]
    exact s _ _ (F.sm _ _ h)
  · have f : Fx (GR.plus1 M D) H3 (upd H3 D (.lst (acc ++ [y]))) := ⟨fun c o nm h => by rw [upd_ne (fun z => nm (.inr z))]; exact h, fun hl m hm => by
      by_cases z : m = D
      · rw [z, upd_same]; simp
      · rw [upd_ne z]; exact hl m hm⟩
    exact ((da.sm s).append (.cons d .nil)).fx f
theorem Filled.dt {M : Mu} {K : PySem.W.Frag} {H1 H2 : Hp} {D : Addr} {es : List PyData} (F : Filled M K H1 H2 D es) (hM : ¬ M D) : Dt M K H2 (.ref D) (.list es) := by
  obtain ⟨acc, ha, da⟩ := F.at_
  exact .lst (.inl ⟨.inl ha, hM⟩) (da.more fun c hc => .inl (.inl hc))
theorem wipe1 (σ : L2.St) (i : Nat) (v : V) : wipe ((wipe σ [i]).set i (some v)) [i] = wipe σ [i] := by
  show ((σ.set i none).set i (some v)).set i none = σ.set i none
  rw [List.set_set, List.set_set]
theorem rLc_mono {K : PySem.W.Frag} {c : List PyData → PyData} {i : Nat} {rs : RD} {r : Mu → RD} (m : ∀ σ H H' d, Same H H' → rs σ H d → rs σ H' d) : ∀ σ H H' d, Same H H' → rLc K c i rs r σ H d → rLc K c i rs r σ H' d :=
  fun σ H H' d f ⟨ds, es, a1, hz, el, hr, e⟩ => ⟨ds, es, m _ _ _ _ f a1, hz, el, fun M' k x z h1 h2 H'' v f2 dv => hr M' k x z h1 h2 H'' v (f.trans f2) dv, e⟩
theorem lc_step {K : PySem.W.Frag} {i : Nat} {r : Mu → RD} {ds es : List PyData} {xs : List V} {σ : L2.St} {H H1 : Hp} {D : Addr} (hl : Live M H1) (f1 : Same H H1) (nD : H1 D = none) (da : DtAll M K H1 xs ds) (hz : ds.length ≤ 1000) (el : es.length = ds.length)
    (hr : ∀ (M' : Mu) (k : Nat) x e, ds[k]? = some x → es[k]? = some e → ∀ H' v, Same H H' → Dt M' K H' v x → r M' ((wipe σ [i]).set i (some v)) H' e)
    (k : Nat) (v : V) (H2 : Hp) (hv : xs[k]? = some v) (F : Filled M K H1 H2 D (es.take k)) :
    ∃ M', tD M' K (r M') ((wipe σ [i]).set i (some v)) H2 fun y H4 => ∃ acc, H4 D = some (.lst acc) ∧ acc.length < sizeLine ∧ Filled M K H1 (upd H4 D (.lst (acc ++ [y]))) D (es.take (k + 1)) := by
  have hk := (List.getElem?_eq_some_iff.mp hv).1
  have ld := da.len
  have hkd : k < ds.length := by omega
  have hke : k < es.length := by omega
  obtain ⟨v', ev, dv⟩ := da.get (List.getElem?_eq_getElem hkd)
  rw [hv] at ev
  cases ev
  obtain ⟨acc, ha, dacc⟩ := F.at_
  have dv2 : Dt (GR.plus1 M D) K H2 v ds[k] := (dv.more fun c hc => hc.imp id fun z => by rw [z]; exact nD).sm F.sm
  refine ⟨GR.plus1 M D, (hl.same F.sm).plus1 (by rw [ha]; simp), es[k], hr _ k _ _ (List.getElem?_eq_getElem hkd) (List.getElem?_eq_getElem hke) H2 v (f1.trans F.sm) dv2, fun H4 y s4 dy => ?_⟩
  obtain ⟨acc', h1, h2, h3⟩ := F.more nD s4 dy
  refine ⟨acc', h1, ?_, ?_⟩
  · rw [h2, List.length_take]
    exact Nat.lt_of_le_of_lt (Nat.min_le_left _ _) (small1000 (by omega))
  · rw [List.take_add_one, List.getElem?_eq_getElem hke]
    exact h3
theorem pd_lcL {elt src : Expr} {scope : Scope} {y : Str} {i : Nat} {pos ps : Pos} {rs : RD} {r : Mu → RD} (hc : X.calm = true) (hN : X.N.Nodup) (hsrc : PD X M src rs) (ok : BlkOk X.N X.env.scope scope [(y, i)])
    (hg : ∀ (s : Shared) (H : Hp) (C : Addr) (cl : List (Str × Addr)) (fp : List Addr), PG (X.blk s H scope (compEnvC scope cl C X.env) fp) (.Name y ps) (gName i))
    (he : ∀ (M : Mu) (s : Shared) (H : Hp) (C : Addr) (cl : List (Str × Addr)) (fp : List Addr), PD (X.blk s H scope (compEnvC scope cl C X.env) fp) M elt (r M)) (hs : ∀ x, foldedSetIterable src X.env x = pure x := by intro _; rfl) :
    PD X M (.ListComp elt [⟨.Name y ps, src, [], 0⟩] scope pos) (rLc X.K .list i rs r) := by
  refine pd_of M (pe_lc (own := [(y, i)]) (g := gName i) (tt := tYes) (te := fun σ H Q => ∃ M', tD M' X.K (r M') σ H Q) hc hN (pi_list hsrc.run) ok hg (fun _ _ _ _ _ => pts_nil)
    (fun s H C cl fp => ⟨fun pins s' σ H' Q I ⟨M', z⟩ => (he M' s H C cl fp).run.run pins s' σ H' Q I z⟩) hs) (fun σ H d hl ⟨ds, es, a1, hz, el, hr, e⟩ Q q => ?_) (rLc_mono hsrc.mono)
  refine ⟨hl, _, a1, fun H1 w f1 dw => ?_⟩
  obtain ⟨a, xs, rfl, sq, da⟩ := dt_list dw
  refine ⟨a, rfl, ⟨_, sq.sq⟩, fun D nD => ?_⟩
  have ld := da.len
  refine lc_list (K := X.K) (a := a) (xs := xs) (g := gName i) (tt := tYes) (te := fun σ H Q => ∃ M', tD M' X.K (r M') σ H Q) (vs := [i]) (σ := σ) (Qd := Q (.ref D)) (fun k H2 => Filled M X.K H1 H2 D (es.take k)) (.start nD) (fun k H2 _ F => SqL_same F.sm sq.sq) (fun k v H2 hv F => ?_) (fun H2 F => ?_)
  · exact ⟨wipe1 σ i v, lc_step M (hl.same f1) f1 nD da hz el hr k v H2 hv F⟩
  · rw [ld, ← el, List.take_length] at F
    subst e
    exact q _ _ (f1.trans F.sm) (F.dt ((hl.same f1).ne nD))
theorem pd_lcT {elt src : Expr} {scope : Scope} {y : Str} {i : Nat} {pos ps : Pos} {rs : RD} {r : Mu → RD} (hc : X.calm = true) (hN : X.N.Nodup) (hsrc : PD X M src rs) (ok : BlkOk X.N X.env.scope scope [(y, i)])
    (hg : ∀ (s : Shared) (H : Hp) (C : Addr) (cl : List (Str × Addr)) (fp : List Addr), PG (X.blk s H scope (compEnvC scope cl C X.env) fp) (.Name y ps) (gName i))
    (he : ∀ (M : Mu) (s : Shared) (H : Hp) (C : Addr) (cl : List (Str × Addr)) (fp : List Addr), PD (X.blk s H scope (compEnvC scope cl C X.env) fp) M elt (r M)) (hs : ∀ x, foldedSetIterable src X.env x = pure x := by intro _; rfl) :
    PD X M (.ListComp elt [⟨.Name y ps, src, [], 0⟩] scope pos) (rLc X.K .tuple i rs r) := by
  refine pd_of M (pe_lc (own := [(y, i)]) (g := gName i) (tt := tYes) (te := fun σ H Q => ∃ M', tD M' X.K (r M') σ H Q) hc hN (pi_tup hsrc.run) ok hg (fun _ _ _ _ _ => pts_nil)
    (fun s H C cl fp => ⟨fun pins s' σ H' Q I ⟨M', z⟩ => (he M' s H C cl fp).run.run pins s' σ H' Q I z⟩) hs) (fun σ H d hl ⟨ds, es, a1, hz, el, hr, e⟩ Q q => ?_) (rLc_mono hsrc.mono)
  refine ⟨hl, _, a1, fun H1 w f1 dw => ?_⟩
  obtain ⟨a, xs, rfl, sq, da⟩ := dt_tuple dw
  refine ⟨a, rfl, ⟨_, sq.sq⟩, fun D nD => ?_⟩
  have ld := da.len
  refine lc_tup (K := X.K) (a := a) (xs := xs) (g := gName i) (tt := tYes) (te := fun σ H Q => ∃ M', tD M' X.K (r M') σ H Q) (vs := [i]) (σ := σ) (Qd := Q (.ref D)) (fun k H2 => Filled M X.K H1 H2 D (es.take k)) (.start nD) (fun k H2 _ F => SqT_same F.sm sq.sq) (fun k v H2 hv F => ?_) (fun H2 F => ?_)
  · exact ⟨wipe1 σ i v, lc_step M (hl.same f1) f1 nD da hz el hr k v H2 hv F⟩
  · rw [ld, ← el, List.take_length] at F
    subst e
    exact q _ _ (f1.trans F.sm) (F.dt ((hl.same f1).ne nD))
/-- all(..), any(..) of a list of bools -/
def rAllD (r : RD) : RD := fun σ H d => ∃ bs : List Bool, r σ H (.list (bs.map PyData.bool)) ∧ d = .bool (bs.all id)
theorem dtAll_bl {M : Mu} {K : PySem.W.Frag} {H : Hp} : ∀ {vs : List V} {bs : List Bool}, DtAll M K H vs (bs.map PyData.bool) → vs = bs.map V.bl
  | [], [], _ => rfl
  | _ :: _, [], h => by cases h
  | [], _ :: _, h => by cases h
  | v :: vs, b :: bs, .cons h1 h2 => by rw [dt_bl h1, dtAll_bl h2]; rfl
theorem pd_all {e : Expr} {r : RD} {p pos} (hc : X.calm = true) (hm : X.mg "all" = none) (h : PD X M e r) (hg : Gl X "all" := by rfl) (he : starEach (e :: []) X.env = (false, eval e X.env) :: starEach [] X.env := by rfl) (hpl : (backTo pos (starEach [] X.env)).any (·.1) = false := by rfl) :
    PD X M (.Call (.Name "all" p) [e] [] pos) (rAllD r) :=
  pd_of M (pe_callB (cr_all hc) hg hm (by decide +kernel) (pa_cons h.run pa_nil he) (by decide) (by decide) he hpl) (fun σ H d hl ⟨bs, a1, e⟩ Q q => by
    subst e
    refine ⟨hl, _, a1, fun H1 v f1 d1 => ?_⟩
    obtain ⟨p1, vs1, rfl, s1, da1⟩ := dt_list d1
    have z := dtAll_bl da1
    subst z
    exact ⟨p1, bs, rfl, s1.sq, q _ _ f1 (.bl _)⟩) (fun σ H H' d f ⟨bs, a1, e⟩ => ⟨bs, h.mono _ _ _ _ f a1, e⟩)
end
end GR

namespace GR
open PySem PySem.Spec L2
/-! ## repr of data, a dict on top allowed -/
mutual
def noList : PyData → Bool
  | .none | .bool _ | .int _ | .str _ => true
  | .tuple xs => noListAll xs
  | .list _ | .dict _ => false
def noListAll : List PyData → Bool
  | [] => true
  | x :: xs => noList x && noListAll xs
end
section
variable {X : Cx} {pins : List (Addr × Obj)} {σ : L2.St} {H : Hp} {s : Shared} {M : Mu}
theorem keys_read {P : Program} {w : World} {h : Heap} : ∀ {es : List DictEntry} {vs : List (Key × Value)}, Pairs (mixKind P w) es vs → ReadsAll h (es.map (·.key)) ((vs.map (·.1)).map keyD) [] ∧ es.map (·.val) = vs.map (·.2)
  | _, _, .nil => ⟨.nil, rfl⟩
  | e :: es, kv :: vs, .cons h1 h2 h3 => by
    obtain ⟨r, ev⟩ := keys_read h3
    refine ⟨?_, by rw [List.map_cons, List.map_cons, h2, ev]⟩
    obtain ⟨k, z⟩ := kv
    have h1' : keyIs k e.key = true := h1
    rw [List.map_cons, List.map_cons, List.map_cons]
    rcases keyIs_shape h1' with ⟨i, t, rfl, q⟩ | ⟨x, t, rfl, q⟩
    · have : Reads h e.key (.int i) [] := by rw [q]; exact .int i t
      exact ReadsAll.cons (as := []) (bs := []) this r
    · have : Reads h e.key (.str x) [] := by rw [q]; exact .str x t
      exact ReadsAll.cons (as := []) (bs := []) this r
theorem kv_fst : ∀ {kvs : List (Key × V)} {vs : List (Key × Value)}, KV kvs vs → kvs.map (·.1) = vs.map (·.1) ∧ Vals (kvs.map (·.2)) (vs.map (·.2))
  | _, _, .nil => ⟨rfl, .nil⟩
  | _, _, .cons r t => by
    obtain ⟨a, b⟩ := kv_fst t
    exact ⟨by rw [List.map_cons, List.map_cons, a, r.1], .cons r.2 b⟩
mutual
theorem Dt.reads (I : Inv X pins σ H s) : ∀ {d : PyData} {v : V} {u : Value}, Dt M X.K H v d → RelV v u → ∃ as, Reads s.heap u d as ∧ (noList d = true → as = [])
  | _, _, _, .non, r => by
    cases r
    exact ⟨_, .none, fun _ => rfl⟩
  | _, _, _, .bl b, r => by
    cases r
    exact ⟨_, .bool b, fun _ => rfl⟩
  | _, _, _, .int i, r => by
    obtain ⟨t, rfl⟩ := r
    exact ⟨_, .int i t, fun _ => rfl⟩
  | _, _, _, .str x, r => by
    obtain ⟨t, rfl⟩ := r
    exact ⟨_, .str x t, fun _ => rfl⟩
  | _, _, _, .lst hs ha, r => by
    cases r
    obtain ⟨its, rv, ⟨o, n, ho, hc, _, hd⟩, _⟩ := I.list hs.sq
    obtain ⟨as, hr, _⟩ := DtAll.reads I ha rv
    exact ⟨_, .list ho hc hd hr, fun z => by simp [noList] at z⟩
  | _, _, _, .tup hs ha, r => by
    cases r
    obtain ⟨its, rv, ⟨o, ho, hc, n, hd⟩, _⟩ := I.tuple hs.sq
    obtain ⟨as, hr, z⟩ := DtAll.reads I ha rv
    exact ⟨_, .tuple ho hc hd hr, fun q => z (by simpa only [noList] using q)⟩
  | _, _, _, .dct (a := a) (kvs := ps) (ks := ks) (ds := ds) hH hM ek ha, r => by
    cases r
    subst ek
    obtain ⟨_, _, vs, rel, o, es, ep, ho, ⟨hcls, _, _⟩, hdat, _, hp, _⟩ := (show ObjOk X.prog X.w H s.heap a (.dK ps) from I.hok a _ hH)
    obtain ⟨e1, rv⟩ := kv_fst rel
    obtain ⟨rk, ev⟩ := keys_read (h := s.heap) hp
    obtain ⟨as, hr, _⟩ := DtAll.reads I ha rv
    have l1 := ha.len
    rw [List.length_map] at l1
    refine ⟨a :: [] ++ as, .dict ho hcls hdat ?_ ?_, fun z => by simp [noList] at z⟩
    · rw [List.map_fst_zip (by rw [List.length_map, List.length_map]; omega), e1]
      exact rk
    · rw [List.map_snd_zip (by rw [List.length_map, List.length_map]; omega), ev]
      exact hr
theorem DtAll.reads (I : Inv X pins σ H s) : ∀ {ds : List PyData} {vs : List V} {us : List Value}, DtAll M X.K H vs ds → Vals vs us → ∃ as, ReadsAll s.heap us ds as ∧ (noListAll ds = true → as = [])
  | _, _, _, .nil, r => by
    cases r
    exact ⟨_, .nil, fun _ => rfl⟩
  | _, _, _, .cons (d := d) (ds := ds) h1 h2, .cons r1 r2 => by
    obtain ⟨as, q1, z1⟩ := Dt.reads I h1 r1
    obtain ⟨bs, q2, z2⟩ := DtAll.reads I h2 r2
    refine ⟨_, .cons q1 q2, fun z => ?_⟩
    have z' : noList d = true ∧ noListAll ds = true := by simpa [noListAll] using z
    rw [z1 z'.1, z2 z'.2]
    rfl
end
/-- no dict, or one dict on top whose values hold no list -/
def dictTop (d : PyData) : Prop := d.hasDict = false ∨ ∃ kvs, d = .dict kvs ∧ noListAll (kvs.map (·.2)) = true
def rReprT (M : Mu) (K : PySem.W.Frag) : List V → Hp → VK → Prop := fun xs H Q => ∃ x d, xs = [x] ∧ Dt M K H x d ∧ d.showable = true ∧ d.depth ≤ 20 ∧ d.shown.length ≤ sizeLine ∧ dictTop d ∧
  ∀ tx, tx = d.shown → Q (.str tx) H
end
section
variable {X : Cx} (M : Mu)
theorem call_reprT {k : Nat} (hr : Room k X.A) (gd : X.A.guards = some []) : CallR X (.builtin "repr") (rReprT M X.K) := by
  intro pins s σ H xs us Q I r h
  obtain ⟨x, d, rfl, hd, hs, hdp, hl, ht, q⟩ := h
  by_cases hnd : d.hasDict = false
  · exact call_reprD hr gd pins s σ H [x] us Q I r ⟨x, d, rfl, hd.dp hnd, hs, hdp, hl, q⟩
  · rcases ht with ht | ⟨kvs, rfl, hn⟩
    · exact absurd ht hnd
    · cases r with
      | cons r1 r2 =>
        cases r2
        rename_i u
        cases hd with
        | @dct a ps ks ds hH hM ek ha =>
          cases (show u = Value.ref a from r1)
          subst ek
          obtain ⟨_, nsys, vs, rel, o, es, ep, ho, ⟨hcls, _, _⟩, hdat, _, hp, _⟩ := (show ObjOk X.prog X.w H s.heap a (.dK ps) from I.hok a _ hH)
          obtain ⟨e1, rv⟩ := kv_fst rel
          obtain ⟨rk, ev⟩ := keys_read (h := s.heap) hp
          obtain ⟨as, hrd, z⟩ := DtAll.reads I ha rv
          have l1 := ha.len
          rw [List.length_map] at l1
          have esnd : ((ps.map (·.1)).map keyD |>.zip ds).map (·.2) = ds := List.map_snd_zip (by rw [List.length_map, List.length_map]; omega)
          have rd : Reads s.heap (.ref a) (.dict ((ps.map (·.1)).map keyD |>.zip ds)) (a :: [] ++ as) := by
            refine .dict ho hcls hdat ?_ ?_
            · rw [List.map_fst_zip (by rw [List.length_map, List.length_map]; omega), e1]
              exact rk
            · rw [esnd, ev]
              exact hrd
          rw [esnd] at hn
          have ea := z hn
          subst ea
          have hu := hr.un
          refine repr_of_reads' rd hs (fun _ hm => ?_) gd (by omega) (fun _ _ z => z) (fun h' u tk hk => ⟨.str _, H, I.kept hk, ⟨_, rfl⟩, q _ rfl⟩) hl
          have : sysModules = a := by simpa using hm
          rw [← this] at nsys
          simp at nsys
/-- str(n) -/
def rStrD (r : RD) : RD := fun σ H d => ∃ i : Int, r σ H (.int i) ∧ i.natAbs.log2 < 1920 ∧ d = .str (toString i)
theorem pd_strI {e : Expr} {r : RD} {p pos} (hm : X.mg "str" = none) (h : PD X M e r) (hg : Gl X "str" := by rfl) (he : starEach (e :: []) X.env = (false, eval e X.env) :: starEach [] X.env := by rfl) (hpl : (backTo pos (starEach [] X.env)).any (·.1) = false := by rfl) :
    PD X M (.Call (.Name "str" p) [e] [] pos) (rStrD r) :=
  pd_of M (pe_callTy call_str_int hg hm (by decide +kernel) (pa_cons h.run pa_nil he) (by decide) (by decide) he hpl) (fun σ H d hl ⟨i, a1, hz, e⟩ Q q => by
    subst e
    exact ⟨hl, _, a1, fun H1 v f1 d1 => ⟨i, by rw [dt_int d1], hz, q _ _ f1 (.str _)⟩⟩) (fun σ H H' d f ⟨i, a1, e⟩ => ⟨i, h.mono _ _ _ _ f a1, e⟩)
/-- -n -/
def rNegD (r : RD) : RD := fun σ H d => ∃ i : Int, r σ H (.int i) ∧ d = .int (-i)
theorem pd_neg {e : Expr} {r : RD} {pos} (h : PD X M e r) : PD X M (.UnaryOp .USub e pos) (rNegD r) :=
  pd_of M (pe_un un_neg h.run) (fun σ H d hl ⟨i, a1, e⟩ Q q => ⟨hl, _, a1, fun H1 v f1 d1 => ⟨i, dt_int d1, by subst e; exact q _ _ f1 (.int _)⟩⟩) (fun σ H H' d f ⟨i, a1, e⟩ => ⟨i, h.mono _ _ _ _ f a1, e⟩)
/-- {} and {k: v} -/
theorem pd_d0 {pos} : PD X M (.Dict [] [] pos) (fun _ _ d => d = .dict []) :=
  pd_of M pe_dnewK (fun σ H d hl e Q q => fun p np => by
    subst e
    exact q _ _ (same_upd np) (.dct (kvs := []) (ks := []) (ds := []) upd_same (hl.ne np) rfl .nil)) (fun _ _ _ _ _ e => e)
def rD1 (M : Mu) (r1 r2 : Mu → RD) : RD := fun σ H d => ∃ k x, (∀ p, H p = none → r1 (GR.plus1 M p) σ H (keyD k) ∧ r2 (GR.plus1 M p) σ H x) ∧ d = .dict [(keyD k, x)]
theorem dt_key {M : Mu} {K : PySem.W.Frag} {H : Hp} {v : V} {k : Key} (h : Dt M K H v (keyD k)) : v = kV k := by
  cases k with
  | inl i => exact dt_int h
  | inr x => exact dt_str h
theorem pd_d1 {a b : Expr} {r1 r2 : Mu → RD} {pos} (h1 : ∀ M, PD X M a (r1 M)) (h2 : ∀ M, PD X M b (r2 M)) : PD X M (.Dict [some a] [b] pos) (rD1 M r1 r2) := by
  have g1 : PE X a (fun σ H Q => ∃ M', tD M' X.K (r1 M') σ H Q) := ⟨fun pins s σ H Q I ⟨M', z⟩ => (h1 M').run.run pins s σ H Q I z⟩
  have g2 : PE X b (fun σ H Q => ∃ M', tD M' X.K (r2 M') σ H Q) := ⟨fun pins s σ H Q I ⟨M', z⟩ => (h2 M').run.run pins s σ H Q I z⟩
  refine pd_of M (pe_disp (pps_cons g1 g2 pps_nil) (by rfl) (by rfl) (fun z => by cases z) (by show 1 ≤ 15; decide)) (fun σ H d hl ⟨k, x, a12, e⟩ Q q => fun p np => ?_)
    (fun σ H H' d f ⟨k, x, a12, e⟩ => ⟨k, x, fun p np => ⟨(h1 _).mono _ _ _ _ f (a12 p (f.free np)).1, (h2 _).mono _ _ _ _ f (a12 p (f.free np)).2⟩, e⟩)
  subst e
  obtain ⟨a1, a2⟩ := a12 p np
  have s0 : Same H (upd H p (.dK [])) := same_upd np
  have hl0 : Live (GR.plus1 M p) (upd H p (.dK [])) := (hl.same s0).plus1 (by rw [upd_same]; simp)
  refine ⟨GR.plus1 M p, hl0, _, (h1 _).mono _ _ _ _ s0 a1, fun H1 v f1 d1 => ⟨GR.plus1 M p, hl0.same f1, _, (h2 _).mono _ _ _ _ (s0.trans f1) a2, fun H2 w f2 d2 => ?_⟩⟩
  have hp : H2 p = some (.dK []) := f2 _ _ (f1 _ _ upd_same)
  have ev := dt_key d1
  subst ev
  refine ⟨hp, [(k, w)], rfl, (by show 1 ≤ 15; decide), q _ _ ?_ ?_⟩
  · intro c o h
    rw [upd_ne (ne_of_none h np)]
    exact f2 _ _ (f1 _ _ (s0 _ _ h))
  · have f : Fx (GR.plus1 M p) H2 (upd H2 p (.dK (mergeK [] [(k, w)]))) := ⟨fun c o nm h => by rw [upd_ne (fun z => nm (.inr z))]; exact h, fun hl m hm => by
      by_cases z : m = p
      · rw [z, upd_same]; simp
      · rw [upd_ne z]; exact hl m hm⟩
    have d3 := (d2.fx f).more (M' := M) fun c hc => .inl (.inl hc)
    exact Dt.dct (kvs := [(k, w)]) (ks := [k]) (ds := [x]) upd_same (hl.ne np) rfl (.cons d3 .nil)
end
end GR
namespace GR
open PySem PySem.Spec L2
/-! ## isinstance of data -/
def isI : PyData → Bool
  | .int _ | .bool _ => true
  | _ => false
def isB : PyData → Bool
  | .bool _ => true
  | _ => false
def isT : PyData → Bool
  | .tuple _ => true
  | _ => false
def isS : PyData → Bool
  | .str _ => true
  | _ => false
def isL : PyData → Bool
  | .list _ => true
  | _ => false
theorem kit_int (d : PyData) : kitB (tyName d) "int" = some (isI d) := by
  cases d
  · exact (show kitB "NoneType" "int" = some false by decide +kernel)
  · exact (show kitB "bool" "int" = some true by decide +kernel)
  · exact (show kitB "int" "int" = some true by decide +kernel)
  · exact (show kitB "str" "int" = some false by decide +kernel)
  · exact (show kitB "list" "int" = some false by decide +kernel)
  · exact (show kitB "tuple" "int" = some false by decide +kernel)
  · exact (show kitB "dict" "int" = some false by decide +kernel)
theorem kit_bool (d : PyData) : kitB (tyName d) "bool" = some (isB d) := by
  cases d
  · exact (show kitB "NoneType" "bool" = some false by decide +kernel)
  · exact (show kitB "bool" "bool" = some true by decide +kernel)
  · exact (show kitB "int" "bool" = some false by decide +kernel)
  · exact (show kitB "str" "bool" = some false by decide +kernel)
  · exact (show kitB "list" "bool" = some false by decide +kernel)
  · exact (show kitB "tuple" "bool" = some false by decide +kernel)
  · exact (show kitB "dict" "bool" = some false by decide +kernel)
theorem kit_tuple (d : PyData) : kitB (tyName d) "tuple" = some (isT d) := by
  cases d
  · exact (show kitB "NoneType" "tuple" = some false by decide +kernel)
  · exact (show kitB "bool" "tuple" = some false by decide +kernel)
  · exact (show kitB "int" "tuple" = some false by decide +kernel)
  · exact (show kitB "str" "tuple" = some false by decide +kernel)
  · exact (show kitB "list" "tuple" = some false by decide +kernel)
  · exact (show kitB "tuple" "tuple" = some true by decide +kernel)
  · exact (show kitB "dict" "tuple" = some false by decide +kernel)
theorem kit_str (d : PyData) : kitB (tyName d) "str" = some (isS d) := by
  cases d
  · exact (show kitB "NoneType" "str" = some false by decide +kernel)
  · exact (show kitB "bool" "str" = some false by decide +kernel)
  · exact (show kitB "int" "str" = some false by decide +kernel)
  · exact (show kitB "str" "str" = some true by decide +kernel)
  · exact (show kitB "list" "str" = some false by decide +kernel)
  · exact (show kitB "tuple" "str" = some false by decide +kernel)
  · exact (show kitB "dict" "str" = some false by decide +kernel)
theorem kit_list (d : PyData) : kitB (tyName d) "list" = some (isL d) := by
  cases d
  · exact (show kitB "NoneType" "list" = some false by decide +kernel)
  · exact (show kitB "bool" "list" = some false by decide +kernel)
  · exact (show kitB "int" "list" = some false by decide +kernel)
  · exact (show kitB "str" "list" = some false by decide +kernel)
  · exact (show kitB "list" "list" = some true by decide +kernel)
  · exact (show kitB "tuple" "list" = some false by decide +kernel)
  · exact (show kitB "dict" "list" = some false by decide +kernel)
/-! ## what repr asks -/
structure ReprOk (d : PyData) : Prop where
  sh : d.showable = true
  dp : d.depth ≤ 20
  ln : d.shown.length ≤ sizeLine
  top : dictTop d
theorem ReprOk.plain {d : PyData} (h1 : d.showable = true) (h2 : d.depth ≤ 20) (h3 : d.hasDict = false) (h4 : cost d ≤ 1000000) : ReprOk d :=
  ⟨h1, h2, Nat.le_trans (shown_cost d h1 h3) (Nat.le_trans h4 (by decide)), .inl h3⟩
theorem int_show {i : Int} (h : i.natAbs < 2 ^ 1900) : (PyData.int i).showable = true := by
  show decide (i.natAbs.log2 < 1920) = true
  refine decide_eq_true ?_
  by_cases hz : i.natAbs = 0
  · rw [hz]; decide
  · exact (Nat.log2_lt hz).mpr (Nat.lt_of_lt_of_le h (Nat.pow_le_pow_right (by decide) (by decide)))
theorem big_of {i : Int} {k : Nat} (hk : k ≤ 1900) (h : i.natAbs < 2 ^ k) : i.natAbs < 2 ^ 1900 := Nat.lt_of_lt_of_le h (Nat.pow_le_pow_right (by decide) hk)
theorem But.fx {b : Addr} {M : Mu} {H H' : Hp} (h : But b H H') (hb : M b) (l : Bag H' b) : Fx M H H' :=
  ⟨fun c o n e => by rw [h c (fun z => n (by rw [z]; exact hb))]; exact e, fun hl m hm => by
    by_cases z : m = b
    · obtain ⟨_, _, e, _⟩ := l
      rw [z, e]; simp
    · rw [h m z]; exact hl m hm⟩
/-- the bag alone is changeable -/
def onlyB (b : Addr) : Mu := fun c => c = b
theorem Bag.live {H : Hp} {b : Addr} (h : Bag H b) : Live (onlyB b) H := fun m hm => by
  obtain ⟨_, _, e, _⟩ := h
  rw [show m = b from hm, e]; simp
theorem Bag.same {H H' : Hp} {b : Addr} (h : Bag H b) (s : Same H H') : Bag H' b := by
  obtain ⟨x, m, e, V⟩ := h
  exact ⟨x, m, s _ _ e, V⟩
end GR
namespace GR
open PySem PySem.Spec L2
/-! ## comparisons as tests -/
section
variable {X : Cx} (M : Mu)
theorem pb_of {e : Expr} {t : TE} {r : RD} (h : PT X e (tTest t)) (i : ∀ σ H d, Live M H → r σ H d → ∀ Q : VK, (∀ H' v, Same H H' → Dt M X.K H' v d → Q v H') → t σ H Q) (m : ∀ σ H H' d, Same H H' → r σ H d → r σ H' d) : PB X M e (rBool r) :=
  ⟨pt_imp h fun σ H Q ⟨hl, b, a1, q⟩ => i σ H _ hl a1 _ fun H' v s d => ⟨b, dt_bl d, q H' s⟩, fun σ H H' b f a => m _ _ _ _ f a⟩
theorem pb_cmp {op : CmpOp} {a b : Expr} {r1 r2 : RD} {g : Int → Int → V} {pos} (ho : OpR X (compareOp op) (rI0 g)) (h1 : PD X M a r1) (h2 : PD X M b r2) (hm : lastMarks [op] [b] = false := by first | exact nomark _ | with_unfolding_all rfl) : PB X M (.Compare a [op] [b] pos) (rBool (rOpD r1 r2 (fun _ _ => True) g)) :=
  pb_of M (pt_cmpR ho h1.run h2.run hm) (fun σ H d hl ⟨i, j, a1, a2, hc, e⟩ Q q => ⟨hl, _, a1, fun H1 v f1 d1 => ⟨hl.same f1, _, h2.mono _ _ _ _ f1 a2, fun H2 w f2 d2 =>
    ⟨i, j, dt_int d1, dt_int d2, q H2 _ (f1.trans f2) (toD_dt e)⟩⟩⟩) (rOpD_mono h1.mono h2.mono)
theorem pb_eq {k : Nat} {a b : Expr} {r1 r2 : RD} {pos} (hr : Room k X.A) (h1 : PD X M a r1) (h2 : PD X M b r2) (hm : lastMarks [.Eq] [b] = false := by first | exact nomark _ | with_unfolding_all rfl) : PB X M (.Compare a [.Eq] [b] pos) (rBool (rEqv false r1 r2)) :=
  pb_of M (pt_cmpR (op_eqD hr.units) h1.run h2.run hm) (fun σ H d hl ⟨x, y, a1, a2, s1, s2, e⟩ Q q => ⟨hl, _, a1, fun H1 v f1 d1 => ⟨hl.same f1, _, h2.mono _ _ _ _ f1 a2, fun H2 w f2 d2 =>
    ⟨x, y, (d1.sm f2).dp (noDict_of s1), d2.dp (noDict_of s2), s1, s2, q H2 _ (f1.trans f2) (by subst e; exact .bl _)⟩⟩⟩) (rEqv_mono h1.mono h2.mono)
theorem pb_ne {k : Nat} {a b : Expr} {r1 r2 : RD} {pos} (hr : Room k X.A) (h1 : PD X M a r1) (h2 : PD X M b r2) (hm : lastMarks [.NotEq] [b] = false := by first | exact nomark _ | with_unfolding_all rfl) : PB X M (.Compare a [.NotEq] [b] pos) (rBool (rEqv true r1 r2)) :=
  pb_of M (pt_cmpR (op_neD hr.units) h1.run h2.run hm) (fun σ H d hl ⟨x, y, a1, a2, s1, s2, e⟩ Q q => ⟨hl, _, a1, fun H1 v f1 d1 => ⟨hl.same f1, _, h2.mono _ _ _ _ f1 a2, fun H2 w f2 d2 =>
    ⟨x, y, (d1.sm f2).dp (noDict_of s1), d2.dp (noDict_of s2), s1, s2, q H2 _ (f1.trans f2) (by subst e; exact .bl _)⟩⟩⟩) (rEqv_mono h1.mono h2.mono)
theorem pb_inL {k : Nat} {a b : Expr} {r1 r2 : RD} {pos} (hr : Room k X.A) (h1 : PD X M a r1) (h2 : PD X M b r2) (hm : lastMarks [.In] [b] = false := by with_unfolding_all rfl) : PB X M (.Compare a [.In] [b] pos) (rBool (rInLD false r1 r2)) :=
  pb_of M (pt_cmpR (op_inD (by have := hr.un; omega)) h1.run h2.run hm) (fun σ H d hl ⟨x, ds, a1, a2, s1, s2, e⟩ Q q => ⟨hl, _, a1, fun H1 v f1 d1 => ⟨hl.same f1, _, h2.mono _ _ _ _ f1 a2, fun H2 w f2 d2 =>
    ⟨x, ds, (d1.sm f2).dp (noDict_of s1), d2.dp (noDict_of s2), s1, s2, q H2 _ (f1.trans f2) (by subst e; exact .bl _)⟩⟩⟩) (rInLD_mono h1.mono h2.mono)
theorem pb_niL {k : Nat} {a b : Expr} {r1 r2 : RD} {pos} (hr : Room k X.A) (h1 : PD X M a r1) (h2 : PD X M b r2) (hm : lastMarks [.NotIn] [b] = false := by with_unfolding_all rfl) : PB X M (.Compare a [.NotIn] [b] pos) (rBool (rInLD true r1 r2)) :=
  pb_of M (pt_cmpR (op_notInD (by have := hr.un; omega)) h1.run h2.run hm) (fun σ H d hl ⟨x, ds, a1, a2, s1, s2, e⟩ Q q => ⟨hl, _, a1, fun H1 v f1 d1 => ⟨hl.same f1, _, h2.mono _ _ _ _ f1 a2, fun H2 w f2 d2 =>
    ⟨x, ds, (d1.sm f2).dp (noDict_of s1), d2.dp (noDict_of s2), s1, s2, q H2 _ (f1.trans f2) (by subst e; exact .bl _)⟩⟩⟩) (rInLD_mono h1.mono h2.mono)
theorem pb_chain {op op' : CmpOp} {a b c : Expr} {r1 r2 r3 : RD} {g g' : Int → Int → Bool} {pos} (ho : OpR X (compareOp op) (rI0 fun i j => .bl (g i j))) (ho' : OpR X (compareOp op') (rI0 fun i j => .bl (g' i j)))
    (h1 : PD X M a r1) (h2 : PD X M b r2) (h3 : PD X M c r3) (hm : lastMarks [op, op'] [b, c] = false := by with_unfolding_all rfl) : PB X M (.Compare a [op, op'] [b, c] pos) (rBool (rChainD r1 r2 r3 g g')) :=
  pb_of M (pt_chain ho ho' h1.run h2.run h3.run hm) (fun σ H d hl ⟨i, j, k, a1, a2, a3, e⟩ Q q => ⟨hl, _, a1, fun H1 v f1 d1 => ⟨hl.same f1, _, h2.mono _ _ _ _ f1 a2, fun H2 w f2 d2 =>
    ⟨i, j, dt_int d1, dt_int d2, _, rfl, by
      cases z : g i j with
      | false =>
        rw [if_neg Bool.false_ne_true]
        refine q _ _ (f1.trans f2) ?_
        rw [e, z]
        exact .bl false
      | true =>
        rw [if_pos rfl]
        refine ⟨hl.same (f1.trans f2), _, h3.mono _ _ _ _ (f1.trans f2) a3, fun H3 u f3 d3 => ⟨j, k, dt_int d2, dt_int d3, q _ _ ((f1.trans f2).trans f3) ?_⟩⟩
        rw [e, z]
        exact .bl _⟩⟩⟩) (fun σ H H' d f ⟨i, j, k, a1, a2, a3, e⟩ => ⟨i, j, k, h1.mono _ _ _ _ f a1, h2.mono _ _ _ _ f a2, h3.mono _ _ _ _ f a3, e⟩)
end
end GR
namespace GR
open PySem PySem.Spec L2
/-! ## the changeable objects chosen at the reading -/
section
variable {X : Cx}
def tDX (K : PySem.W.Frag) (r : Mu → RD) : TE := fun σ H Q => ∃ M, tD M K (r M) σ H Q
theorem pe_ex {e : Expr} {r : Mu → RD} (h : ∀ M, PD X M e (r M)) : PE X e (tDX X.K r) := ⟨fun pins s σ H Q I ⟨M, z⟩ => (h M).run.run pins s σ H Q I z⟩
def tDBX (r : Mu → RB) : TT := fun σ H Q => ∃ M, tDB M (r M) σ H Q
theorem pt_ex {e : Expr} {r : Mu → RB} (h : ∀ M, PB X M e (r M)) : PT X e (tDBX r) := ⟨fun pins s σ H Q I ⟨M, z⟩ => (h M).run.run pins s σ H Q I z⟩
def rReprX (K : PySem.W.Frag) : List V → Hp → VK → Prop := fun xs H Q => ∃ M, rReprT M K xs H Q
theorem call_reprX {k : Nat} (hr : Room k X.A) (gd : X.A.guards = some []) : CallR X (.builtin "repr") (rReprX X.K) := fun pins s σ H xs us Q I r ⟨M, z⟩ => call_reprT M hr gd pins s σ H xs us Q I r z
end
end GR

namespace GR
open PySem PySem.Spec L2
/-! ## x, *rest = a tuple -/
section
variable {prog : Program} {w : World} {A : Around} {E : Value → Shared → Prop} {s : Shared}
theorem walks1 (hh : A.handled = none) (I ax : Addr) (hne : ax ≠ I) (items : Array Value) (h1 : 1 ≤ items.size) :
    Walks prog w A I [I, ax] [I] (items.size - 1) (fun i v => items[1 + i]? = some v) (fun i h => h.IsTupleIter I ax (1 + i) ∧ h.IsTuple ax items) := by
  have W := Walks.tuple (prog := prog) (w := w) (A := A) hh I ax hne items
  refine ⟨W.sub, fun i h h' st hk => W.frame (1 + i) h h' st hk, fun i s Q E hi st hQ => ?_, fun s Q E st hQ => ?_, fun i s Q E st hQ => W.self (1 + i) s Q E st hQ⟩
  · exact W.item (1 + i) s Q E (by omega) st fun v h' tk hp st' hk => hQ v h' tk hp (by rw [show 1 + (i + 1) = 1 + i + 1 by omega]; exact st') hk
  · exact W.done s Q E (by rw [show 1 + (items.size - 1) = items.size by omega] at st; exact st) hQ
theorem items_tail {items acc : Array Value} (h1 : 1 ≤ items.size) (h : ItemsOf (fun i v => items[1 + i]? = some v) acc (items.size - 1)) : acc.toList = items.toList.drop 1 := by
  refine List.ext_getElem? fun i => ?_
  rw [List.getElem?_drop, Array.getElem?_toList, Array.getElem?_toList]
  by_cases hi : i < acc.size
  · have e := h.2 i acc[i] (by simp [hi])
    rw [e]
    simp [hi]
  · have hz := h.1
    rw [Array.getElem?_eq_none (by omega), Array.getElem?_eq_none (by omega)]
theorem unpack_star {t : Addr} {items : Array Value} {Q : List Value → Shared → Prop} (hh : A.handled = none) (ht : s.heap.IsTuple t items) (h1 : 1 ≤ items.size) (hz : items.size ≤ sizeLine)
    (hQ : ∀ (x : Value) (h' : Heap) (tk : Nat), items.toList = x :: items.toList.drop 1 → (∀ b o, s.heap.get? b = some o → h'.get? b = some o) →
      Q [x, .ref h'.objs.size] { s with heap := h'.push { cls := .type "list", data := .seq (items.toList.drop 1).toArray }, toks := tk }) : wpAny (model prog w) A (unpackItems (.ref t) 2 (some 1)) Q E s := by
  have hlt : t ≠ s.heap.objs.size := by obtain ⟨o, ho, _⟩ := ht; exact Nat.ne_of_lt (Heap.lt_size ho)
  unfold unpackItems
  refine wpAny_bind ?_
  unfold notIterableAtAll
  refine wpAny_bind (wpAny_specialOf ht.typeIs F.slot_tuple_iter.lookup ?_)
  refine wpAny_pure ?_
  simp only [Bool.false_eq_true, if_false]
  refine wpAny_bind (wpAny_holding (wpAny_pyIter_tuple ht ?_))
  refine wpAny_bind (wpAny_holding (wpAny_draw_tuple hlt 1 0 _ _ ⟨_, Heap.get?_push_size _ rfl, rfl, rfl⟩ (ht.push _) (by omega) fun h2 hit2 hs2 => ?_))
  have ht2 : h2.IsTuple t items := (ht.push _).extBut hs2.extBut hlt
  have e0 : items.toList = items[0] :: items.toList.drop 1 := by
    have := List.drop_eq_getElem_cons (l := items.toList) (i := 0) (by rw [Array.length_toList]; omega)
    rw [List.drop_zero] at this
    simpa using this
  have eh : List.take 1 (List.drop 0 items.toList) = [items[0]] := by
    rw [List.drop_zero, e0]
    rfl
  rw [eh]
  rw [if_neg (by simp)]
  have ht2' := ht2
  obtain ⟨ot, hot, _⟩ := id ht2
  obtain ⟨oi, hoi, _⟩ := id hit2
  have W := (walks1 (prog := prog) (w := w) (A := A.in1) hh s.heap.objs.size t hlt items h1).toS
  refine wpAny_bind (wpAny_holding (wpAny_collect_iter (T := "tuple_iterator") (.inr (.inr (.inr rfl))) W (fun i s st => st.1.typeIs) (s := { s with heap := h2 }) ⟨hit2, ht2'⟩ (fun b hb => ?_) (by simp) (fun s' acc hm hacc => ?_) (by omega)))
  · rcases List.mem_cons.mp hb with e | e
    · rw [e]; exact Heap.lt_size hoi
    · rw [List.mem_singleton.mp e]; exact Heap.lt_size hot
  · have el := items_tail h1 hacc
    have hz2 : acc.size = items.size - 1 := hacc.1
    rw [if_neg (by simp)]
    have et : List.take (acc.toList.length - (2 - 1 - 1)) acc.toList = items.toList.drop 1 := by
      rw [el]
      exact List.take_of_length_le (by omega)
    have ed : List.drop (acc.toList.length - (2 - 1 - 1)) acc.toList = [] := List.drop_of_length_le (by omega)
    rw [et, ed]
    refine wpAny_bind (wpAny_newObj_type ?_ (by show ((items.toList.drop 1).toArray).size ≤ sizeLine; rw [List.size_toArray, List.length_drop, Array.length_toList]; omega))
    refine wpAny_pure ?_
    rw [Moved.eq_with hm]
    refine hQ items[0] s'.heap s'.toks e0 fun b o e => ?_
    have hb : b ≠ s.heap.objs.size := Nat.ne_of_lt (Heap.lt_size e)
    exact hm.heap b o (by simpa using hb) (hs2.extBut b o hb (Heap.get?_push_of_some _ e))
end
section
variable {X : Cx}
def gStar (K : PySem.W.Frag) (t : TGs) : TG := fun v σ H Q => ∃ a x xs, v = .ref a ∧ SqT K H a (x :: xs) ∧ ∀ p, H p = none → t [x, .ref p] σ (upd H p (.lst xs)) Q
theorem pg_star {e1 e2 : Expr} {k : Nat} {t : TGs} {pos p2 : Pos} (hc : X.calm = true) (h : PGs X [e1, e2] t)
    (he : assignEach [e1, .Starred e2 p2] X.env = [(false, assign e1 X.env), (true, assign e2 X.env)] := by rfl) (he2 : (assignEach [e1, e2] X.env).map (·.2) = [assign e1 X.env, assign e2 X.env] := by rfl) :
    PG X (.Tuple [e1, .Starred e2 p2] k pos) (gStar X.K t) := by
  refine ⟨fun pins s σ H v u Q I r hw => ?_⟩
  obtain ⟨a, x, xs, ev, hq, hw⟩ := hw
  subst ev
  cases r
  obtain ⟨its, rv, ht, hz⟩ := I.tuple hq
  rw [PyProof.Rows.assign_Tuple, he]
  refine wpAny_bind (wpAny_standAt ?_)
  unfold unpack
  refine wpAny_bind (wpAny_holding (unpack_star (I.ok.hd hc) ht (by rw [List.size_toArray, ← rv.length]; simp) (by rw [List.size_toArray, ← rv.length]; exact hz) fun y h' tk ey hk => ?_))
  have ey' : its = y :: its.drop 1 := by simpa using ey
  rw [ey'] at rv
  cases rv with
  | cons r1 r2 =>
    have I1 : Inv X pins σ H { s with heap := h', toks := tk } := I.kept hk
    have I2 := I1.lnew (t' := tk) r2 (by simp only [List.length_cons] at hz; omega)
    have := h.run pins _ σ _ [x, .ref h'.objs.size] [y, .ref h'.objs.size] Q I2 (.cons r1 (.cons rfl .nil)) (hw _ I1.fresh)
    rw [he2] at this
    simpa using this
end
end GR

namespace GR
open PySem PySem.Spec L2
section
variable {X : Cx} (M : Mu)
/-! ## constants of the module -/
theorem pd_glob {x : Str} {v : V} {u : Value} {d : PyData} {pos : Pos} (hm : X.mg x = some u) (r : RelV v u) (hd : toD v = some d) (hg : Gl X x := by rfl) (hdb : (x == ("__debug__" : Str)) = false := by decide) :
    PD X M (.Name x pos) (fun _ _ e => e = d) :=
  pd_of M (pe_glob hg hm r hdb) (fun σ H e hl h Q q => by subst h; exact q H v (Same.refl H) (toD_dt hd)) (fun _ _ _ _ _ h => h)
theorem pd_globT {x : Str} {a : Addr} {xs : List V} {ds : List PyData} {pos : Pos} (hm : X.mg x = some (.ref a)) (hq : ∀ M H, SqTx M X.K H a xs) (hd : ∀ M H, DtAll M X.K H xs ds) (hg : Gl X x := by rfl) (hdb : (x == ("__debug__" : Str)) = false := by decide) :
    PD X M (.Name x pos) (fun _ _ e => e = .tuple ds) :=
  pd_of M (pe_glob (v := .ref a) hg hm rfl hdb) (fun σ H e hl h Q q => by subst h; exact q H _ (Same.refl H) (.tup (hq M H) (hd M H))) (fun _ _ _ _ _ h => h)
/-! ## texts -/
def rLenS (r : RD) : RD := fun σ H d => ∃ x : Str, r σ H (.str x) ∧ x.length ≤ sizeLine ∧ d = .int x.length
theorem pd_lenS {e : Expr} {r : RD} {p pos} (hm : X.mg "len" = none) (h : PD X M e r) (hg : Gl X "len" := by rfl) (he : starEach (e :: []) X.env = (false, eval e X.env) :: starEach [] X.env := by rfl) (hpl : (backTo pos (starEach [] X.env)).any (·.1) = false := by rfl) :
    PD X M (.Call (.Name "len" p) [e] [] pos) (rLenS r) :=
  pd_of M (pe_callB call_len_str hg hm PySem.boot_len (pa_cons h.run pa_nil he) (by decide) (by decide) he hpl) (fun σ H d hl ⟨x, a1, hz, e⟩ Q q => by
    subst e
    exact ⟨hl, _, a1, fun H1 v f1 d1 => ⟨x, by rw [dt_str d1], hz, q _ _ f1 (.int _)⟩⟩) (fun σ H H' d f ⟨x, a1, e⟩ => ⟨x, h.mono _ _ _ _ f a1, e⟩)
def rAddS (r1 r2 : RD) : RD := fun σ H d => ∃ x y : Str, r1 σ H (.str x) ∧ r2 σ H (.str y) ∧ x.length + y.length ≤ sizeLine ∧ d = .str (x ++ y)
theorem pd_addS {a b : Expr} {r1 r2 : RD} {pos} (h1 : PD X M a r1) (h2 : PD X M b r2) : PD X M (.BinOp a .Add b pos) (rAddS r1 r2) :=
  pd_of M (pe_op op_add_str h1.run h2.run) (fun σ H d hl ⟨x, y, a1, a2, hz, e⟩ Q q => ⟨hl, _, a1, fun H1 v f1 d1 => ⟨hl.same f1, _, h2.mono _ _ _ _ f1 a2, fun H2 w f2 d2 => by
    subst e
    exact ⟨x, y, dt_str d1, dt_str d2, hz, q _ _ (f1.trans f2) (.str _)⟩⟩⟩) (fun σ H H' d f ⟨x, y, a1, a2, h⟩ => ⟨x, y, h1.mono _ _ _ _ f a1, h2.mono _ _ _ _ f a2, h⟩)
/-- one sign in a text -/
def rInS (neg : Bool) (r1 r2 : RD) : RD := fun σ H d => ∃ (c : Nat) (z : Str), r1 σ H (.str ⟨#[c]⟩) ∧ r2 σ H (.str z) ∧ d = .bool (if neg then !decide (c ∈ z.cps.toList) else decide (c ∈ z.cps.toList))
theorem pd_inS {a b : Expr} {r1 r2 : RD} {pos} (h1 : PD X M a r1) (h2 : PD X M b r2) (hm : lastMarks [.In] [b] = false := by with_unfolding_all rfl) : PD X M (.Compare a [.In] [b] pos) (rInS false r1 r2) :=
  pd_of M (pe_cmpR op_in_sign h1.run h2.run hm) (fun σ H d hl ⟨c, z, a1, a2, e⟩ Q q => ⟨hl, _, a1, fun H1 v f1 d1 => ⟨hl.same f1, _, h2.mono _ _ _ _ f1 a2, fun H2 w f2 d2 =>
    ⟨c, z, dt_str d1, dt_str d2, q _ _ (f1.trans f2) (by subst e; exact .bl _)⟩⟩⟩) (fun σ H H' d f ⟨c, z, a1, a2, e⟩ => ⟨c, z, h1.mono _ _ _ _ f a1, h2.mono _ _ _ _ f a2, e⟩)
theorem pb_inS {a b : Expr} {r1 r2 : RD} {pos} (h1 : PD X M a r1) (h2 : PD X M b r2) (hm : lastMarks [.In] [b] = false := by with_unfolding_all rfl) : PB X M (.Compare a [.In] [b] pos) (rBool (rInS false r1 r2)) :=
  pb_of M (pt_cmpR op_in_sign h1.run h2.run hm) (fun σ H d hl ⟨c, z, a1, a2, e⟩ Q q => ⟨hl, _, a1, fun H1 v f1 d1 => ⟨hl.same f1, _, h2.mono _ _ _ _ f1 a2, fun H2 w f2 d2 =>
    ⟨c, z, dt_str d1, dt_str d2, q _ _ (f1.trans f2) (by subst e; exact .bl _)⟩⟩⟩) (fun σ H H' d f ⟨c, z, a1, a2, e⟩ => ⟨c, z, h1.mono _ _ _ _ f a1, h2.mono _ _ _ _ f a2, e⟩)
/-! ## x in a tuple of flat things -/
def flatD : PyData → Bool
  | .none | .bool _ | .int _ | .str _ => true
  | _ => false
theorem flat_v {M : Mu} {K : PySem.W.Frag} {H : Hp} {v : V} {d : PyData} (h : Dt M K H v d) (f : flatD d = true) : flatV v = true := by
  cases h <;> first | rfl | (simp [flatD] at f)
theorem eqV_eqv {M : Mu} {K : PySem.W.Frag} {H : Hp} {v u : V} {d e : PyData} (h : Dt M K H v d) (g : Dt M K H u e) (f1 : flatD d = true) (f2 : flatD e = true) : eqV v u = PyData.eqv d e := by
  cases h <;> cases g <;> first | rfl | (simp [flatD] at f1) | (simp [flatD] at f2)
theorem any_eqv {M : Mu} {K : PySem.W.Frag} {H : Hp} {u : V} {e : PyData} (g : Dt M K H u e) (f2 : flatD e = true) : ∀ {vs : List V} {ds : List PyData}, DtAll M K H vs ds → ds.all flatD = true → inV u vs = (ds.any fun z => PyData.eqv z e) ∧ vs.all flatV = true
  | _, _, .nil, _ => ⟨rfl, rfl⟩
  | v :: vs, d :: ds, .cons a b, h => by
    have h' : flatD d = true ∧ ds.all flatD = true := by simpa using h
    obtain ⟨z1, z2⟩ := any_eqv g f2 b h'.2
    refine ⟨?_, by rw [List.all_cons, flat_v a h'.1, z2]; rfl⟩
    show (eqV v u || inV u vs) = _
    rw [eqV_eqv a g h'.1 f2, z1, List.any_cons]
def rInT (neg : Bool) (r1 r2 : RD) : RD := fun σ H d => ∃ x ds, r1 σ H x ∧ (r2 σ H (.tuple ds) ∨ r2 σ H (.list ds)) ∧ flatD x = true ∧ ds.all flatD = true ∧ d = .bool (if neg then !(ds.any fun z => PyData.eqv z x) else ds.any fun z => PyData.eqv z x)
theorem inT_read {r1 r2 : RD} {neg : Bool} {a b : Expr} (h1 : PD X M a r1) (h2 : PD X M b r2) (σ : L2.St) (H : Hp) (d : PyData) (hl : Live M H) (h : rInT neg r1 r2 σ H d) (Q : VK) (q : ∀ H' v, Same H H' → Dt M X.K H' v d → Q v H') :
    tOp (rIn X.K neg) (tD M X.K r1) (tD M X.K r2) σ H Q := by
  obtain ⟨x, ds, a1, a2, fx, fs, e⟩ := h
  subst e
  refine ⟨hl, _, a1, fun H1 v f1 d1 => ?_⟩
  rcases a2 with a2 | a2
  · refine ⟨hl.same f1, _, h2.mono _ _ _ _ f1 a2, fun H2 w f2 d2 => ?_⟩
    obtain ⟨p, xs, rfl, s1, da⟩ := dt_tuple d2
    obtain ⟨z1, z2⟩ := any_eqv (d1.sm f2) fx da fs
    refine ⟨p, xs, rfl, .inr s1.sq, flat_v (d1.sm f2) fx, z2, ?_⟩
    rw [z1]
    exact q _ _ (f1.trans f2) (.bl _)
  · refine ⟨hl.same f1, _, h2.mono _ _ _ _ f1 a2, fun H2 w f2 d2 => ?_⟩
    obtain ⟨p, xs, rfl, s1, da⟩ := dt_list d2
    obtain ⟨z1, z2⟩ := any_eqv (d1.sm f2) fx da fs
    refine ⟨p, xs, rfl, .inl s1.sq, flat_v (d1.sm f2) fx, z2, ?_⟩
    rw [z1]
    exact q _ _ (f1.trans f2) (.bl _)
theorem rInT_mono {neg : Bool} {r1 r2 : RD} (m1 : ∀ σ H H' d, Same H H' → r1 σ H d → r1 σ H' d) (m2 : ∀ σ H H' d, Same H H' → r2 σ H d → r2 σ H' d) :
    ∀ σ H H' d, Same H H' → rInT neg r1 r2 σ H d → rInT neg r1 r2 σ H' d := fun σ H H' d f ⟨i, j, h1, h2, h⟩ => ⟨i, j, m1 _ _ _ _ f h1, h2.imp (m2 _ _ _ _ f) (m2 _ _ _ _ f), h⟩
theorem pd_inT {a b : Expr} {r1 r2 : RD} {pos} (h1 : PD X M a r1) (h2 : PD X M b r2) (hm : lastMarks [.In] [b] = false := by with_unfolding_all rfl) : PD X M (.Compare a [.In] [b] pos) (rInT false r1 r2) :=
  pd_of M (pe_cmpR op_in_seq h1.run h2.run hm) (fun σ H d hl h Q q => inT_read M h1 h2 σ H d hl h Q q) (rInT_mono h1.mono h2.mono)
theorem pb_inT {a b : Expr} {r1 r2 : RD} {pos} (h1 : PD X M a r1) (h2 : PD X M b r2) (hm : lastMarks [.In] [b] = false := by with_unfolding_all rfl) : PB X M (.Compare a [.In] [b] pos) (rBool (rInT false r1 r2)) :=
  pb_of M (pt_cmpR op_in_seq h1.run h2.run hm) (fun σ H d hl h Q q => inT_read M h1 h2 σ H d hl h Q q) (rInT_mono h1.mono h2.mono)
theorem pd_niT {a b : Expr} {r1 r2 : RD} {pos} (h1 : PD X M a r1) (h2 : PD X M b r2) (hm : lastMarks [.NotIn] [b] = false := by with_unfolding_all rfl) : PD X M (.Compare a [.NotIn] [b] pos) (rInT true r1 r2) :=
  pd_of M (pe_cmpR op_notIn_seq h1.run h2.run hm) (fun σ H d hl h Q q => inT_read M h1 h2 σ H d hl h Q q) (rInT_mono h1.mono h2.mono)
theorem pb_niT {a b : Expr} {r1 r2 : RD} {pos} (h1 : PD X M a r1) (h2 : PD X M b r2) (hm : lastMarks [.NotIn] [b] = false := by with_unfolding_all rfl) : PB X M (.Compare a [.NotIn] [b] pos) (rBool (rInT true r1 r2)) :=
  pb_of M (pt_cmpR op_notIn_seq h1.run h2.run hm) (fun σ H d hl h Q q => inT_read M h1 h2 σ H d hl h Q q) (rInT_mono h1.mono h2.mono)
/-- abs(n) -/
def rAbs (r : RD) : RD := fun σ H d => ∃ i : Int, r σ H (.int i) ∧ d = .int (if i < 0 then -i else i)
theorem pd_abs {e : Expr} {r : RD} {p pos} (hm : X.mg "abs" = none) (h : PD X M e r) (hg : Gl X "abs" := by rfl) (he : starEach (e :: []) X.env = (false, eval e X.env) :: starEach [] X.env := by rfl) (hpl : (backTo pos (starEach [] X.env)).any (·.1) = false := by rfl) :
    PD X M (.Call (.Name "abs" p) [e] [] pos) (rAbs r) :=
  pd_of M (pe_callB call_abs hg hm (by decide +kernel) (pa_cons h.run pa_nil he) (by decide) (by decide) he hpl) (fun σ H d hl ⟨i, a1, e⟩ Q q => by
    subst e
    exact ⟨hl, _, a1, fun H1 v f1 d1 => ⟨i, by rw [dt_int d1], q _ _ f1 (.int _)⟩⟩) (fun σ H H' d f ⟨i, a1, e⟩ => ⟨i, h.mono _ _ _ _ f a1, e⟩)
/-! ## [elt for c in a text] -/
def rLcS (i : Nat) (rs : RD) (r : Mu → RD) : RD := fun σ H d => ∃ (z : Str) (es : List PyData), rs σ H (.str z) ∧ z.cps.size ≤ 1000 ∧ es.length = z.cps.size ∧
  (∀ (M' : Mu) (k : Nat) c e, z.cps[k]? = some c → es[k]? = some e → ∀ H', Same H H' → r M' ((wipe σ [i]).set i (some (.str ⟨#[c]⟩))) H' e) ∧ d = .list es
theorem pd_lcS {elt src : Expr} {scope : Scope} {y : Str} {i : Nat} {pos ps : Pos} {rs : RD} {r : Mu → RD} (hc : X.calm = true) (hN : X.N.Nodup) (hsrc : PD X M src rs) (ok : BlkOk X.N X.env.scope scope [(y, i)])
    (hg : ∀ (s : Shared) (H : Hp) (C : Addr) (cl : List (Str × Addr)) (fp : List Addr), PG (X.blk s H scope (compEnvC scope cl C X.env) fp) (.Name y ps) (gName i))
    (he : ∀ (M : Mu) (s : Shared) (H : Hp) (C : Addr) (cl : List (Str × Addr)) (fp : List Addr), PD (X.blk s H scope (compEnvC scope cl C X.env) fp) M elt (r M)) (hs : ∀ x, foldedSetIterable src X.env x = pure x := by intro _; rfl) :
    PD X M (.ListComp elt [⟨.Name y ps, src, [], 0⟩] scope pos) (rLcS i rs r) := by
  refine pd_of M (pe_lc (own := [(y, i)]) (g := gName i) (tt := tYes) (te := fun σ H Q => ∃ M', tD M' X.K (r M') σ H Q) hc hN (pi_str hsrc.run) ok hg (fun _ _ _ _ _ => pts_nil)
    (fun s H C cl fp => ⟨fun pins s' σ H' Q I ⟨M', z⟩ => (he M' s H C cl fp).run.run pins s' σ H' Q I z⟩) hs) (fun σ H d hl ⟨z, es, a1, hz, el, hr, e⟩ Q q => ?_)
    (fun σ H H' d f ⟨z, es, a1, hz, el, hr, e⟩ => ⟨z, es, hsrc.mono _ _ _ _ f a1, hz, el, fun M' k c y h1 h2 H'' f2 => hr M' k c y h1 h2 H'' (f.trans f2), e⟩)
  refine ⟨hl, _, a1, fun H1 w f1 dw => ⟨z, dt_str dw, fun D nD => ?_⟩⟩
  have F0 : Filled M X.K H1 (upd H1 D (.lst [])) D (es.take 0) := .start nD
  refine ⟨fun k m H2 => m = z.cps.size - k ∧ k ≤ z.cps.size ∧ Filled M X.K H1 H2 D (es.take k), ⟨z.cps.size, rfl, Nat.zero_le _, F0⟩, ?_⟩
  rintro k m H2 ⟨rfl, hk, F⟩
  by_cases hlt : k < z.cps.size
  · refine .inr ⟨hlt, fun H' => Filled M X.K H1 H' D (es.take (k + 1)), fun H' p => ⟨z.cps.size - (k + 1), by omega, rfl, hlt, p⟩, fun x H' yl => ?_⟩
    obtain ⟨rfl, c, ec, rfl⟩ := yl
    have hke : k < es.length := by omega
    obtain ⟨acc, ha, dacc⟩ := F.at_
    refine ⟨wipe1 σ i _, GR.plus1 M D, ((hl.same f1).same F.sm).plus1 (by rw [ha]; simp), es[k], hr _ k c _ ec (List.getElem?_eq_getElem hke) _ (f1.trans F.sm), fun H4 y s4 dy => ?_⟩
    obtain ⟨acc', g1, g2, g3⟩ := F.more nD s4 dy
    refine ⟨acc', g1, ?_, ?_⟩
    · rw [g2, List.length_take]
      exact Nat.lt_of_le_of_lt (Nat.min_le_left _ _) (small1000 (by omega))
    · rw [List.take_add_one, List.getElem?_eq_getElem hke]
      exact g3
  · have ek : k = z.cps.size := by omega
    subst ek
    rw [← el, List.take_length] at F
    subst e
    exact .inl ⟨Nat.le_refl _, q _ _ (f1.trans F.sm) (F.dt ((hl.same f1).ne nD))⟩
end
end GR


namespace GR
open PySem PySem.Spec PySem.W PySem.Calls PyProof.Rows PySem.HandSPX
open Builtin Builtin.ObjectAttr
/-! ## own errors with a field: the store of the field -/
section
variable {prog : Program} {w : World} {A : Around} {E : Value → Shared → Prop} {R : Result → Shared → Prop} {hp : Heap} {g : Array GenState} {d : Drawn} {t : Nat} {os : OsState}
theorem xosa {K : W.Frag} {name : Str} {tk : Tok} {v : Value} {x C : Addr} {fv : Array Value} {cd : ClassData}
    (X : K.In hp) (hx : hp.get? x = some { cls := .ref C, data := .fields fv }) (hcd : W.clsIn K C = some cd) (ne : cd.mro.isEmpty = false) (hob : cd.mro.contains (.type "object") = true)
    (hps : refuseLoop (.ref x) "__setattr__" cd.mro = pure ()) (hh : cd.hasDict = true) (ha : W.findIn K (.ref C) name = some none)
    (hq : ∀ h' tk' dx, (∀ b o, b ≠ x → hp.get? b = some o → h'.get? b = some o) → hp.objs.size ≤ dx → dx ≠ x → h'.get? x = some { cls := .ref C, dict := some dx, data := .fields fv } →
      h'.Ns1 dx (fun y => if y = name then some v else none) → R (.ok (.ret .none)) ⟨h', g, d, tk', os⟩) :
    codeAny (model prog w) A (.call (.builtin "object.__setattr__") ⟨[.ref x, .str name tk, v], []⟩) R ⟨hp, g, d, t, os⟩ := by
  have I : W.InstAt hp x { cls := .ref C, data := .fields fv } C none := ⟨hx, rfl, rfl, trivial⟩
  have SF := F.store_object
  have hxs : x ≠ hp.objs.size := Nat.ne_of_lt (Heap.lt_size hx)
  have sub : W.Looks (model prog w) hp (isInstance (.ref x) (.type "object")) true := I.type.andThen (W.looks_mroIn X (by unfold W.mroIn; rw [hcd, Option.bind_some, if_neg (by rw [ne]; decide), hob]))
  refine codeAny_call_builtin SF.slot.plain SF.entry (@W.check_slot (model prog w) _ _ ⟨hp, g, d, t, os⟩ "object.__setattr__" "object" "__setattr__" (.ref x) [.str name tk, v] [] _ SF.kind SF.split sub (SF.args (.ref x) (.str name tk) v) ?_)
  have hmr : W.Looks (model prog w) hp (mroOf (.ref C)) cd.mro := (W.looks_clsIn X hcd).andThen .now
  have L3 : W.Looks (model prog w) hp (storeTaker? none) none := .now
  have hcls : W.Looks (model prog w) hp (classData C) cd := W.looks_clsIn X hcd
  rw [W.osa_eq, refuse_eq]
  refine wpAny_bind (wpAny_bind (I.type.at (wpAny_bind (hmr.at ?_))))
  rw [hps]
  refine wpAny_pure (wpAny_bind (I.type.at (wpAny_bind ((W.looks_findIn X ha).at (wpAny_bind (L3.at ?_))))))
  show wpAny _ _ (storeInOwnDict (.ref x) (.ref C) (.str name tk) name v false) _ _ _
  obtain ⟨nm, bs, mro, ns, qn, hd, sn, sb, ab, col, del⟩ := cd
  dsimp only at hh
  subst hh
  unfold storeInOwnDict ownDictForStores
  repeat (first | with_reducible refine store_in_new ?_ ?_ | with_reducible refine wpAny_loadPart_at hx ?_ | with_reducible refine hcls.at ?_ | wp_step)
  · exact ⟨_, #[], _, (Heap.get?_update_ne _ _ _ _ hxs.symm).trans (Heap.get?_push_at rfl rfl), rfl, fun e he => absurd he (by simp), fun _ => rfl⟩
  · intro h' tk' hn' hs
    have hx₁ : (hp.push { cls := .type "dict", data := .dict #[] }).get? x = some { cls := .ref C, data := .fields fv } := Heap.get?_push_of_some _ hx
    refine hq h' tk' hp.objs.size (fun b o hb ho => ?_) (Nat.le_refl _) hxs.symm ?_ hn'
    · exact (hs.2 b (Nat.ne_of_lt (Heap.lt_size ho))).trans ((Heap.get?_update_ne _ _ _ _ hb).trans (Heap.get?_push_of_some _ ho))
    · exact (hs.2 x hxs).trans (Heap.get?_update_self _ hx₁ rfl)
end
/-- the text of __init__(self, f): self.f = f -/
def xiA (f : Str) (p1 p2 : Pos) : Arguments := { posonlyargs := [], args := [{ arg := "self", annotation := none, pos := p1 }, { arg := f, annotation := none, pos := p2 }], vararg := none, kwonlyargs := [], kw_defaults := [], kwarg := none, defaults := [] }
def xiB (f : Str) (q1 q2 q3 q4 : Pos) : List Stmt := [.Assign [.Attribute (.Name "self" q1) f q2] (.Name f q3) q4]
def xiS (f : Str) : Scope := { kind := .function, names := [(PySem.Str.ofString "self", .local), (f, .local)], isGenerator := false, isCoroutine := false, more := [] }
/-- what the written part says of an own error class at C, and of its __init__, at fI; bm the base's chain -/
structure OwnX (K : Frag) (mg : Str → Option Value) (cn f qi : Str) (newId : String) (bm : List Value) (C fI : Addr) : Prop where
  gC : mg cn = some (.ref C)
  cls : ∃ nm q N bs sn sub ab col dd k0 k1 k2 k3 k5, K.lookup C = some (excClassObj nm q C N bs bm true sn sub ab col dd k0 k1 k2 k3 k5 newId)
  base : ∃ B initId, ExcBaseFacts B newId initId bm
  hob : bm.contains (.type "object") = true
  pss : ∀ self : Value, refuseLoop self "__setattr__" bm = pure ()
  sa : findIn K (.ref C) "__setattr__" = some (some (.builtin "object.__setattr__"))
  ga : findIn K (.ref C) "__getattribute__" = some (some (.builtin "BaseException.__getattribute__"))
  gg : findIn K (.ref C) "__getattr__" = some none
  noN : findIn K (.ref C) f = some none
  iC : findIn K (.ref C) "__init__" = some (some (.ref fI))
  tC : typeIn K (.ref fI) = some (.type "function")
  kC : keepIn K (.ref C) = true
  exC : subIn K (.ref C) (.type "BaseException") = some true
  tyC : typeIn K (.ref C) = some (.type "type")
  hdC : hasDictIn K C = true
  fn : ∃ (oc : Value) (od : Option Addr) (doc pm : Value) (an : Option Addr) (cdv ct : Value) (osl : Array (Option Value)) (p1 p2 q1 q2 q3 q4 : Pos),
    K.lookup fI = some ⟨oc, od, .func (fnOf "__init__" qi (xiA f p1 p2) (xiB f q1 q2 q3 q4) (xiS f) .none .none doc pm an cdv ct), osl⟩ ∧ codeIn K cdv qi = true
theorem OwnX.xf {K : Frag} {mg : Str → Option Value} {cn f qi : Str} {newId : String} {bm : List Value} {C fI : Addr} (T : OwnX K mg cn f qi newId bm C fI) : L2.XfC K C := ⟨T.ga, T.gg, T.exC, T.hdC⟩
theorem exm_pair {K : Frag} {A B : Addr} {r : Bool} (h1 : subIn K (.ref B) (.type "BaseException") = some true) (h2 : isClsIn K B = true) (h3 : typeIn K (.ref B) = some (.type "type")) (h4 : subIn K (.ref A) (.ref B) = some r) :
    exmOne K (.ref A) (.ref B) = some r := by
  have e1 : (subIn K (.ref B) (.type "BaseException") == some true) = true := by rw [h1] <;> rfl
  have e2 : ((clsIn K B).isSome && typeIn K (.ref B) == some (.type "type")) = true := by
    have h2' : (clsIn K B).isSome = true := h2
    rw [h2', h3] <;> rfl
  show (if (subIn K (.ref B) (.type "BaseException") == some true) = true then (if ((clsIn K B).isSome && typeIn K (.ref B) == some (.type "type")) = true then subIn K (.ref A) (.ref B) else none) else none) = some r
  rw [if_pos e1, if_pos e2]
  exact h4
/-- what __init__ leaves of a fresh exception at x -/
structure XInitEnd (f : Str) (h h' : Heap) (x C dx t1 : Addr) (v : Value) : Prop where
  keep : ∀ b o, b ≠ x → h.get? b = some o → h'.get? b = some o
  obj : h'.get? x = some { cls := .ref C, dict := some dx, data := .fields #[.ref t1, .none, .none, .none, .bool false, .none] }
  dbig : h.objs.size ≤ dx
  dne : dx ≠ x
  ns : h'.Ns1 dx (fun y => if y = f then some v else none)
/-- a made error -/
structure XMade (f : Str) (h h' : Heap) (e C d : Addr) (v : Value) : Prop where
  keep : ∀ b o, h.get? b = some o → h'.get? b = some o
  new : h.objs.size ≤ e
  obj : ∃ oe vs, h'.get? e = some oe ∧ oe.cls = .ref C ∧ oe.dict = some d ∧ oe.data = .fields vs ∧ vs[1]? = some .none
  dbig : h.objs.size ≤ d
  dne : d ≠ e
  ns : h'.Ns1 d (fun y => if y = f then some v else none)
section
variable {prog : Program} {w : World} {A : Around} {E : Value → Shared → Prop} {R : Result → Shared → Prop} {s : Shared} {K : Frag} {mg : Str → Option Value} {C fI : Addr}
theorem xldC {M : Model} {s : Shared} {name : Str} {scope : Scope} {L a : Addr} {cd : Value} {m : Str → Option Value} {x : Str} {pos : Pos} {v : Value} {Q : Value → Shared → Prop} {A : Around} {E : Value → Shared → Prop} (hn : s.heap.Ns L m) (hv : m x = some v) (h : Q v s)
    (hk : scope.kind = .function := by rfl) (hl : (envOfC name scope L a cd).kindOf x = some .local := by rfl) (hd : (x == ("__debug__" : Str)) = false := by decide) :
    wpAny M A (eval (.Name x pos) (envOfC name scope L a cd)) Q E s := wpAny_Name (wpAny_loadName_local hk hl hn hv h) hd
theorem xone_size (v : Value) : [v].length ≤ sizeLine := by
  rw [sizeLine_eq]
  exact (by decide : 1 ≤ 16777216)
theorem relO_one {f : Str} {v : L2.V} {v' : Value} (r : L2.RelV v v') (y : Str) : L2.RelO (List.lookup y [(f, v)]) (if y = f then some v' else none) := by
  by_cases hw : y = f
  · subst hw
    rw [if_pos rfl]
    have q : List.lookup y [(y, v)] = some v := by simp [List.lookup]
    rw [q]
    exact r
  · rw [if_neg hw]
    have qw : (y == f) = false := by simpa using hw
    have q2 : List.lookup y [(f, v)] = none := by simp [List.lookup, qw]
    rw [q2]
    trivial
end
/-- what a call of the class does, proved for each field's name (init walks the text) -/
def Inits (f : Str) : Prop := ∀ {prog : Program} {w : World} {A : Around} {R : Result → Shared → Prop} {s : Shared} {K : Frag} {mg : Str → Option Value} {C fI : Addr} {cn qi : Str} {newId : String} {bm : List Value}
  (T : OwnX K mg cn f qi newId bm C fI) {x t0 : Addr} {v : Value} (X : K.In s.heap) (hlim : s.heap.NoLimit) (hx : s.heap.get? x = some (excO C t0)) (hnx : K.lookup x = none) (hroom : A.depth < recursionLimit)
  (hq : ∀ h' tk dx, XInitEnd f s.heap h' x C dx t0 v → R (.ok (.ret .none)) { s with heap := h', toks := tk }),
  codeAny (model prog w) A (.call (.ref fI) ⟨[.ref x, v], []⟩) R s
theorem own_made {prog : Program} {w : World} {A : Around} {R : Result → Shared → Prop} {s : Shared} {K : Frag} {mg : Str → Option Value} {C fI : Addr} {cn f qi : Str} {newId : String} {bm : List Value} (hi : Inits f)
    (T : OwnX K mg cn f qi newId bm C fI) {v : Value} (X : K.In s.heap) (hlim : s.heap.NoLimit) (hroom : A.depth + 1 < recursionLimit)
    (hq : ∀ h' tk e d, XMade f s.heap h' e C d v → R (.ok (.ret (.ref e))) { s with heap := h', toks := tk }) :
    codeAny (model prog w) A (.call (.ref C) ⟨[v], []⟩) R s := by
  obtain ⟨nm, q, N, bs, sn, sub, ab, col, dd, k0, k1, k2, k3, k5, hC⟩ := T.cls
  obtain ⟨B, initId, FB⟩ := T.base
  obtain ⟨hp, g, dr, tk, os⟩ := s
  have k : ∀ b o, hp.get? b = some o → ((hp.push (kdv_tup [v])).push (excO C hp.objs.size)).get? b = some o := fun b o e => Heap.get?_push_of_some _ (Heap.get?_push_of_some _ e)
  have hget : ((hp.push (kdv_tup [v])).push (excO C hp.objs.size)).get? (hp.objs.size + 1) = some (excO C hp.objs.size) := by heap_get
  have hnx : K.lookup (hp.objs.size + 1) = none := by
    cases e : K.lookup (hp.objs.size + 1) with
    | none => rfl
    | some o =>
      have z : hp.get? (hp.objs.size + 1) = some o := X _ _ e
      exact absurd (Nat.lt_of_succ_lt (Heap.lt_size z)) (Nat.lt_irrefl _)
  refine call_own FB (fun _ => rfl) (X _ _ hC) (looks_findIn X T.iC) (fun self => bind_fn X self T.tC) (xone_size v) ?_
  refine hi (s := ⟨(hp.push (kdv_tup [v])).push (excO C hp.objs.size), g, dr, tk, os⟩) T (X.keeps k) (hlim.keeps k) hget hnx ?_ fun h' tk' dx ⟨k', hx, dn, dne, hns⟩ => ?_
  · show A.depth + 1 < recursionLimit
    exact hroom
  · have old : ∀ b o, hp.get? b = some o → h'.get? b = some o := fun b o e => k' b o (Nat.ne_of_lt (Nat.lt_succ_of_lt (Heap.lt_size e))) (k b o e)
    have z : hp.objs.size + 1 + 1 ≤ dx := by
      first
        | (simpa only [Heap.size_push] using dn)
        | exact dn
        | (have q := dn; rw [Heap.size_push, Heap.size_push] at q; exact q)
    exact ⟨rfl, hq h' tk' (hp.objs.size + 1) dx ⟨old, Nat.le_succ _, ⟨_, _, hx, rfl, rfl, rfl, rfl⟩, Nat.le_trans (Nat.le_trans (Nat.le_succ _) (Nat.le_succ _)) z, dne, hns⟩⟩
end GR
namespace GR
open PySem PySem.Spec PyProof.Rows L2
section
variable {X : Cx} {C fI : Addr} {cn f qi : Str} {newId : String} {bm : List Value}
/-- raise C(e) -/
def tMkX (C : Addr) (f : Str) (ta : TA) : L2.St → Hp → XK → Prop := fun σ H Q => ta σ H fun vs H1 => ∃ v, vs = [v] ∧ ∀ d, H1 d = none → Q (.ref C) (some d) (upd H1 d (.xd [(f, v)]))
theorem pmk_x {a : Expr} {ta : TA} {p pos : Pos} {k : Nat} (hi : Inits f) (T : OwnX X.K X.mg cn f qi newId bm C fI) (hr : Room k X.A) (ha : PA X [a] ta) (hg : Gl X cn := by rfl) (hdb : (cn == ("__debug__" : Str)) = false := by decide)
    (he : starEach (a :: []) X.env = (false, eval a X.env) :: starEach [] X.env := by rfl) (hpl : (backTo pos (starEach [] X.env)).any (·.1) = false := by rfl) :
    PMk X (.Call (.Name cn p) [a] [] pos) (tMkX C f ta) := by
  intro pins s σ H Q I h
  refine wpAny_Call_Name_kw (ld_glob I hg T.gC ?_ hdb)
  refine PySem.W.callWith_K (h₀ := X.base) I.ok.mod.kin T.kC (thn (ha.run pos pins s σ H _ I h) fun us s1 hh => ?_) he hpl
  obtain ⟨vs, H1, I1, r1, v, ev, q1⟩ := hh
  subst ev
  refine ⟨I1.kIn, ?_⟩
  cases r1 with
  | cons rv rn =>
    rename_i v' us'
    cases rn
    show wpAny _ _ (call (.ref C) [v']) _ _ _
    have hlim := I1.nolimit
    obtain ⟨hp, g, dr, tk, os⟩ := s1
    refine wpAny_call (own_made hi T I1.kIn hlim (by have := hr.dp; omega) fun h' tk' e d M => ?_)
    show MkP X pins σ Q (.ref e) ⟨h', g, dr, tk', os⟩
    obtain ⟨oe, fv, hoe, hc, hd, hdat, h1⟩ := M.obj
    have hns := M.ns
    obtain ⟨G', g1, g2⟩ := restrict h' fun b => decide (b ≠ e)
    have gk : ∀ b, b ≠ e → G'.get? b = h'.get? b := fun b hb => g1 b (decide_eq_true hb)
    have ge : G'.get? e = none := g2 e (by simp)
    have old : ∀ b o, hp.get? b = some o → G'.get? b = some o := fun b o q => (gk b (Nat.ne_of_lt (Nat.lt_of_lt_of_le (Heap.lt_size q) M.new))).trans (M.keep b o q)
    have ob : ObjOk X.prog X.w (upd H1 d (.xd [(f, v)])) G' d (.xd [(f, v)]) :=
      ⟨_, hns.at (fun o q => (gk d M.dne).trans q), fun y => relO_one rv y⟩
    have J : Inv X pins σ (upd H1 d (.xd [(f, v)])) ⟨G', g, dr, tk', os⟩ := I1.laid (t' := tk') old M.dbig ob
    refine ⟨e, oe, fv, ⟨G', g, dr, tk', os⟩, _, .ref C, some d, rfl, J, fun b o q => ?_, ge, hoe, ⟨hc, hd⟩, hdat, h1, ?_, rfl, I1.bare, raises_own T.exC T.tyC, q1 d (I1.hok.fresh M.dbig)⟩
    · by_cases hb : b = e
      · have q' : G'.get? b = some o := q
        rw [hb, ge] at q'; cases q'
      · exact (gk b hb).symm.trans q
    · rw [upd_ne (Ne.symm M.dne)]
      exact I1.hok.fresh M.new
def tRaiseX (C : Addr) (f : Str) (W : WX) (ta : TA) : TS := fun _ σ H => tMkX C f ta σ H fun cls d H' => W cls d σ H'
theorem ps_raiseX {a : Expr} {ta : TA} {W : WX} {p pos pos2 : Pos} {k : Nat} (hi : Inits f) (hc : X.calm = true) (T : OwnX X.K X.mg cn f qi newId bm C fI) (hr : Room k X.A) (tk : Takes X W) (ha : PA X [a] ta) (hg : Gl X cn := by rfl) (hdb : (cn == ("__debug__" : Str)) = false := by decide)
    (he : starEach (a :: []) X.env = (false, eval a X.env) :: starEach [] X.env := by rfl) (hpl : (backTo pos (starEach [] X.env)).any (·.1) = false := by rfl) :
    PS X (.Raise (some (.Call (.Name cn p) [a] [] pos)) none pos2) (tRaiseX C f W ta) := ps_raise hc tk (pmk_x hi T hr ha hg hdb he hpl)
end
/-! ## defs that answer or raise an own error -/
theorem dtAll_one {M : Mu} {K : PySem.W.Frag} {H : Hp} {vs : List V} {d : PyData} (h : DtAll M K H vs [d]) : ∃ v, vs = [v] ∧ Dt M K H v d := by
  cases h with
  | cons a b => cases b; exact ⟨_, rfl, a⟩
theorem dtAll_two {M : Mu} {K : PySem.W.Frag} {H : Hp} {vs : List V} {d e : PyData} (h : DtAll M K H vs [d, e]) : ∃ v u, vs = [v, u] ∧ Dt M K H v d ∧ Dt M K H u e := by
  cases h with
  | cons a b =>
    cases b with
    | cons b c => cases c; exact ⟨_, _, rfl, a, b⟩
theorem dtAll_three {M : Mu} {K : PySem.W.Frag} {H : Hp} {vs : List V} {d e f : PyData} (h : DtAll M K H vs [d, e, f]) : ∃ v u x, vs = [v, u, x] ∧ Dt M K H v d ∧ Dt M K H u e ∧ Dt M K H x f := by
  cases h with
  | cons a b =>
    obtain ⟨u, x, rfl, h1, h2⟩ := dtAll_two b
    exact ⟨_, _, _, rfl, a, h1, h2⟩
theorem dt_int' {M : Mu} {K : PySem.W.Frag} {H : Hp} {v : V} {i : Int} (h : Dt M K H v (.int i)) : v = .int i := by cases h; rfl
inductive Out where
  | ret (d : PyData)
  | err (C : Addr) (f : Str) (d : PyData)
def outQ (M : Mu) (K : PySem.W.Frag) (H : Hp) (Q : VK) (E : XK) : Out → Prop
  | .ret d => ∀ H' v, Same H H' → Dt M K H' v d → Q v H'
  | .err C f d => ∀ H' dd v, Same H H' → H' dd = some (.xd [(f, v)]) → Dt M K H' v d → E (.ref C) (some dd) H'
def spOut (K : PySem.W.Frag) (R : List PyData → Out → Prop) : Sp := fun vs H Q E => ∃ (M : Mu) (ds : List PyData) (o : Out), Live M H ∧ DtAll M K H vs ds ∧ R ds o ∧ outQ M K H Q E o
/-- raise, over data -/
theorem raise_out {M : Mu} {K : PySem.W.Frag} {H H1 : Hp} {Q : VK} {E : XK} {C : Addr} {f : Str} {d : PyData} {v : V} (q : outQ M K H Q E (.err C f d)) (hl : Live M H) (s : Same H H1) (dv : Dt M K H1 v d) : ∀ dd, H1 dd = none → E (.ref C) (some dd) (upd H1 dd (.xd [(f, v)])) := fun dd n =>
  q _ dd v (s.trans (same_upd n)) upd_same (dv.sm (same_upd n))
section
variable {X : Cx} (M : Mu)
theorem pd_callE {k : Nat} {f : Addr} {fd : FuncData} {ps : List Str} {R : List PyData → Out → Prop} {x : Str} {e : Expr} {es : List Expr} {rs : RDs} {p pos} (F : FnOk X.prog X.w X.K X.mg X.base (L2.CX X.prog X.w) k f fd ps (spOut X.K R)) (hr : Room k X.A) (hm : X.mg x = some (.ref f)) (hk : PySem.W.keepIn X.K (.ref f) = true)
    (hb : Binds X.K fd ps []) (ha : PDs X M (e :: es) rs) (hg : Gl X x := by rfl) (hdb : (x == ("__debug__" : Str)) = false := by decide) (he : starEach (e :: es) X.env = (false, eval e X.env) :: starEach es X.env := by rfl) (hpl : (backTo pos (starEach es X.env)).any (·.1) = false := by rfl) :
    PD X M (.Call (.Name x p) (e :: es) [] pos) (rCallD (fun ds d => R ds (.ret d)) rs) :=
  pd_of M (pe_callS (E := WE fun _ _ _ _ => False) F hr hg hm hk hb (fun σ => passAt takes0 σ) ha.run hdb he hpl) (fun σ H d hl ⟨ds, a1, a2⟩ Q q => ⟨hl, ds, a1, fun H1 vs f1 d1 =>
    ⟨M, ds, .ret d, hl.same f1, d1, a2, fun H2 v f2 d2 => q _ _ (f1.trans f2) d2⟩⟩) (fun σ H H' d f ⟨ds, a1, a2⟩ => ⟨ds, ha.mono _ _ _ _ f a1, a2⟩)
end
end GR

namespace GR
open PySem PySem.Spec PySem.W PySem.Calls PyProof.Rows PySem.HandSPX
theorem inits_part : Inits "part" := by
  intro prog w A R s K mg C fI cn qi newId bm T x t0 v X hlim hx hnx hroom hq
  obtain ⟨oc, od, doc, pm, an, cdv, ct, osl, p1, p2, q1, q2, q3, q4, ho, hcd⟩ := T.fn
  obtain ⟨nm, q, N, bs, sn, sub, ab, col, dd, k0, k1, k2, k3, k5, hC⟩ := T.cls
  have hcl : clsIn K C = some { name := nm, bases := bs, mro := .ref C :: bm, ns := N, qualname := q, hasDict := true, slotNames := sn, subclasses := sub, abstract := ab, collection := col, hasDel := false } := by unfold clsIn; rw [hC] <;> rfl
  refine Att.call_fn (binds := [("self", .ref x), ("part", v)]) X hlim ho hcd hroom (BindsTo.of_eq (by first | rfl | with_unfolding_all rfl)) (by first | rfl | decide | with_unfolding_all rfl) (fun s₁ IC => ?_) rfl rfl rfl
  obtain ⟨h₁, tk₁, rfl⟩ := IC.toInCall.same
  have k : ∀ b o, s.heap.get? b = some o → h₁.get? b = some o := IC.toInCall.keep
  have hn := IC.toInCall.ns
  have X₁ : K.In h₁ := X.keeps k
  have hx₁ := k _ _ hx
  show wpAny _ _ (execs _ _) _ _ _
  refine wpAny_execs_cons (plainObj_wpAny_Assign_Attribute ?_)
  refine xldC (v := v) hn (by first | rfl | with_unfolding_all rfl | kernel_rfl) (xldC (v := .ref x) hn (by first | rfl | with_unfolding_all rfl | kernel_rfl) ?_)
  refine set_plain X₁ (ox := excO C t0) (od := none) ⟨hx₁, rfl, rfl, trivial⟩ T.sa ?_
  refine xosa X₁ hx₁ hcl rfl (by show List.contains (.ref C :: bm) _ = true; rw [List.contains_cons, T.hob]; rfl) (by show refuseLoop _ _ (.ref C :: bm) = _; rw [refuseLoop_ref]; exact T.pss _) rfl T.noN (fun h₃ tk₃ dx k₃ dn dne hx₃ hn₃ => ?_)
  show wpAny _ _ (execs _ _) _ _ _
  have z : s.heap.objs.size < h₁.objs.size := hn.lt
  exact wpAny_execs_nil (hq h₃ tk₃ dx ⟨fun b o hb e => k₃ b o hb (k b o e), hx₃, Nat.le_of_lt (Nat.lt_of_lt_of_le z dn), dne, hn₃⟩)
end GR

namespace GR
open PySem PySem.Spec L2
section
variable {X : Cx} (M : Mu)
theorem dtAll_strs {K : PySem.W.Frag} {H : Hp} : ∀ ys : List Str, DtAll M K H (ys.map V.str) (ys.map PyData.str)
  | [] => .nil
  | y :: ys => .cons (.str y) (dtAll_strs ys)
/-- s.split(sep) -/
def rSplit (r1 r2 : RD) : RD := fun σ H d => ∃ a b : Str, r1 σ H (.str a) ∧ r2 σ H (.str b) ∧ (b.length == 0) = false ∧ a.length + 2 ≤ sizeLine ∧ d = .list ((Txt.split a b).map .str)
theorem pd_split {o e : Expr} {r1 r2 : RD} {apos pos : Pos} (h1 : PD X M o r1) (h2 : PD X M e r2) (hs : starEach [e] X.env = [(false, eval e X.env)] := by rfl) (hbase : attributeBase o "split" X.env (eval o X.env) = eval o X.env := by rfl) (hline : (apos.endLine == pos.line) = true := by rfl) :
    PD X M (.Call (.Attribute o "split" apos) [e] [] pos) (rSplit r1 r2) :=
  pd_of M (pe_split h1.run h2.run hs hbase hline) (fun σ H d hl ⟨a, b, a1, a2, hb, hz, e⟩ Q q => by
    subst e
    exact ⟨hl, _, a1, fun H1 v f1 d1 => ⟨⟨a, dt_str d1⟩, hl.same f1, _, h2.mono _ _ _ _ f1 a2, fun H2 u f2 d2 => ⟨a, b, dt_str d1, by rw [dt_str d2], hb, hz, fun p np =>
      q _ _ ((f1.trans f2).trans (same_upd np)) (.lst (.new (((hl.same f1).same f2).ne np)) (dtAll_strs M _))⟩⟩⟩) (fun σ H H' d f ⟨a, b, a1, a2, h⟩ => ⟨a, b, h1.mono _ _ _ _ f a1, h2.mono _ _ _ _ f a2, h⟩)
/-- int(text) -/
def rIntS (r : RD) : RD := fun σ H d => ∃ (a : Str) (n : Int), r σ H (.str a) ∧ intText? a = some n ∧ a.length ≤ 640 ∧ d = .int n
theorem pd_intS {e : Expr} {r : RD} {p pos} (hm : X.mg "int" = none) (h : PD X M e r) (hg : Gl X "int" := by rfl) (he : starEach (e :: []) X.env = (false, eval e X.env) :: starEach [] X.env := by rfl) (hpl : (backTo pos (starEach [] X.env)).any (·.1) = false := by rfl) :
    PD X M (.Call (.Name "int" p) [e] [] pos) (rIntS r) :=
  pd_of M (pe_callTy call_int_str hg hm (by decide +kernel) (pa_cons h.run pa_nil he) (by decide) (by decide) he hpl) (fun σ H d hl ⟨a, n, a1, hn, hz, e⟩ Q q => by
    subst e
    exact ⟨hl, _, a1, fun H1 v f1 d1 => ⟨a, n, by rw [dt_str d1], hn, hz, q _ _ f1 (.int _)⟩⟩) (fun σ H H' d f ⟨a, n, a1, e⟩ => ⟨a, n, h.mono _ _ _ _ f a1, e⟩)
/-- tuple(list) -/
def rTupOf (r : RD) : RD := fun σ H d => ∃ ds, r σ H (.list ds) ∧ d = .tuple ds
theorem pd_tupOf {e : Expr} {r : RD} {p pos} (hm : X.mg "tuple" = none) (h : PD X M e r) (hg : Gl X "tuple" := by rfl) (he : starEach (e :: []) X.env = (false, eval e X.env) :: starEach [] X.env := by rfl) (hpl : (backTo pos (starEach [] X.env)).any (·.1) = false := by rfl) :
    PD X M (.Call (.Name "tuple" p) [e] [] pos) (rTupOf r) :=
  pd_of M (pe_callTy call_tuple_of hg hm (by decide +kernel) (pa_cons h.run pa_nil he) (by decide) (by decide) he hpl) (fun σ H d hl ⟨ds, a1, e⟩ Q q => by
    subst e
    refine ⟨hl, _, a1, fun H1 v f1 d1 => ?_⟩
    obtain ⟨a, xs, rfl, sx, dxs⟩ := dt_list d1
    exact ⟨a, xs, rfl, .inl ⟨sx.sq, fun l nl => q _ _ (f1.trans (same_upd nl)) (.tup (.new ((hl.same f1).ne nl)) (dxs.sm (same_upd nl)))⟩⟩) (fun σ H H' d f ⟨ds, a1, e⟩ => ⟨ds, h.mono _ _ _ _ f a1, e⟩)
/-- list(list): a new one -/
def rLstOf (r : RD) : RD := fun σ H d => ∃ ds, (r σ H (.list ds) ∨ r σ H (.tuple ds)) ∧ d = .list ds
theorem pd_lstOf {e : Expr} {r : RD} {p pos} (hm : X.mg "list" = none) (h : PD X M e r) (hg : Gl X "list" := by rfl) (he : starEach (e :: []) X.env = (false, eval e X.env) :: starEach [] X.env := by rfl) (hpl : (backTo pos (starEach [] X.env)).any (·.1) = false := by rfl) :
    PD X M (.Call (.Name "list" p) [e] [] pos) (rLstOf r) :=
  pd_of M (pe_callTy call_list_of hg hm (by decide +kernel) (pa_cons h.run pa_nil he) (by decide) (by decide) he hpl) (fun σ H d hl ⟨ds, a1, e⟩ Q q => by
    subst e
    rcases a1 with a1 | a1
    · refine ⟨hl, _, a1, fun H1 v f1 d1 => ?_⟩
      obtain ⟨a, xs, rfl, sx, dxs⟩ := dt_list d1
      exact ⟨a, xs, rfl, .inl sx.sq, fun l nl => q _ _ (f1.trans (same_upd nl)) (.lst (.new ((hl.same f1).ne nl)) (dxs.sm (same_upd nl)))⟩
    · refine ⟨hl, _, a1, fun H1 v f1 d1 => ?_⟩
      obtain ⟨a, xs, rfl, sx, dxs⟩ := dt_tuple d1
      exact ⟨a, xs, rfl, .inr sx.sq, fun l nl => q _ _ (f1.trans (same_upd nl)) (.lst (.new ((hl.same f1).ne nl)) (dxs.sm (same_upd nl)))⟩) (fun σ H H' d f ⟨ds, a1, e⟩ => ⟨ds, a1.imp (h.mono _ _ _ _ f) (h.mono _ _ _ _ f), e⟩)
/-! f'..' of texts and numbers -/
def fmtOk (x : PyData) (y : Str) : Prop := (∃ z : Str, x = .str z ∧ z.length ≤ sizeLine ∧ y = z) ∨ ∃ i : Int, x = .int i ∧ i.natAbs.log2 < 1920 ∧ y = toString i
/-- a part in braces -/
def rFmt (r : RD) : RD := fun σ H d => ∃ x y, r σ H x ∧ fmtOk x y ∧ d = .str y
theorem pd_fmt {e : Expr} {r : RD} {pos : Pos} (h : PD X M e r) : PD X M (.FormattedValue e (-1) none pos) (rFmt r) :=
  pd_of M (pe_fmt h.run) (fun σ H d hl ⟨x, y, a1, a2, e⟩ Q q => by
    subst e
    refine ⟨hl, _, a1, fun H1 v f1 d1 => ?_⟩
    rcases a2 with ⟨z, rfl, hz, rfl⟩ | ⟨i, rfl, hi, rfl⟩
    · exact .inl ⟨_, dt_str d1, hz, q _ _ f1 (.str _)⟩
    · exact .inr ⟨i, dt_int' d1, hi, q _ _ f1 (.str _)⟩) (fun σ H H' d f ⟨x, y, a1, e⟩ => ⟨x, y, h.mono _ _ _ _ f a1, e⟩)
def rJs : List RD → Str → L2.St → Hp → Str → Prop
  | [], acc, _, _, z => z = acc
  | r :: rs, acc, σ, H, z => ∃ y : Str, r σ H (.str y) ∧ (acc ++ y).length ≤ sizeLine ∧ rJs rs (acc ++ y) σ H z
inductive PDJ (X : Cx) (M : Mu) : List Expr → List RD → Prop where
  | nil : PDJ X M [] []
  | cons {e : Expr} {r : RD} {es : List Expr} {rs : List RD} (h : PD X M e r) (t : PDJ X M es rs) : PDJ X M (e :: es) (r :: rs)
theorem PDJ.mono {es : List Expr} {rs : List RD} (h : PDJ X M es rs) : ∀ acc σ H H' z, Same H H' → rJs rs acc σ H z → rJs rs acc σ H' z := by
  induction h with
  | nil => exact fun acc σ H H' z _ e => e
  | cons h _ ih => exact fun acc σ H H' z f ⟨y, a1, a2, a3⟩ => ⟨y, h.mono _ _ _ _ f a1, a2, ih _ _ _ _ _ f a3⟩
theorem PDJ.pj {es : List Expr} {rs : List RD} (h : PDJ X M es rs) : PJ X es (rs.map fun r => tD M X.K r) := by
  induction h with
  | nil => exact .nil
  | cons h _ ih => exact .cons h.run ih
theorem PDJ.run {es : List Expr} {rs : List RD} (h : PDJ X M es rs) : ∀ (acc : Str) (σ : L2.St) (H : Hp) (z : Str) (Q : Str → Hp → Prop), Live M H → rJs rs acc σ H z → (∀ H', Same H H' → Q z H') → tJs (rs.map fun r => tD M X.K r) acc σ H Q := by
  induction h with
  | nil =>
    intro acc σ H z Q hl e q
    subst e
    exact q H (Same.refl H)
  | cons h t ih =>
    intro acc σ H z Q hl ⟨y, a1, a2, a3⟩ q
    exact ⟨hl, _, a1, fun H1 v f1 d1 => ⟨y, dt_str d1, a2, ih _ _ _ _ _ (hl.same f1) (t.mono M _ _ _ _ _ f1 a3) fun H2 f2 => q H2 (f1.trans f2)⟩⟩
def rJoin (rs : List RD) : RD := fun σ H d => ∃ z, rJs rs Str.empty σ H z ∧ d = .str z
theorem pd_joined {v1 v2 : Expr} {rest : List Expr} {rs : List RD} {pos : Pos} (h : PDJ X M (v1 :: v2 :: rest) rs) : PD X M (.JoinedStr (v1 :: v2 :: rest) pos) (rJoin rs) :=
  pd_of M (pe_joined (h.pj M)) (fun σ H d hl ⟨z, a1, e⟩ Q q => by
    subst e
    exact h.run M _ _ _ _ _ hl a1 fun H' f => q H' _ f (.str z)) (fun σ H H' d f ⟨z, a1, e⟩ => ⟨z, h.mono M _ _ _ _ _ f a1, e⟩)
end
end GR
namespace GR
open PySem PySem.Spec L2
section
variable {X : Cx} (M : Mu)
/-! ## in an except suite -/
theorem pd_eqU {a b : Expr} {r1 r2 : RD} {pos} (hu : X.A.units + 64 < cLine) (h1 : PD X M a r1) (h2 : PD X M b r2) (hm : lastMarks [.Eq] [b] = false := by first | exact nomark _ | with_unfolding_all rfl) : PD X M (.Compare a [.Eq] [b] pos) (rEqv false r1 r2) :=
  pd_of M (pe_cmpR (op_eqD hu) h1.run h2.run hm) (fun σ H d hl ⟨x, y, a1, a2, s1, s2, e⟩ Q q => ⟨hl, _, a1, fun H1 v f1 d1 => ⟨hl.same f1, _, h2.mono _ _ _ _ f1 a2, fun H2 w f2 d2 =>
    ⟨x, y, (d1.sm f2).dp (noDict_of s1), d2.dp (noDict_of s2), s1, s2, q H2 _ (f1.trans f2) (by subst e; exact .bl _)⟩⟩⟩) (rEqv_mono h1.mono h2.mono)
/-- err.f -/
def rXf (M : Mu) (K : PySem.W.Frag) (a : Addr) (cls : Value) (dO : Option Addr) (C : Addr) (n : Str) (i : Nat) : RD := fun σ H d => σ[i]? = some (some (.ref a)) ∧ cls = .ref C ∧ ∃ (dd : Addr) (v : V), dO = some dd ∧ H dd = some (.xd [(n, v)]) ∧ Dt M K H v d
theorem pd_xf {a C : Addr} {oe : Obj} {cls : Value} {dO : Option Addr} {pn : List (Addr × Obj)} {e : Expr} {pos : Pos} {n : Str} {i : Nat} (T : XfC X.K C) (hno : PySem.W.findIn X.K (.ref C) n = some none)
    (hz : Zc cls dO oe) (hf : ∃ vs, oe.data = .fields vs) (he : PE (X.suite a ((a, oe) :: pn)) e (tVar i)) (hb : attributeBase e n X.env (eval e X.env) = eval e X.env := by rfl) :
    PD (X.suite a ((a, oe) :: pn)) M (.Attribute e n pos) (rXf M X.K a cls dO C n i) :=
  pd_of M (pe_xf T hno hz hf he hb) (fun σ H d hl ⟨h1, h2, dd, v, h3, h4, dv⟩ Q q => ⟨_, h1, rfl, h2, dd, _, v, h3, h4, by simp [List.lookup], q H v (Same.refl H) dv⟩)
    (fun σ H H' d f ⟨h1, h2, dd, v, h3, h4, dv⟩ => ⟨h1, h2, dd, v, h3, f _ _ h4, dv.sm f⟩)
end
end GR

namespace K04
open PySem PySem.Spec L2
def top (i : Nat) : Stmt := PySem.Challenge.pw_trailparts_k04_whole_the_whole_in_parts.main.body.getD i (.Pass ⟨0, 0, 0, 0⟩)
abbrev sIsWhole : Stmt := top 6
theorem scIsWhole : FnScope ["thing"] ["thing"] (defScope sIsWhole) :=
  ⟨rfl, rfl, rfl, by decide +kernel, rfl, by decide +kernel, by decide +kernel⟩
abbrev sIsPower : Stmt := top 7
theorem scIsPower : FnScope ["number"] ["number"] (defScope sIsPower) :=
  ⟨rfl, rfl, rfl, by decide +kernel, rfl, by decide +kernel, by decide +kernel⟩
abbrev sIsPart : Stmt := top 8
theorem scIsPart : FnScope ["thing", "top", "bottom", "number"] ["thing"] (defScope sIsPart) :=
  ⟨rfl, rfl, rfl, by decide +kernel, rfl, by decide +kernel, by decide +kernel⟩
abbrev sLookPart : Stmt := top 9
theorem scLookPart : FnScope ["thing"] ["thing"] (defScope sLookPart) :=
  ⟨rfl, rfl, rfl, by decide +kernel, rfl, by decide +kernel, by decide +kernel⟩
abbrev sLowest : Stmt := top 10
theorem scLowest : FnScope ["top", "bottom"] ["top", "bottom"] (defScope sLowest) :=
  ⟨rfl, rfl, rfl, by decide +kernel, rfl, by decide +kernel, by decide +kernel⟩
abbrev sHalf : Stmt := top 11
theorem scHalf : FnScope ["part", "top", "bottom"] ["part"] (defScope sHalf) :=
  ⟨rfl, rfl, rfl, by decide +kernel, rfl, by decide +kernel, by decide +kernel⟩
abbrev sPlus : Stmt := top 12
theorem scPlus : FnScope ["one", "other", "bottom", "top"] ["one", "other"] (defScope sPlus) :=
  ⟨rfl, rfl, rfl, by decide +kernel, rfl, by decide +kernel, by decide +kernel⟩
abbrev sPartText : Stmt := top 13
theorem scPartText : FnScope ["part", "top", "bottom"] ["part"] (defScope sPartText) :=
  ⟨rfl, rfl, rfl, by decide +kernel, rfl, by decide +kernel, by decide +kernel⟩
abbrev sReadPart : Stmt := top 14
theorem scReadPart : FnScope ["text", "words", "found", "word", "sign"] ["text"] (defScope sReadPart) :=
  ⟨rfl, rfl, rfl, by decide +kernel, rfl, by decide +kernel, by decide +kernel⟩
abbrev sLawBag : Stmt := top 16
theorem scLawBag : FnScope ["_law_script", "_law_at", "_law_cell", "_law_mixed", "_law_spot", "_law_other"] ["_law_script", "_law_at"] (defScope sLawBag) :=
  ⟨rfl, rfl, rfl, by decide +kernel, rfl, by decide +kernel, by decide +kernel⟩
abbrev sLawTake : Stmt := top 17
theorem scLawTake : FnScope ["_law_bag_here", "_law_many", "_law_digit"] ["_law_bag_here", "_law_many"] (defScope sLawTake) :=
  ⟨rfl, rfl, rfl, by decide +kernel, rfl, by decide +kernel, by decide +kernel⟩
abbrev sLawPlus : Stmt := top 18
theorem scLawPlus : FnScope ["_law_one", "_law_other", "_law_bottom", "_law_top"] ["_law_one", "_law_other"] (defScope sLawPlus) :=
  ⟨rfl, rfl, rfl, by decide +kernel, rfl, by decide +kernel, by decide +kernel⟩
abbrev sLawHalf : Stmt := top 19
theorem scLawHalf : FnScope ["_law_part"] ["_law_part"] (defScope sLawHalf) :=
  ⟨rfl, rfl, rfl, by decide +kernel, rfl, by decide +kernel, by decide +kernel⟩
abbrev sLawTooMuch : Stmt := top 20
theorem scLawTooMuch : FnScope ["_law_one", "_law_other", "e"] ["_law_one", "_law_other"] (defScope sLawTooMuch) :=
  ⟨rfl, rfl, rfl, by decide +kernel, rfl, by decide +kernel, by decide +kernel⟩
abbrev sLaw : Stmt := top 21
theorem scLaw : FnScope ["_law_script", "_law_k", "_law_bag_here", "_law_parts", "_law_turn", "_law_at", "_law_less", "_law_total", "_law_left", "_law_part", "_law_found"] ["_law_script"] (defScope sLaw) :=
  ⟨rfl, rfl, rfl, by decide +kernel, rfl, by decide +kernel, by decide +kernel⟩
/-- what the top has written -/
structure Txt (K : PySem.W.Frag) (mg : Str → Option Value) where
  fIsWhole : Addr
  dIsWhole : FuncData
  FIsWhole : Fun K "is_whole" "is_whole" sIsWhole fIsWhole dIsWhole
  gIsWhole : mg "is_whole" = some (.ref fIsWhole)
  bIsWhole : Binds K dIsWhole ["thing"] []
  fIsPower : Addr
  dIsPower : FuncData
  FIsPower : Fun K "is_power" "is_power" sIsPower fIsPower dIsPower
  gIsPower : mg "is_power" = some (.ref fIsPower)
  bIsPower : Binds K dIsPower ["number"] []
  fIsPart : Addr
  dIsPart : FuncData
  FIsPart : Fun K "is_part" "is_part" sIsPart fIsPart dIsPart
  gIsPart : mg "is_part" = some (.ref fIsPart)
  bIsPart : Binds K dIsPart ["thing"] []
  fLookPart : Addr
  dLookPart : FuncData
  FLookPart : Fun K "look_part" "look_part" sLookPart fLookPart dLookPart
  gLookPart : mg "look_part" = some (.ref fLookPart)
  bLookPart : Binds K dLookPart ["thing"] []
  fLowest : Addr
  dLowest : FuncData
  FLowest : Fun K "lowest" "lowest" sLowest fLowest dLowest
  gLowest : mg "lowest" = some (.ref fLowest)
  bLowest : Binds K dLowest ["top", "bottom"] []
  fHalf : Addr
  dHalf : FuncData
  FHalf : Fun K "half" "half" sHalf fHalf dHalf
  gHalf : mg "half" = some (.ref fHalf)
  bHalf : Binds K dHalf ["part"] []
  fPlus : Addr
  dPlus : FuncData
  FPlus : Fun K "plus" "plus" sPlus fPlus dPlus
  gPlus : mg "plus" = some (.ref fPlus)
  bPlus : Binds K dPlus ["one", "other"] []
  fPartText : Addr
  dPartText : FuncData
  FPartText : Fun K "part_text" "part_text" sPartText fPartText dPartText
  gPartText : mg "part_text" = some (.ref fPartText)
  bPartText : Binds K dPartText ["part"] []
  fReadPart : Addr
  dReadPart : FuncData
  FReadPart : Fun K "read_part" "read_part" sReadPart fReadPart dReadPart
  gReadPart : mg "read_part" = some (.ref fReadPart)
  bReadPart : Binds K dReadPart ["text"] []
  fLawBag : Addr
  dLawBag : FuncData
  FLawBag : Fun K "_law_bag" "_law_bag" sLawBag fLawBag dLawBag
  gLawBag : mg "_law_bag" = some (.ref fLawBag)
  bLawBag : Binds K dLawBag ["_law_script", "_law_at"] []
  fLawTake : Addr
  dLawTake : FuncData
  FLawTake : Fun K "_law_take" "_law_take" sLawTake fLawTake dLawTake
  gLawTake : mg "_law_take" = some (.ref fLawTake)
  bLawTake : Binds K dLawTake ["_law_bag_here", "_law_many"] []
  fLawPlus : Addr
  dLawPlus : FuncData
  FLawPlus : Fun K "_law_plus" "_law_plus" sLawPlus fLawPlus dLawPlus
  gLawPlus : mg "_law_plus" = some (.ref fLawPlus)
  bLawPlus : Binds K dLawPlus ["_law_one", "_law_other"] []
  fLawHalf : Addr
  dLawHalf : FuncData
  FLawHalf : Fun K "_law_half" "_law_half" sLawHalf fLawHalf dLawHalf
  gLawHalf : mg "_law_half" = some (.ref fLawHalf)
  bLawHalf : Binds K dLawHalf ["_law_part"] []
  fLawTooMuch : Addr
  dLawTooMuch : FuncData
  FLawTooMuch : Fun K "_law_too_much" "_law_too_much" sLawTooMuch fLawTooMuch dLawTooMuch
  gLawTooMuch : mg "_law_too_much" = some (.ref fLawTooMuch)
  bLawTooMuch : Binds K dLawTooMuch ["_law_one", "_law_other"] []
  fLaw : Addr
  dLaw : FuncData
  FLaw : Fun K "law" "law" sLaw fLaw dLaw
  gLaw : mg "law" = some (.ref fLaw)
  bLaw : Binds K dLaw ["_law_script"] []
  n_isinstance : mg "isinstance" = none
  n_int : mg "int" = none
  n_bool : mg "bool" = none
  n_tuple : mg "tuple" = none
  n_len : mg "len" = none
  n_all : mg "all" = none
  n_max : mg "max" = none
  n_str : mg "str" = none
  n_enumerate : mg "enumerate" = none
  n_abs : mg "abs" = none
  n_range : mg "range" = none
  n_min : mg "min" = none
  n_list : mg "list" = none
  cNOTHING : Addr
  gNOTHING : mg "NOTHING" = some (.ref cNOTHING)
  qNOTHING : ∀ (M : GR.Mu) (H : Hp), GR.SqTx M K H cNOTHING [.int 0, .int 1]
  tFIGURES : Tok
  gFIGURES : mg "FIGURES" = some (.str "0123456789" tFIGURES)
  cNoPart : Addr
  iNoPart : Addr
  xNoPart : GR.OwnX K mg "NoPart" "part" "NoPart.__init__" "ArithmeticError.__new__" [.type "ArithmeticError", .type "Exception", .type "BaseException", .type "object"] cNoPart iNoPart
  cTooMuch : Addr
  iTooMuch : Addr
  xTooMuch : GR.OwnX K mg "TooMuch" "part" "TooMuch.__init__" "OverflowError.__new__" [.type "OverflowError", .type "ArithmeticError", .type "Exception", .type "BaseException", .type "object"] cTooMuch iTooMuch
  mTooMuch_TooMuch : PySem.W.exmOne K (.ref cTooMuch) (.ref cTooMuch) = some true

/-! ## what the defs compute, over data -/
def isIntD : PyData → Bool
  | .int _ => true
  | _ => false
def isPow (n : Int) : Bool := decide (0 < n) && (Builtin.bitAnd n (n - 1) == 0)
def partOk (t b : Int) : Bool := isPow b && (decide (0 ≤ t) && decide (t ≤ b) && ((b == 1) || (t % 2 == 1)))
def isPartD : PyData → Bool
  | .tuple [.int t, .int b] => partOk t b
  | _ => false
/-- a def of one argument -/
def R1 (f : PyData → PyData) : List PyData → PyData → Prop := fun ds d => ∃ x, ds = [x] ∧ d = f x
theorem two_ints : ∀ ds : List PyData, ds.length = 2 → ds.all isIntD = true → ∃ x y, ds = [.int x, .int y]
  | [.int x, .int y], _, _ => ⟨x, y, rfl⟩
  | [.none, _], _, h => by simp [isIntD] at h
  | [.bool _, _], _, h => by simp [isIntD] at h
  | [.str _, _], _, h => by simp [isIntD] at h
  | [.list _, _], _, h => by simp [isIntD] at h
  | [.tuple _, _], _, h => by simp [isIntD] at h
  | [.dict _, _], _, h => by simp [isIntD] at h
  | [.int _, .none], _, h => by simp [isIntD] at h
  | [.int _, .bool _], _, h => by simp [isIntD] at h
  | [.int _, .str _], _, h => by simp [isIntD] at h
  | [.int _, .list _], _, h => by simp [isIntD] at h
  | [.int _, .tuple _], _, h => by simp [isIntD] at h
  | [.int _, .dict _], _, h => by simp [isIntD] at h
theorem isPart_not {ds : List PyData} (h : ¬ (ds.length = 2 ∧ ds.all isIntD = true)) : isPartD (.tuple ds) = false := by
  unfold isPartD
  split
  · rename_i t b e
    cases e
    exact absurd ⟨rfl, rfl⟩ h
  · rfl
theorem isPart_no {d : PyData} (h : GR.isT d = false) : isPartD d = false := by
  cases d <;> first | rfl | (simp [GR.isT] at h)
theorem map_bool (ds : List PyData) (f : PyData → Bool) : (ds.map fun d => PyData.bool (f d)) = (ds.map f).map PyData.bool := by rw [List.map_map]; rfl

/-! ## lowest terms -/
/-- t over 2 ^ j in lowest terms -/
def low : Int → Nat → Int × Int
  | t, 0 => (t, 1)
  | t, j + 1 => if t % 2 = 0 then low (t / 2) j else (t, 2 ^ (j + 1))
theorem low_even {t : Int} {j : Nat} (h : t % 2 = 0) : low t (j + 1) = low (t / 2) j := if_pos h
theorem low_odd {t : Int} {j : Nat} (h : t % 2 = 1) : low t j = (t, 2 ^ j) := by
  cases j with
  | zero => rfl
  | succ j => exact if_neg (by omega)
theorem low_one (t : Int) : low t 0 = (t, 1) := rfl
theorem low_abs : ∀ (j : Nat) (t : Int), (low t j).1.natAbs ≤ t.natAbs
  | 0, _ => Nat.le_refl _
  | j + 1, t => by
    by_cases h : t % 2 = 0
    · rw [low_even h]
      exact Nat.le_trans (low_abs j (t / 2)) (by omega)
    · rw [low_odd (by omega)]
      exact Nat.le_refl _
theorem low_pow : ∀ (j : Nat) (t : Int), ∃ k, k ≤ j ∧ (low t j).2 = 2 ^ k
  | 0, _ => ⟨0, Nat.le_refl _, rfl⟩
  | j + 1, t => by
    by_cases h : t % 2 = 0
    · rw [low_even h]
      obtain ⟨k, hk, e⟩ := low_pow j (t / 2)
      exact ⟨k, by omega, e⟩
    · rw [low_odd (by omega)]
      exact ⟨j + 1, Nat.le_refl _, rfl⟩
/-- the greater bottom, as max tells it -/
def sumB (b c : Int) : Int := if c > b then c else b
/-- the sum's top over it -/
def sumT (t b u c : Int) : Int := t * (sumB b c / b) + u * (sumB b c / c)
theorem sumB_pow (i j : Nat) : sumB (2 ^ i) (2 ^ j) = 2 ^ (max i j) := by
  unfold sumB
  have m : ∀ x y : Nat, x ≤ y → (2 : Int) ^ x ≤ 2 ^ y := fun x y h => by
    have := Nat.pow_le_pow_right (show 0 < 2 by decide) h
    have e1 : ((2 : Int) ^ x) = ((2 ^ x : Nat) : Int) := by simp
    have e2 : ((2 : Int) ^ y) = ((2 ^ y : Nat) : Int) := by simp
    rw [e1, e2]
    omega
  by_cases h : i ≤ j
  · rw [Nat.max_eq_right h]
    by_cases h2 : (2 : Int) ^ j > 2 ^ i
    · rw [if_pos h2]
    · rw [if_neg h2]
      have := m i j h
      omega
  · have h3 := m j i (by omega)
    rw [Nat.max_eq_left (by omega), if_neg (by omega)]
theorem pow_div {i m : Nat} (h : i ≤ m) : (2 : Int) ^ m / 2 ^ i = 2 ^ (m - i) := by
  obtain ⟨d, rfl⟩ := Nat.exists_eq_add_of_le h
  rw [Int.pow_add, Int.mul_ediv_cancel_left _ (Int.ne_of_gt (Int.pow_pos (by decide))), Nat.add_sub_cancel_left]
theorem abs_pow (k : Nat) : ((2 : Int) ^ k).natAbs = 2 ^ k := by
  rw [Int.natAbs_pow]
  rfl

def tupD (t b : Int) : PyData := .tuple [.int t, .int b]
def lowD (t : Int) (j : Nat) : PyData := tupD (low t j).1 (low t j).2
theorem isPow_pow {b : Int} (h : isPow b = true) : ∃ j : Nat, b = 2 ^ j := by
  unfold isPow at h
  obtain ⟨h1, h2⟩ := Bool.and_eq_true_iff.mp h
  have h0 : 0 < b := of_decide_eq_true h1
  have h3 : Builtin.bitAnd b (b - 1) = 0 := by simpa using h2
  unfold Builtin.bitAnd at h3
  rw [decide_eq_true (show 0 ≤ b by omega), decide_eq_true (show 0 ≤ b - 1 by omega)] at h3
  have h4 : b.toNat &&& (b.toNat - 1) = 0 := by
    have e : (b - 1).toNat = b.toNat - 1 := by omega
    rw [← e]
    have h5 : ((b.toNat &&& (b - 1).toNat : Nat) : Int) = 0 := h3
    exact_mod_cast h5
  obtain ⟨k, hk⟩ := (Nat.and_sub_one_eq_zero_iff_isPowerOfTwo (show b.toNat ≠ 0 by omega)).mp h4
  refine ⟨k, ?_⟩
  have : b = (b.toNat : Int) := by omega
  rw [this, hk]
  simp
theorem pow_isPow (j : Nat) : isPow (2 ^ j) = true := by
  unfold isPow
  have h : (0 : Int) < 2 ^ j := Int.pow_pos (by decide)
  rw [decide_eq_true h, GR.pow_and j]
  rfl
/-- a part's two numbers -/
structure PartN (t : Int) (j : Nat) : Prop where
  t0 : 0 ≤ t
  tb : t ≤ 2 ^ j
  odd : j = 0 ∨ t % 2 = 1
theorem isPart_of {x : PyData} (h : isPartD x = true) : ∃ t j, x = tupD t (2 ^ j) ∧ PartN t j := by
  unfold isPartD at h
  split at h
  · rename_i t b
    unfold partOk at h
    simp only [Bool.and_eq_true, Bool.or_eq_true, decide_eq_true_eq, beq_iff_eq] at h
    obtain ⟨h1, ⟨h2, h3⟩, h4⟩ := h
    obtain ⟨j, rfl⟩ := isPow_pow h1
    refine ⟨t, j, rfl, h2, h3, ?_⟩
    rcases h4 with h4 | h4
    · left
      cases j with
      | zero => rfl
      | succ j =>
        exfalso
        have : (0 : Int) < 2 ^ j := Int.pow_pos (by decide)
        rw [Int.pow_succ] at h4
        omega
    · exact .inr h4
  · exact absurd h Bool.false_ne_true
theorem PartN.ok {t : Int} {j : Nat} (h : PartN t j) : isPartD (tupD t (2 ^ j)) = true := by
  show partOk t (2 ^ j) = true
  unfold partOk
  rw [pow_isPow, decide_eq_true h.t0, decide_eq_true h.tb]
  rcases h.odd with rfl | e
  · rfl
  · rw [e]
    simp
theorem pow_inj {i j : Nat} (h : (2 : Int) ^ i = 2 ^ j) : i = j := by
  have h2 : (2 : Nat) ^ i = 2 ^ j := by
    have e1 : ((2 : Int) ^ i) = ((2 ^ i : Nat) : Int) := by simp
    have e2 : ((2 : Int) ^ j) = ((2 ^ j : Nat) : Int) := by simp
    rw [e1, e2] at h
    exact_mod_cast h
  exact (Nat.pow_right_inj (by decide : 1 < 2)).mp h2
/-- low keeps the number -/
theorem low_val : ∀ (j : Nat) (t : Int), ∃ k, k ≤ j ∧ (low t j).2 = 2 ^ k ∧ t = (low t j).1 * 2 ^ (j - k)
  | 0, t => ⟨0, Nat.le_refl _, rfl, by simp [low]⟩
  | j + 1, t => by
    by_cases h : t % 2 = 0
    · rw [low_even h]
      obtain ⟨k, hk, e1, e2⟩ := low_val j (t / 2)
      refine ⟨k, by omega, e1, ?_⟩
      have e3 : j + 1 - k = (j - k) + 1 := by omega
      rw [e3, Int.pow_succ, ← Int.mul_assoc, ← e2]
      omega
    · rw [low_odd (by omega)]
      exact ⟨j + 1, Nat.le_refl _, rfl, by simp⟩
theorem low_over (t : Int) (j : Nat) : ((low t j).1 > (low t j).2) ↔ t > 2 ^ j := by
  obtain ⟨k, hk, e1, e2⟩ := low_val j t
  have e3 : (2 : Int) ^ j = 2 ^ k * 2 ^ (j - k) := by rw [← Int.pow_add]; congr 1; omega
  have hp : (0 : Int) < 2 ^ (j - k) := Int.pow_pos (by decide)
  rw [e1, e3]
  constructor
  · intro h
    rw [e2]
    exact Int.mul_lt_mul_of_pos_right h hp
  · intro h
    rw [e2] at h
    exact Int.lt_of_mul_lt_mul_right h (Int.le_of_lt hp)
/-- a part of at most so deep a bottom -/
def small (x : PyData) : Prop := ∀ t j, x = tupD t (2 ^ j) → j ≤ 1000
def lookO (C : Addr) (x : PyData) : GR.Out := if isPartD x = true then .ret .none else .err C "part" x
theorem lookO_yes {C : Addr} {x : PyData} (h : isPartD x = true) : lookO C x = .ret .none := if_pos h
theorem lookO_no {C : Addr} {x : PyData} (h : isPartD x = false) : lookO C x = .err C "part" x := if_neg (by rw [h]; decide)
def halfO (C : Addr) (x : PyData) : GR.Out :=
  if isPartD x = true then (match x with | .tuple [.int t, .int b] => if t = 0 ∧ b = 1 then .err C "part" x else .ret (tupD t (2 * b)) | _ => .err C "part" x) else .err C "part" x
def plusO (C D : Addr) (x y : PyData) : GR.Out :=
  if isPartD x = true then (if isPartD y = true then (match x, y with
    | .tuple [.int t, .int b], .tuple [.int u, .int c] => if sumT t b u c > sumB b c then .err D "part" y else .ret (lowD (sumT t b u c) (sumB b c).toNat.log2)
    | _, _ => .err C "part" x) else .err C "part" y) else .err C "part" x
theorem log_pow (j : Nat) : ((2 : Int) ^ j).toNat.log2 = j := by
  have : ((2 : Int) ^ j).toNat = 2 ^ j := by
    have e1 : ((2 : Int) ^ j) = ((2 ^ j : Nat) : Int) := by simp
    rw [e1, Int.toNat_natCast]
  rw [this, Nat.log2_two_pow]
theorem half_pow {j : Nat} (h : (1 : Int) < 2 ^ j) : ∃ i, j = i + 1 ∧ (2 : Int) ^ j / 2 = 2 ^ i := by
  cases j with
  | zero => simp at h
  | succ i =>
    refine ⟨i, rfl, ?_⟩
    rw [Int.pow_succ, Int.mul_ediv_cancel _ (by decide)]
theorem pow_shl (j : Nat) : (1 : Int) * 2 ^ ((j : Int)).toNat = 2 ^ j := by
  rw [Int.toNat_natCast, Int.one_mul]
theorem pow_lt_big {j m : Nat} (h : j ≤ m) (hm : m ≤ 1000) : ((2 : Int) ^ j).natAbs < 2 ^ 8000 := by
  rw [Int.natAbs_pow]
  exact Nat.pow_lt_pow_right (by decide) (by omega)
theorem dt_pair {M : GR.Mu} {K : PySem.W.Frag} {H : Hp} {p : Addr} {t b : Int} (hL : GR.Live M H) (np : H p = none) : GR.Dt M K (upd H p (.tup [.int t, .int b])) (.ref p) (tupD t b) := .tup (.new (hL.ne np)) (.cons (.int _) (.cons (.int _) .nil))
theorem dt_two {M : GR.Mu} {K : PySem.W.Frag} {H : Hp} {v : V} {t b : Int} (h : GR.Dt M K H v (tupD t b)) : ∃ a, v = .ref a ∧ SqT K H a [.int t, .int b] := by
  obtain ⟨a, xs, rfl, sx, dxs⟩ := GR.dt_tuple h
  cases dxs with
  | cons d1 dxs =>
    cases dxs with
    | cons d2 dxs =>
      cases dxs
      cases d1
      cases d2
      exact ⟨a, rfl, sx.sq⟩
theorem part_abs {t : Int} {j : Nat} (h : PartN t j) (hj : j ≤ 1000) : t.natAbs < 2 ^ 1001 := by
  have h1 := h.t0
  have h2 := h.tb
  have h3 : ((2 : Int) ^ j).natAbs < 2 ^ 1001 := by
    rw [abs_pow]
    exact Nat.pow_lt_pow_right (by decide) (by omega)
  omega

/-! ## texts of parts -/
def ptext (t b : Int) : Str := if b = 1 then toString t else ((Str.empty ++ Str.ofString (toString t)) ++ "/") ++ Str.ofString (toString b)
def textO (C : Addr) (x : PyData) : GR.Out :=
  if isPartD x = true then (match x with | .tuple [.int t, .int b] => .ret (.str (ptext t b)) | _ => .err C "part" x) else .err C "part" x
theorem log_lt {i : Int} (h : i.natAbs < 2 ^ 1001) : i.natAbs.log2 < 1920 := by
  by_cases h0 : i.natAbs = 0
  · rw [h0]; decide
  · exact Nat.lt_of_lt_of_le ((Nat.log2_lt h0).mpr h) (by decide)
theorem tlen {i : Int} (h : i.natAbs < 2 ^ 1001) : (Str.ofString (toString i)).length ≤ 2000 := by
  have := PyProof.Rows.int_text_len_1921 (log_lt h)
  omega
def figs : Str := "0123456789"
def wordOk (w : Str) : Bool := !(PyData.eqv (.str w) (.str "")) && w.cps.toList.all fun c => decide (c ∈ figs.cps.toList)
def intV (w : Str) : Int := (intText? w).getD 0
/-- the two numbers that the words tell -/
def foundD : List Str → PyData
  | [w] => tupD (intV w) 1
  | [w, u] => tupD (intV w) (intV u)
  | _ => .none
def readO (C : Addr) (x : PyData) : GR.Out :=
  match x with
  | .str z => if (decide (2 < ((Txt.split z "/").length : Int)) || !(Txt.split z "/").all wordOk) = true then .err C "part" x else
      if isPartD (foundD (Txt.split z "/")) = true then (match foundD (Txt.split z "/") with
        | .tuple [.int t, .int b] => if ptext t b = z then .ret (foundD (Txt.split z "/")) else .err C "part" x
        | _ => .err C "part" x) else .err C "part" x
  | _ => .err C "part" x
section
variable {P : Program} {w : World} {K : PySem.W.Frag} {mg : Str → Option Value} {bs : Heap} (T : Txt K mg)

theorem okIsWhole : FnOk P w K mg bs CX0 1 T.fIsWhole T.dIsWhole ["thing"] (GR.spPure K (R1 fun x => .bool (isIntD x))) := by
  refine T.FIsWhole.ok scIsWhole (fun vs H Q E h => ?_) (fun cdv A outer s H vs Q E hr h => ?_)
  · obtain ⟨M, ds, d, _, da, ⟨x, rfl, _⟩, _⟩ := h
    exact da.len
  · obtain ⟨M, ds, d, hL, da, ⟨x, rfl, rfl⟩, q⟩ := h
    cases da with
    | cons dx da =>
      cases da
      rename_i v
      refine ⟨_, (pss_one (ps_ret (GR.pd_and M (GR.pd_isi M (n := "int") T.n_isinstance T.n_int (by decide +kernel) (GR.pd_var M 0)) (GR.pd_one M (GR.pd_not M (GR.pd_isi M (n := "bool") T.n_isinstance T.n_bool (by decide +kernel) (GR.pd_var M 0))))).run)), ?_⟩
      refine ⟨hL, _, ⟨GR.isI x, ⟨x, _, ⟨v, rfl, dx⟩, GR.kit_int x, rfl⟩, ?_⟩, q⟩
      cases e : GR.isI x with
      | false =>
        refine iteF ?_
        cases x <;> first | rfl | (simp [GR.isI] at e)
      | true =>
        refine iteT ⟨GR.isB x, ⟨x, _, ⟨v, rfl, dx⟩, GR.kit_bool x, rfl⟩, ?_⟩
        cases x <;> first | rfl | (simp [GR.isI] at e)

theorem okIsPower : FnOk P w K mg bs CX0 1 T.fIsPower T.dIsPower ["number"] (GR.spPure K fun ds d => ∃ n, ds = [.int n] ∧ d = .bool (isPow n)) := by
  refine T.FIsPower.ok scIsPower (fun vs H Q E h => ?_) (fun cdv A outer s H vs Q E hr h => ?_)
  · obtain ⟨M, ds, d, _, da, ⟨x, rfl, _⟩, _⟩ := h
    exact da.len
  · obtain ⟨M, ds, d, hL, da, ⟨n, rfl, rfl⟩, q⟩ := h
    cases da with
    | cons dx da =>
      cases da
      rename_i v
      refine ⟨_, (pss_one (ps_ret (GR.pd_and M (GR.pd_cmp M op_gt (GR.pd_var M 0) (GR.pd_int M)) (GR.pd_one M (GR.pd_eq M hr (GR.pd_op0 M op_and (GR.pd_var M 0) (GR.pd_op0 M op_sub (GR.pd_var M 0) (GR.pd_int M))) (GR.pd_int M)))).run)), ?_⟩
      refine ⟨hL, _, ⟨decide (0 < n), ⟨_, _, ⟨v, rfl, dx⟩, rfl, trivial, rfl⟩, ?_⟩, q⟩
      unfold isPow
      cases e : decide (0 < n) with
      | false => exact iteF rfl
      | true =>
        refine iteT ⟨_, _, ⟨_, _, ⟨v, rfl, dx⟩, ⟨_, _, ⟨v, rfl, dx⟩, rfl, trivial, rfl⟩, trivial, rfl⟩, rfl, rfl, rfl, ?_⟩
        rw [Bool.true_and]
        rfl

theorem okIsPart : FnOk P w K mg bs CX0 2 T.fIsPart T.dIsPart ["thing"] (GR.spPure K (R1 fun x => .bool (isPartD x))) := by
  have GIsWhole := okIsWhole (P := P) (w := w) (bs := bs) T
  have GIsPower := okIsPower (P := P) (w := w) (bs := bs) T
  refine T.FIsPart.ok scIsPart (fun vs H Q E h => ?_) (fun cdv A outer s H vs Q E hr h => ?_)
  · obtain ⟨M, ds, d, _, da, ⟨x, rfl, _⟩, _⟩ := h
    exact da.len
  · obtain ⟨M, ds, d, hL, da, ⟨x, rfl, rfl⟩, q⟩ := h
    replace q : ∀ (H' : Hp) (v : V), Same H H' → GR.Dt M K H' v (.bool (isPartD x)) → Q v H' := q
    cases da with
    | cons dx da =>
      cases da
      rename_i v
      refine ⟨_, (pss_cons (ps_if (GR.PBW.pb M (GR.pbw_or M (GR.pb_not M (GR.pb_val M (GR.pd_isi M (n := "tuple") T.n_isinstance T.n_tuple (by decide +kernel) (GR.pd_var M 0)))) (GR.pbw_or M (GR.pb_ne M hr (GR.pd_len M T.n_len (GR.pd_var M 0)) (GR.pd_int M)) (GR.pbw_or1 M (GR.pb_not M (GR.pb_val M (GR.pd_all M (by rfl) T.n_all (GR.pd_lcT M (i := 3) (r := fun M' => (GR.rCallD _ (GR.rConsD (GR.rVar M' K 3) GR.rNilD))) (by rfl) scIsPart.nd (GR.pd_var M 0) (blkOk_by (own := [("number", 3)]) (N := ["thing", "top", "bottom", "number"]) (sc := defScope sIsPart) (by first | decide +kernel | kernel_rfl | rfl)) (fun _ _ _ _ _ => (pg_name (i := 3) scIsPart.nd rfl (Or.inl rfl))) (fun M' _ _ _ _ _ => by exact (GR.pd_call M' GIsWhole (hr.mono (by decide)) T.gIsWhole T.FIsWhole.kp T.bIsWhole (GR.pds_cons M' (GR.pd_var M' 3) (GR.pds_nil M')))))))))))).run (pss_one (ps_ret pe_bl)) pss_nil)
      (pss_cons (ps_asg (pv 0) (pg_tup (by rfl) (pgs_cons (pg_name (i := 1) scIsPart.nd rfl (Or.inl rfl)) (pgs_cons (pg_name (i := 2) scIsPart.nd rfl (Or.inl rfl)) pgs_nil))))
      (pss_one (ps_ret (GR.pd_and M (GR.pd_call M GIsPower (hr.mono (by decide)) T.gIsPower T.FIsPower.kp T.bIsPower (GR.pds_cons M (GR.pd_var M 2) (GR.pds_nil M))) (GR.pd_and M (GR.pd_chain M op_le op_le (GR.pd_int M) (GR.pd_var M 1) (GR.pd_var M 2)) (GR.pd_one M (GR.pd_or M (GR.pd_eq M hr (GR.pd_var M 2) (GR.pd_int M)) (GR.pd_one M (GR.pd_eq M hr (GR.pd_op M op_mod (GR.pd_var M 1) (GR.pd_int M)) (GR.pd_int M))))))).run)))), ?_⟩
      cases e1 : GR.isT x with
      | false =>
        refine ⟨hL, true, ⟨true, ⟨x, _, ⟨v, rfl, dx⟩, GR.kit_tuple x, by rw [e1]; rfl⟩, iteT rfl⟩, fun H1 f1 => iteT ?_⟩
        have := q H1 (.bl false) f1
        rw [isPart_no e1] at this
        exact this (.bl false)
      | true =>
        obtain ⟨ds, rfl⟩ : ∃ ds, x = .tuple ds := by cases x <;> first | exact ⟨_, rfl⟩ | (simp [GR.isT] at e1)
        obtain ⟨a, xs, rfl, sx, dxs⟩ := GR.dt_tuple dx
        by_cases e2 : ds.length = 2
        · have el : (GR.rLc K PyData.tuple 3 (GR.rVar M K 0) (fun M' => GR.rCallD (R1 fun x => PyData.bool (isIntD x)) (GR.rConsD (GR.rVar M' K 3) GR.rNilD))) [some (.ref a), none, none, none] H (.list ((ds.map isIntD).map PyData.bool)) :=
            ⟨ds, ds.map fun d => .bool (isIntD d), ⟨.ref a, rfl, dx⟩, by omega, by rw [List.length_map], fun M' k x e h1 h2 H' v s dv => by
              rw [List.getElem?_map, h1] at h2
              cases h2
              exact ⟨[x], ⟨x, [], ⟨v, rfl, dv⟩, rfl, rfl⟩, x, rfl, rfl⟩, by rw [map_bool]⟩
          cases e3 : ds.all isIntD with
          | false =>
            refine ⟨hL, true, ⟨false, ⟨_, _, ⟨_, rfl, dx⟩, GR.kit_tuple _, rfl⟩, iteF ⟨false, ⟨_, _, ⟨ds, .inr ⟨_, rfl, dx⟩, rfl⟩, rfl, rfl, rfl, ?_⟩, iteF ⟨_, el, ?_⟩⟩⟩, fun H1 f1 => iteT ?_⟩
            · rw [e2]
              rfl
            · rw [show (ds.map isIntD).all id = ds.all isIntD by rw [List.all_map]; rfl, e3]
              rfl
            · have := q H1 (.bl false) f1
              rw [isPart_not (fun z => by rw [e3] at z; exact Bool.false_ne_true z.2)] at this
              exact this (.bl false)
          | true =>
            refine ⟨hL, false, ⟨false, ⟨_, _, ⟨_, rfl, dx⟩, GR.kit_tuple _, rfl⟩, iteF ⟨false, ⟨_, _, ⟨ds, .inr ⟨_, rfl, dx⟩, rfl⟩, rfl, rfl, rfl, ?_⟩, iteF ⟨_, el, ?_⟩⟩⟩, fun H1 f1 => iteF ?_⟩
            · rw [e2]
              rfl
            · rw [show (ds.map isIntD).all id = ds.all isIntD by rw [List.all_map]; rfl, e3]
              rfl
            · obtain ⟨t, b, rfl⟩ := two_ints ds e2 e3
              have dx1 := dxs.sm f1
              cases dxs with
              | cons d1 dxs =>
                cases dxs with
                | cons d2 dxs =>
                  cases dxs
                  cases d1
                  cases d2
                  refine ⟨_, rfl, a, _, rfl, GR.SqT_same f1 sx.sq, rfl, _, _, rfl, _, _, rfl, rfl, ?_⟩
                  have hv : isPartD (.tuple [.int t, .int b]) = partOk t b := rfl
                  rw [hv] at q
                  unfold partOk at q
                  have dt : GR.rVar M K 1 [some (.ref a), some (.int t), some (.int b), none] H1 (.int t) := ⟨_, rfl, .int t⟩
                  have db : GR.rVar M K 2 [some (.ref a), some (.int t), some (.int b), none] H1 (.int b) := ⟨_, rfl, .int b⟩
                  refine ⟨hL.same f1, _, ⟨isPow b, ⟨[.int b], ⟨_, [], db, rfl, rfl⟩, b, rfl, rfl⟩, ?_⟩, fun H2 v f2 d2 => q H2 v (f1.trans f2) d2⟩
                  cases isPow b with
                  | false => exact iteF rfl
                  | true =>
                    refine iteT ⟨decide (0 ≤ t) && decide (t ≤ b), ⟨0, t, b, rfl, dt, db, rfl⟩, ?_⟩
                    rw [Bool.true_and]
                    cases decide (0 ≤ t) && decide (t ≤ b) with
                    | false => exact iteF rfl
                    | true =>
                      refine iteT ⟨b == 1, ⟨_, _, db, rfl, rfl, rfl, rfl⟩, ?_⟩
                      rw [Bool.true_and]
                      cases b == 1 with
                      | true => exact iteT rfl
                      | false => exact iteF ⟨_, _, ⟨_, _, dt, rfl, (by show (0 : Int) < 2; decide), rfl⟩, rfl, rfl, rfl, rfl⟩
        · refine ⟨hL, true, ⟨false, ⟨_, _, ⟨_, rfl, dx⟩, GR.kit_tuple _, rfl⟩, iteF ⟨true, ⟨_, _, ⟨ds, .inr ⟨_, rfl, dx⟩, rfl⟩, rfl, rfl, rfl, ?_⟩, iteT rfl⟩⟩, fun H1 f1 => iteT ?_⟩
          · show PyData.bool true = PyData.bool (!((ds.length : Int) == 2))
            rw [show ((ds.length : Int) == 2) = false by simp; omega]
            rfl
          · have := q H1 (.bl false) f1
            rw [isPart_not (fun z => e2 z.1)] at this
            exact this (.bl false)
theorem okLowest : FnOk P w K mg bs CX0 1 T.fLowest T.dLowest ["top", "bottom"] (GR.spPure K fun ds d => ∃ t j, ds = [.int t, .int (2 ^ j)] ∧ d = lowD t j) := by
  refine T.FLowest.ok scLowest (fun vs H Q E h => ?_) (fun cdv A outer s H vs Q E hr h => ?_)
  · obtain ⟨M, ds, d, _, da, ⟨t, j, rfl, _⟩, _⟩ := h
    exact da.len
  · obtain ⟨M, ds, d, hL, da, ⟨t, j, rfl, rfl⟩, q⟩ := h
    obtain ⟨v1, v2, rfl, d1, d2⟩ := GR.dtAll_two da
    obtain rfl := GR.dt_int d1
    obtain rfl := GR.dt_int d2
    refine ⟨_, (pss_cons (ps_while PassesOwn.never (GR.pt_cut (PW.pt (pw_and (pt_cmpR op_gt (pv 1) pe_int (nomark _)) (pw_and1 (pt_cmpR op_eq (pe_op op_mod (pv 0) pe_int) pe_int (nomark _)))))) (pss_cons (ps_aug (i := 0) scLowest.nd rfl (Or.inl rfl) pe_int iop_fdivW)
      (pss_one (ps_aug (i := 1) scLowest.nd rfl (Or.inl rfl) pe_int iop_fdivW))))
      (pss_one (ps_ret (pe_tup (pa_cons (pv 0) (pa_cons (pv 1) pa_nil)))))), ?_⟩
    refine ⟨fun m σ H4 => H4 = H ∧ ∃ u : Int, σ = [some (.int u), some (.int (2 ^ m))] ∧ low u m = low t j, ⟨j, rfl, t, rfl, rfl⟩, ?_⟩
    rintro m σ H4 ⟨rfl, u, rfl, el⟩
    have hpm : (0 : Int) < 2 ^ m := Int.pow_pos (by decide)
    refine ⟨fun c H' => H' = H4 ∧ (c = true → (1 : Int) < 2 ^ m ∧ u % 2 = 0) ∧ (c = false → (2 : Int) ^ m = 1 ∨ u % 2 = 1), ?_, ?_⟩
    · refine ⟨_, rfl, _, _, rfl, rfl, _, rfl, ?_⟩
      refine ite2 (fun e => ?_) (fun e => ?_)
      · have e' : (1 : Int) < 2 ^ m := of_decide_eq_true e
        refine ⟨_, rfl, _, _, rfl, rfl, (by show (0 : Int) < 2; decide), rfl, _, rfl, rfl, fun z => ⟨e', V.int.inj (of_decide_eq_true z)⟩, fun z => .inr ?_⟩
        have z' : ¬ u % 2 = 0 := fun y => of_decide_eq_false z (congrArg V.int y)
        omega
      · have : ¬ (1 : Int) < 2 ^ m := fun z => e (decide_eq_true z)
        exact ⟨rfl, fun z => (nomatch z), fun _ => .inl (by omega)⟩
    rintro c H5 ⟨rfl, ct, cf⟩
    cases c with
    | true =>
      obtain ⟨e', e2'⟩ := ct rfl
      refine iteT ?_
      obtain ⟨i, rfl, ei⟩ := half_pow e'
      refine ⟨fun σ' H' => H' = H5 ∧ σ' = [some (.int (u / 2)), some (.int (2 ^ i))], ?_, ?_⟩
      · rintro σ' H' ⟨rfl, rfl⟩
        exact ⟨i, by omega, rfl, u / 2, rfl, by rw [← low_even e2', el]⟩
      · refine ⟨_, rfl, _, _, rfl, rfl, ⟨by decide, by decide⟩, _, rfl, _, _, rfl, rfl, ⟨by decide, by decide⟩, rfl, ?_⟩
        show [some (V.int (u / 2)), some (.int (2 ^ (i + 1) / 2))] = _
        rw [ei]
    | false =>
      have z := cf rfl
      refine iteF ?_
      refine ⟨_, rfl, _, rfl, (by show 2 ≤ sizeLine; decide), fun p np => ?_⟩
      have e9 : low t j = (u, 2 ^ m) := by
        rw [← el]
        rcases z with z | z
        · cases m with
          | zero => rfl
          | succ m =>
            exfalso
            have : (0 : Int) < 2 ^ m := Int.pow_pos (by decide)
            rw [Int.pow_succ] at z
            omega
        · exact low_odd z
      refine q _ _ (GR.same_upd np) ?_
      unfold lowD
      rw [e9]
      exact dt_pair hL np

theorem okLookPart : FnOk P w K mg bs (L2.CX P w) 3 T.fLookPart T.dLookPart ["thing"] (GR.spOut K fun ds o => ∃ x, ds = [x] ∧ o = lookO T.cNoPart x) := by
  have GIsPart := okIsPart (P := P) (w := w) (bs := bs) T
  refine T.FLookPart.okX scLookPart (fun vs H Q E h => ?_) (fun cdv A outer s H vs Q E hr h => ?_)
  · obtain ⟨M, ds, o, _, da, ⟨x, rfl, _⟩, _⟩ := h
    exact da.len
  · obtain ⟨M, ds, o, hL, da, ⟨x, rfl, rfl⟩, q⟩ := h
    obtain ⟨v, rfl, dx⟩ := GR.dtAll_one da
    refine ⟨_, (pss_one (ps_if (GR.pb_not M (GR.pb_val M (GR.pd_call M GIsPart (hr.mono (by decide)) T.gIsPart T.FIsPart.kp T.bIsPart (GR.pds_cons M (GR.pd_var M 0) (GR.pds_nil M))))).run (pss_one (GR.ps_raiseX GR.inits_part rfl T.xNoPart hr (takes_of rfl rfl rfl rfl) (pa_cons (pv 0) pa_nil))) pss_nil)), ?_⟩
    unfold lookO at q
    cases e : isPartD x with
    | true =>
      rw [if_pos e] at q
      exact ⟨hL, false, ⟨[x], ⟨_, [], ⟨v, rfl, dx⟩, rfl, rfl⟩, x, rfl, congrArg PyData.bool e.symm⟩, fun H1 f1 => iteF (q H1 _ f1 .non)⟩
    | false =>
      rw [if_neg (by rw [e]; decide)] at q
      exact ⟨hL, true, ⟨[x], ⟨_, [], ⟨v, rfl, dx⟩, rfl, rfl⟩, x, rfl, congrArg PyData.bool e.symm⟩, fun H1 f1 => iteT ⟨_, rfl, _, rfl, GR.raise_out q hL f1 (dx.sm f1)⟩⟩

theorem okHalf : FnOk P w K mg bs (L2.CX P w) 3 T.fHalf T.dHalf ["part"] (GR.spOut K fun ds o => ∃ x, ds = [x] ∧ o = halfO T.cNoPart x) := by
  have GIsPart := okIsPart (P := P) (w := w) (bs := bs) T
  refine T.FHalf.okX scHalf (fun vs H Q E h => ?_) (fun cdv A outer s H vs Q E hr h => ?_)
  · obtain ⟨M, ds, o, _, da, ⟨x, rfl, _⟩, _⟩ := h
    exact da.len
  · obtain ⟨M, ds, o, hL, da, ⟨x, rfl, rfl⟩, q⟩ := h
    obtain ⟨v, rfl, dx⟩ := GR.dtAll_one da
    refine ⟨_, (pss_cons (ps_if (GR.PBW.pb M (GR.pbw_or M (GR.pb_not M (GR.pb_val M (GR.pd_call M GIsPart (hr.mono (by decide)) T.gIsPart T.FIsPart.kp T.bIsPart (GR.pds_cons M (GR.pd_var M 0) (GR.pds_nil M))))) (GR.pbw_or1 M (GR.pb_eq M hr (GR.pd_var M 0) (GR.pd_globT M T.gNOTHING T.qNOTHING (ds := [PyData.int 0, PyData.int 1]) (fun _ _ => (.cons (.int _) (.cons (.int _) .nil)))))))).run (pss_one (GR.ps_raiseX GR.inits_part rfl T.xNoPart hr (takes_of rfl rfl rfl rfl) (pa_cons (pv 0) pa_nil))) pss_nil)
      (pss_cons (ps_asg (pv 0) (pg_tup (by rfl) (pgs_cons (pg_name (i := 1) scHalf.nd rfl (Or.inl rfl)) (pgs_cons (pg_name (i := 2) scHalf.nd rfl (Or.inl rfl)) pgs_nil))))
      (pss_one (ps_ret (GR.pd_tup M (GR.pds_cons M (GR.pd_var M 1) (GR.pds_cons M (GR.pd_op M op_mul (GR.pd_int M) (GR.pd_var M 2)) (GR.pds_nil M)))).run)))), ?_⟩
    unfold halfO at q
    cases e : isPartD x with
    | false =>
      rw [if_neg (by rw [e]; decide)] at q
      exact ⟨hL, true, ⟨true, ⟨[x], ⟨_, [], ⟨v, rfl, dx⟩, rfl, rfl⟩, x, rfl, congrArg PyData.bool e.symm⟩, iteT rfl⟩, fun H1 f1 => iteT ⟨_, rfl, _, rfl, GR.raise_out q hL f1 (dx.sm f1)⟩⟩
    | true =>
      rw [if_pos e] at q
      obtain ⟨t, j, rfl, hp⟩ := isPart_of e
      replace q : GR.outQ M K H Q E (if t = 0 ∧ (2 : Int) ^ j = 1 then .err T.cNoPart "part" (tupD t (2 ^ j)) else .ret (tupD t (2 * 2 ^ j))) := q
      have r1 : GR.rNotB (GR.rBool (GR.rCallD (R1 fun x => PyData.bool (isPartD x)) (GR.rConsD (GR.rVar M K 0) GR.rNilD))) (start ["part", "top", "bottom"] [v]) H false := ⟨[_], ⟨_, [], ⟨v, rfl, dx⟩, rfl, rfl⟩, _, rfl, congrArg PyData.bool e.symm⟩
      have r2 : GR.rEqv false (GR.rVar M K 0) (fun _ _ e => e = .tuple [.int 0, .int 1]) (start ["part", "top", "bottom"] [v]) H (.bool (PyData.eqv (tupD t (2 ^ j)) (.tuple [.int 0, .int 1]))) := ⟨_, _, ⟨v, rfl, dx⟩, rfl, rfl, rfl, rfl⟩
      have ev : PyData.eqv (tupD t (2 ^ j)) (.tuple [.int 0, .int 1]) = (t == 0 && (2 : Int) ^ j == 1) := by
        show (t == 0 && ((2 : Int) ^ j == 1 && true)) = _
        rw [Bool.and_true]
      rw [ev] at r2
      by_cases z : t = 0 ∧ (2 : Int) ^ j = 1
      · rw [if_pos z] at q
        rw [show (t == 0 && (2 : Int) ^ j == 1) = true by simp [z.1, z.2]] at r2
        exact ⟨hL, true, ⟨false, r1, iteF r2⟩, fun H1 f1 => iteT ⟨_, rfl, _, rfl, GR.raise_out q hL f1 (dx.sm f1)⟩⟩
      · rw [if_neg z] at q
        rw [show (t == 0 && (2 : Int) ^ j == 1) = false by
          cases h : (t == 0 && (2 : Int) ^ j == 1) with
          | false => rfl
          | true => exact absurd (by simpa using h) z] at r2
        refine ⟨hL, false, ⟨false, r1, iteF r2⟩, fun H1 f1 => iteF ?_⟩
        obtain ⟨a, rfl, ha⟩ := dt_two (dx.sm f1)
        refine ⟨_, rfl, a, _, rfl, ha, rfl, _, _, rfl, _, _, rfl, rfl, ?_⟩
        refine ⟨hL.same f1, tupD t (2 * 2 ^ j), ⟨[.int t, .int (2 * 2 ^ j)], ⟨_, [.int (2 * 2 ^ j)], ⟨_, rfl, .int _⟩, ⟨_, [], ⟨_, _, rfl, ⟨_, rfl, .int _⟩, .inl ⟨by decide, by decide⟩, rfl⟩, rfl, rfl⟩, rfl⟩, (by show 2 ≤ 1000; decide), rfl⟩, fun H2 u f2 du => q H2 u (f1.trans f2) du⟩

theorem plus_wd {i j : Nat} : ∀ (z : Int) (k : Nat), z.natAbs < 2 ^ 1001 → i ≤ 1000 → j ≤ 1000 → k ≤ 1000 → CMulW z (2 ^ (max i j) / 2 ^ k) := fun z k hz hi hj hk => by
  by_cases hm : k ≤ max i j
  · rw [pow_div hm]
    exact wide_mul hz (b := 1002) (by rw [abs_pow]; exact Nat.pow_lt_pow_right (by decide) (by omega)) (by decide) (by decide) (by decide)
  · exact wide_mul hz (b := 1002) (by
      rw [Int.natAbs_ediv_of_nonneg (Int.le_of_lt (Int.pow_pos (by decide))) , abs_pow, abs_pow]
      exact Nat.lt_of_le_of_lt (Nat.div_le_self _ _) (Nat.pow_lt_pow_right (by decide) (by omega))) (by decide) (by decide) (by decide)
theorem plus_dv {i j : Nat} : ∀ k : Nat, i ≤ 1000 → j ≤ 1000 → k ≤ 1000 → CDivW (2 ^ (max i j)) (2 ^ k) := fun k hi hj hk =>
  wide_div (Int.pow_pos (by decide)) (b := 1002) (by rw [abs_pow]; exact Nat.pow_lt_pow_right (by decide) (by omega)) (by decide) (by decide)
theorem okPlus : FnOk P w K mg bs (L2.CX P w) 5 T.fPlus T.dPlus ["one", "other"] (GR.spOut K fun ds o => ∃ x y, ds = [x, y] ∧ small x ∧ small y ∧ o = plusO T.cNoPart T.cTooMuch x y) := by
  have GLookPart := okLookPart (P := P) (w := w) (bs := bs) T
  have GLowest := okLowest (P := P) (w := w) (bs := bs) T
  refine T.FPlus.okX scPlus (fun vs H Q E h => ?_) (fun cdv A outer s H vs Q E hr h => ?_)
  · obtain ⟨M, ds, o, _, da, ⟨x, y, rfl, _⟩, _⟩ := h
    exact da.len
  · obtain ⟨M, ds, o, hL, da, ⟨x, y, rfl, sx, sy, rfl⟩, q⟩ := h
    obtain ⟨v, u, rfl, dx, dy⟩ := GR.dtAll_two da
    refine ⟨_, (pss_cons (ps_expr (pe_callS GLookPart (hr.mono (by decide)) (by rfl) T.gLookPart T.FLookPart.kp T.bLookPart (fun σ => passAt (takes_of rfl rfl rfl rfl) σ) (pa_cons (pv 0) pa_nil)))
      (pss_cons (ps_expr (pe_callS GLookPart (hr.mono (by decide)) (by rfl) T.gLookPart T.FLookPart.kp T.bLookPart (fun σ => passAt (takes_of rfl rfl rfl rfl) σ) (pa_cons (pv 1) pa_nil)))
      (pss_cons (ps_set (i := 2) scPlus.nd rfl (Or.inl rfl) (GR.pe_cut (pe_callB (call_max2 rfl) (by rfl) T.n_max (by decide +kernel) (pa_cons (GR.pd_ixT M (GR.pd_var M 0) (GR.pd_int M)).run (pa_cons (GR.pd_ixT M (GR.pd_var M 1) (GR.pd_int M)).run pa_nil)))))
      (pss_cons (ps_set (i := 3) scPlus.nd rfl (Or.inl rfl) (GR.pd_op0 M op_add (GR.pd_op M op_mulW (GR.pd_ixT M (GR.pd_var M 0) (GR.pd_int M)) (GR.pd_op M op_fdivW (GR.pd_var M 2) (GR.pd_ixT M (GR.pd_var M 0) (GR.pd_int M)))) (GR.pd_op M op_mulW (GR.pd_ixT M (GR.pd_var M 1) (GR.pd_int M)) (GR.pd_op M op_fdivW (GR.pd_var M 2) (GR.pd_ixT M (GR.pd_var M 1) (GR.pd_int M))))).run)
      (pss_cons (ps_if (GR.pb_cmp M op_gt (GR.pd_var M 3) (GR.pd_var M 2)).run (pss_one (GR.ps_raiseX GR.inits_part rfl T.xTooMuch hr (takes_of rfl rfl rfl rfl) (pa_cons (pv 1) pa_nil))) pss_nil)
      (pss_one (ps_ret (GR.pd_call M GLowest (hr.mono (by decide)) T.gLowest T.FLowest.kp T.bLowest (GR.pds_cons M (GR.pd_var M 3) (GR.pds_cons M (GR.pd_var M 2) (GR.pds_nil M)))).run))))))), ?_⟩
    unfold plusO at q
    cases e1 : isPartD x with
    | false =>
      rw [if_neg (by rw [e1]; decide)] at q
      exact ⟨_, rfl, M, [x], .err T.cNoPart "part" x, hL, .cons dx .nil, ⟨x, rfl, (lookO_no e1).symm⟩, fun H' dd z s1 hd dz => q H' dd z s1 hd dz⟩
    | true =>
      rw [if_pos e1] at q
      refine ⟨_, rfl, M, [x], .ret .none, hL, .cons dx .nil, ⟨x, rfl, (lookO_yes e1).symm⟩, ?_⟩
      intro H1 z1 f1 d1
      have dy1 := dy.sm f1
      cases e2 : isPartD y with
      | false =>
        rw [if_neg (by rw [e2]; decide)] at q
        exact ⟨_, rfl, M, [y], .err T.cNoPart "part" y, hL.same f1, .cons dy1 .nil, ⟨y, rfl, (lookO_no e2).symm⟩, fun H' dd z s1 hd dz => q H' dd z (f1.trans s1) hd dz⟩
      | true =>
        rw [if_pos e2] at q
        refine ⟨_, rfl, M, [y], .ret .none, hL.same f1, .cons dy1 .nil, ⟨y, rfl, (lookO_yes e2).symm⟩, ?_⟩
        intro H2 z2 f2 d2
        obtain ⟨t, i, rfl, px⟩ := isPart_of e1
        obtain ⟨u', j, rfl, py⟩ := isPart_of e2
        have hi := sx t i rfl
        have hj := sy u' j rfl
        have bt := part_abs px hi
        have bu := part_abs py hj
        have s2 := f1.trans f2
        have hL2 := hL.same s2
        have dx2 := dx.sm s2
        have dy2 := dy.sm s2
        replace q : GR.outQ M K H Q E (if sumT t (2 ^ i) u' (2 ^ j) > sumB (2 ^ i) (2 ^ j) then .err T.cTooMuch "part" (tupD u' (2 ^ j)) else .ret (lowD (sumT t (2 ^ i) u' (2 ^ j)) (sumB (2 ^ i) (2 ^ j)).toNat.log2)) := q
        rw [sumB_pow, log_pow] at q
        have a0 : ∀ {σ : L2.St} {Hx : Hp}, σ[0]? = some (some v) → Same H2 Hx → GR.rIxTD (GR.rVar M K 0) (fun _ _ d => d = PyData.int 0) σ Hx (.int t) := fun e sx => ⟨_, 0, ⟨v, e, dx2.sm sx⟩, rfl, atI_nat (j := 0) rfl⟩
        have a1 : ∀ {σ : L2.St} {Hx : Hp}, σ[0]? = some (some v) → Same H2 Hx → GR.rIxTD (GR.rVar M K 0) (fun _ _ d => d = PyData.int 1) σ Hx (.int (2 ^ i)) := fun e sx => ⟨_, 1, ⟨v, e, dx2.sm sx⟩, rfl, atI_nat (j := 1) rfl⟩
        have b0 : ∀ {σ : L2.St} {Hx : Hp}, σ[1]? = some (some u) → Same H2 Hx → GR.rIxTD (GR.rVar M K 1) (fun _ _ d => d = PyData.int 0) σ Hx (.int u') := fun e sx => ⟨_, 0, ⟨u, e, dy2.sm sx⟩, rfl, atI_nat (j := 0) rfl⟩
        have b1 : ∀ {σ : L2.St} {Hx : Hp}, σ[1]? = some (some u) → Same H2 Hx → GR.rIxTD (GR.rVar M K 1) (fun _ _ d => d = PyData.int 1) σ Hx (.int (2 ^ j)) := fun e sx => ⟨_, 1, ⟨u, e, dy2.sm sx⟩, rfl, atI_nat (j := 1) rfl⟩
        -- bottom = max(one[1], other[1])
        refine ⟨fun v' H3 => Same H2 H3 ∧ v' = .int (2 ^ (max i j)), ?_, ?_⟩
        · refine ⟨hL2, _, a1 rfl (Same.refl H2), fun H3 w3 f3 d3 => ⟨hL2.same f3, _, b1 rfl f3, fun H4 w4 f4 d4 => ?_⟩⟩
          obtain rfl := GR.dt_int' d3
          obtain rfl := GR.dt_int' d4
          refine ⟨_, _, rfl, f3.trans f4, ?_⟩
          exact congrArg V.int (sumB_pow i j)
        rintro _ H3 ⟨f3, rfl⟩
        have hL3 := hL2.same f3
        -- top
        have rb : ∀ {H4 : Hp}, GR.rVar M K 2 [some v, some u, some (.int (2 ^ (max i j))), none] H4 (.int (2 ^ (max i j))) := ⟨_, rfl, .int _⟩
        refine ⟨hL3, .int (sumT t (2 ^ i) u' (2 ^ j)), ?_, fun H4 w4 f4 d4 => ?_⟩
        · refine ⟨t * (2 ^ (max i j) / 2 ^ i), u' * (2 ^ (max i j) / 2 ^ j), ⟨_, _, a0 rfl f3, ⟨_, _, rb, a1 rfl f3, plus_dv i hi hj hi, rfl⟩, plus_wd t i bt hi hj hi, rfl⟩,
            ⟨_, _, b0 rfl f3, ⟨_, _, rb, b1 rfl f3, plus_dv j hi hj hj, rfl⟩, plus_wd u' j bu hi hj hj, rfl⟩, trivial, ?_⟩
          unfold sumT
          rw [sumB_pow]
          rfl
        obtain rfl := GR.dt_int' d4
        -- if top > bottom
        refine ⟨hL3.same f4, decide ((2 : Int) ^ (max i j) < sumT t (2 ^ i) u' (2 ^ j)), ⟨_, _, ⟨_, rfl, .int _⟩, ⟨_, rfl, .int _⟩, trivial, rfl⟩, fun H5 f5 => ?_⟩
        have s5 := ((s2.trans f3).trans f4).trans f5
        by_cases z : sumT t (2 ^ i) u' (2 ^ j) > 2 ^ (max i j)
        · rw [if_pos z] at q
          rw [show decide ((2 : Int) ^ (max i j) < sumT t (2 ^ i) u' (2 ^ j)) = true from decide_eq_true z]
          exact iteT ⟨_, rfl, _, rfl, GR.raise_out q hL s5 (dy.sm s5)⟩
        · rw [if_neg z] at q
          rw [show decide ((2 : Int) ^ (max i j) < sumT t (2 ^ i) u' (2 ^ j)) = false from decide_eq_false z]
          refine iteF ⟨hL.same s5, _, ⟨_, ⟨_, _, ⟨_, rfl, .int _⟩, ⟨_, [], ⟨_, rfl, .int _⟩, rfl, rfl⟩, rfl⟩, _, _, rfl, rfl⟩, fun H6 w6 f6 d6 => q H6 w6 (s5.trans f6) d6⟩
theorem okLawPlus : FnOk P w K mg bs CX0 1 T.fLawPlus T.dLawPlus ["_law_one", "_law_other"] (GR.spPure K fun ds d => ∃ t i u j, ds = [tupD t (2 ^ i), tupD u (2 ^ j)] ∧ i ≤ 1000 ∧ j ≤ 1000 ∧ t.natAbs < 2 ^ 1001 ∧ u.natAbs < 2 ^ 1001 ∧ d = lowD (sumT t (2 ^ i) u (2 ^ j)) (max i j)) := by
  refine T.FLawPlus.ok scLawPlus (fun vs H Q E h => ?_) (fun cdv A outer s H vs Q E hr h => ?_)
  · obtain ⟨M, ds, d, _, da, ⟨t, i, u, j, rfl, _⟩, _⟩ := h
    exact da.len
  · obtain ⟨M, ds, d, hL, da, ⟨t, i, u, j, rfl, hi, hj, bt, bu, rfl⟩, q⟩ := h
    obtain ⟨x, y, rfl, dx2, dy2⟩ := GR.dtAll_two da
    refine ⟨_, (pss_cons (ps_set (i := 2) scLawPlus.nd rfl (Or.inl rfl) (GR.pe_cut (pe_callB (call_max2 rfl) (by rfl) T.n_max (by decide +kernel) (pa_cons (pe_ix ix_tup (pv 0) pe_int (fun _ _ => rfl)) (pa_cons (pe_ix ix_tup (pv 1) pe_int (fun _ _ => rfl)) pa_nil)))))
      (pss_cons (ps_set (i := 3) scLawPlus.nd rfl (Or.inl rfl) (GR.pe_cut (pe_op op_add (pe_op op_mulW (pe_ix ix_tup (pv 0) pe_int (fun _ _ => rfl)) (pe_op op_fdivW (pv 2) (pe_ix ix_tup (pv 0) pe_int (fun _ _ => rfl)))) (pe_op op_mulW (pe_ix ix_tup (pv 1) pe_int (fun _ _ => rfl)) (pe_op op_fdivW (pv 2) (pe_ix ix_tup (pv 1) pe_int (fun _ _ => rfl)))))))
      (pss_cons (ps_while PassesOwn.never (GR.pt_cut (PW.pt (pw_and (pt_cmpR op_gt (pv 2) pe_int (nomark _)) (pw_and1 (pt_cmpR op_eq (pe_op op_mod (pv 3) pe_int) pe_int (nomark _)))))) (pss_one (ps_par (i := 3) (j := 2) (by rfl) scLawPlus.nd rfl rfl (by decide) rfl rfl (pa_cons (pe_op op_fdivW (pv 3) pe_int) (pa_cons (pe_op op_fdivW (pv 2) pe_int) pa_nil)) (by rfl))))
      (pss_one (ps_ret (pe_tup (pa_cons (pv 3) (pa_cons (pv 2) pa_nil)))))))), ?_⟩
    obtain ⟨a, rfl, ha⟩ := dt_two dx2
    obtain ⟨b, rfl, hb⟩ := dt_two dy2
    refine ⟨fun v H3 => H3 = H ∧ v = .int (2 ^ (max i j)), ?_, ?_⟩
    · refine ⟨_, rfl, a, _, _, _, rfl, rfl, ha, atI_nat (j := 1) rfl, _, rfl, b, _, _, _, rfl, rfl, hb, atI_nat (j := 1) rfl, _, _, rfl, rfl, ?_⟩
      exact congrArg V.int (sumB_pow i j)
    rintro _ H3 ⟨rfl, rfl⟩
    have wd : ∀ (z : Int) (k : Nat), z.natAbs < 2 ^ 1001 → k ≤ 1000 → CMulW z (2 ^ (max i j) / 2 ^ k) := fun z k hz hk => by
      by_cases hm : k ≤ max i j
      · rw [pow_div hm]
        exact wide_mul hz (b := 1002) (by rw [abs_pow]; exact Nat.pow_lt_pow_right (by decide) (by omega)) (by decide) (by decide) (by decide)
      · exact wide_mul hz (b := 1002) (by
          rw [Int.natAbs_ediv_of_nonneg (Int.le_of_lt (Int.pow_pos (by decide))) , abs_pow, abs_pow]
          exact Nat.lt_of_le_of_lt (Nat.div_le_self _ _) (Nat.pow_lt_pow_right (by decide) (by omega))) (by decide) (by decide) (by decide)
    have dv : ∀ k : Nat, k ≤ 1000 → CDivW (2 ^ (max i j)) (2 ^ k) := fun k hk =>
      wide_div (Int.pow_pos (by decide)) (b := 1002) (by rw [abs_pow]; exact Nat.pow_lt_pow_right (by decide) (by omega)) (by decide) (by decide)
    refine ⟨fun v H4 => H4 = H3 ∧ v = .int (sumT t (2 ^ i) u (2 ^ j)), ?_, ?_⟩
    · refine ⟨_, rfl, a, _, _, _, rfl, rfl, ha, atI_nat (j := 0) rfl, _, rfl, _, rfl, a, _, _, _, rfl, rfl, ha, atI_nat (j := 1) rfl, _, _, rfl, rfl, dv i hi, _, _, rfl, rfl, wd t i bt hi, ?_⟩
      refine ⟨_, rfl, b, _, _, _, rfl, rfl, hb, atI_nat (j := 0) rfl, _, rfl, _, rfl, b, _, _, _, rfl, rfl, hb, atI_nat (j := 1) rfl, _, _, rfl, rfl, dv j hj, _, _, rfl, rfl, wd u j bu hj, _, _, rfl, rfl, rfl, ?_⟩
      unfold sumT
      rw [sumB_pow]
    rintro _ H4 ⟨rfl, rfl⟩
    generalize sumT t (2 ^ i) u (2 ^ j) = tt at q
    generalize max i j = jj at q
    refine ⟨fun m σ H5 => H5 = H4 ∧ ∃ u : Int, σ = [some (.ref a), some (.ref b), some (.int (2 ^ m)), some (.int u)] ∧ low u m = low tt jj, ⟨jj, rfl, tt, rfl, rfl⟩, ?_⟩
    rintro m σ H5 ⟨rfl, u, rfl, el⟩
    have hpm : (0 : Int) < 2 ^ m := Int.pow_pos (by decide)
    refine ⟨fun c H' => H' = H5 ∧ (c = true → (1 : Int) < 2 ^ m ∧ u % 2 = 0) ∧ (c = false → (2 : Int) ^ m = 1 ∨ u % 2 = 1), ?_, ?_⟩
    · refine ⟨_, rfl, _, _, rfl, rfl, _, rfl, ?_⟩
      refine ite2 (fun e => ?_) (fun e => ?_)
      · have e' : (1 : Int) < 2 ^ m := of_decide_eq_true e
        refine ⟨_, rfl, _, _, rfl, rfl, (by show (0 : Int) < 2; decide), rfl, _, rfl, rfl, fun z => ⟨e', V.int.inj (of_decide_eq_true z)⟩, fun z => .inr ?_⟩
        have z' : ¬ u % 2 = 0 := fun y => of_decide_eq_false z (congrArg V.int y)
        omega
      · have : ¬ (1 : Int) < 2 ^ m := fun z => e (decide_eq_true z)
        exact ⟨rfl, fun z => (nomatch z), fun _ => .inl (by omega)⟩
    rintro c H6 ⟨rfl, ct, cf⟩
    cases c with
    | true =>
      obtain ⟨e', e2'⟩ := ct rfl
      refine iteT ?_
      obtain ⟨i, rfl, ei⟩ := half_pow e'
      refine ⟨fun σ' H' => H' = H6 ∧ σ' = [some (.ref a), some (.ref b), some (.int (2 ^ i)), some (.int (u / 2))], ?_, ?_⟩
      · rintro σ' H' ⟨rfl, rfl⟩
        exact ⟨i, by omega, rfl, u / 2, rfl, by rw [← low_even e2', el]⟩
      · refine ⟨_, rfl, _, _, rfl, rfl, ⟨by decide, by decide⟩, _, rfl, _, _, rfl, rfl, ⟨by decide, by decide⟩, _, _, rfl, rfl, ?_⟩
        show [some (V.ref a), some (V.ref b), some (.int (2 ^ (i + 1) / 2)), some (V.int (u / 2))] = _
        rw [ei]
    | false =>
      have z := cf rfl
      refine iteF ?_
      refine ⟨_, rfl, _, rfl, (by show 2 ≤ sizeLine; decide), fun p np => ?_⟩
      have e9 : low tt jj = (u, 2 ^ m) := by
        rw [← el]
        rcases z with z | z
        · cases m with
          | zero => rfl
          | succ m =>
            exfalso
            have : (0 : Int) < 2 ^ m := Int.pow_pos (by decide)
            rw [Int.pow_succ] at z
            omega
        · exact low_odd z
      refine q _ _ (GR.same_upd np) ?_
      unfold lowD
      rw [e9]
      exact dt_pair hL np

theorem okLawHalf : FnOk P w K mg bs CX0 1 T.fLawHalf T.dLawHalf ["_law_part"] (GR.spPure K fun ds d => ∃ t b, ds = [tupD t b] ∧ d = tupD t (2 * b)) := by
  refine T.FLawHalf.ok scLawHalf (fun vs H Q E h => ?_) (fun cdv A outer s H vs Q E hr h => ?_)
  · obtain ⟨M, ds, d, _, da, ⟨t, b, rfl, _⟩, _⟩ := h
    exact da.len
  · obtain ⟨M, ds, d, hL, da, ⟨t, b, rfl, rfl⟩, q⟩ := h
    obtain ⟨v, rfl, dx⟩ := GR.dtAll_one da
    refine ⟨_, (pss_one (ps_ret (GR.pd_tup M (GR.pds_cons M (GR.pd_ixT M (GR.pd_var M 0) (GR.pd_int M)) (GR.pds_cons M (GR.pd_op M op_mul (GR.pd_int M) (GR.pd_ixT M (GR.pd_var M 0) (GR.pd_int M))) (GR.pds_nil M)))).run)), ?_⟩
    exact ⟨hL, tupD t (2 * b), ⟨[.int t, .int (2 * b)], ⟨_, [.int (2 * b)], ⟨_, 0, ⟨v, rfl, dx⟩, rfl, atI_nat (j := 0) rfl⟩, ⟨_, [], ⟨_, _, rfl, ⟨_, 1, ⟨v, rfl, dx⟩, rfl, atI_nat (j := 1) rfl⟩, .inl ⟨by decide, by decide⟩, rfl⟩, rfl, rfl⟩, rfl⟩, (by show 2 ≤ 1000; decide), rfl⟩, q⟩

theorem okPartText : FnOk P w K mg bs (L2.CX P w) 4 T.fPartText T.dPartText ["part"] (GR.spOut K fun ds o => ∃ x, ds = [x] ∧ small x ∧ o = textO T.cNoPart x) := by
  have GLookPart := okLookPart (P := P) (w := w) (bs := bs) T
  refine T.FPartText.okX scPartText (fun vs H Q E h => ?_) (fun cdv A outer s H vs Q E hr h => ?_)
  · obtain ⟨M, ds, o, _, da, ⟨x, rfl, _⟩, _⟩ := h
    exact da.len
  · obtain ⟨M, ds, o, hL, da, ⟨x, rfl, sx, rfl⟩, q⟩ := h
    obtain ⟨v, rfl, dx⟩ := GR.dtAll_one da
    refine ⟨_, (pss_cons (ps_expr (pe_callS GLookPart (hr.mono (by decide)) (by rfl) T.gLookPart T.FLookPart.kp T.bLookPart (fun σ => passAt (takes_of rfl rfl rfl rfl) σ) (pa_cons (pv 0) pa_nil)))
      (pss_cons (ps_asg (pv 0) (pg_tup (by rfl) (pgs_cons (pg_name (i := 1) scPartText.nd rfl (Or.inl rfl)) (pgs_cons (pg_name (i := 2) scPartText.nd rfl (Or.inl rfl)) pgs_nil))))
      (pss_one (ps_ret (GR.pd_if M (GR.pb_eq M hr (GR.pd_var M 2) (GR.pd_int M)) (GR.pd_strI M T.n_str (GR.pd_var M 1)) (GR.pd_joined M (.cons (GR.pd_fmt M (GR.pd_var M 1)) (.cons (GR.pd_str M) (.cons (GR.pd_fmt M (GR.pd_var M 2)) .nil))))).run)))), ?_⟩
    unfold textO at q
    cases e1 : isPartD x with
    | false =>
      rw [if_neg (by rw [e1]; decide)] at q
      exact ⟨_, rfl, M, [x], .err T.cNoPart "part" x, hL, .cons dx .nil, ⟨x, rfl, (lookO_no e1).symm⟩, fun H' dd z s1 hd dz => q H' dd z s1 hd dz⟩
    | true =>
      rw [if_pos e1] at q
      refine ⟨_, rfl, M, [x], .ret .none, hL, .cons dx .nil, ⟨x, rfl, (lookO_yes e1).symm⟩, ?_⟩
      intro H1 z1 f1 d1
      obtain ⟨t, i, rfl, px⟩ := isPart_of e1
      have hi := sx t i rfl
      have bt := part_abs px hi
      have bb : ((2 : Int) ^ i).natAbs < 2 ^ 1001 := by
        rw [abs_pow]
        exact Nat.pow_lt_pow_right (by decide) (by omega)
      replace q : ∀ H' v, Same H H' → GR.Dt M K H' v (.str (ptext t (2 ^ i))) → Q v H' := q
      obtain ⟨a, rfl, ha⟩ := dt_two (dx.sm f1)
      refine ⟨_, rfl, a, _, rfl, ha, rfl, _, _, rfl, _, _, rfl, rfl, ?_⟩
      refine ⟨hL.same f1, .str (ptext t (2 ^ i)), ⟨(2 : Int) ^ i == 1, ⟨_, _, ⟨_, rfl, .int _⟩, rfl, rfl, rfl, rfl⟩, ?_⟩, fun H2 u f2 du => q H2 u (f1.trans f2) du⟩
      unfold ptext
      by_cases z : (2 : Int) ^ i = 1
      · rw [if_pos z, show ((2 : Int) ^ i == 1) = true by simpa using z]
        exact iteT ⟨t, ⟨_, rfl, .int _⟩, log_lt bt, rfl⟩
      · rw [if_neg z, show ((2 : Int) ^ i == 1) = false by simpa using z]
        have l1 := tlen bt
        have l2 := tlen bb
        have e0 : (Str.empty ++ Str.ofString (toString t)).length = (Str.ofString (toString t)).length := by rw [Str.empty_append]
        refine iteF ⟨_, ⟨_, ⟨_, _, ⟨_, rfl, .int _⟩, .inr ⟨t, rfl, log_lt bt, rfl⟩, rfl⟩, ?_, _, rfl, ?_, _, ⟨_, _, ⟨_, rfl, .int _⟩, .inr ⟨_, rfl, log_lt bb, rfl⟩, rfl⟩, ?_, rfl⟩, rfl⟩
        · rw [e0]
          exact Nat.le_trans l1 (by decide)
        · rw [Str.length_append, e0]
          exact Nat.le_trans (show (Str.ofString (toString t)).length + Str.length "/" ≤ 2001 by have : Str.length "/" = 1 := rfl; omega) (by decide)
        · rw [Str.length_append, Str.length_append, e0]
          exact Nat.le_trans (show (Str.ofString (toString t)).length + Str.length "/" + (Str.ofString (toString ((2 : Int) ^ i))).length ≤ 4001 by have : Str.length "/" = 1 := rfl; omega) (by decide)

theorem dval_lt : ∀ (cs : List Nat) (a : Nat), NumText.AllDigits cs → cs.foldl (fun acc c => acc * 10 + (c - 48)) a < (a + 1) * 10 ^ cs.length
  | [], a, _ => by simp
  | c :: cs, a, h => by
    have h1 := dval_lt cs (a * 10 + (c - 48)) h.tail
    have h2 := h.head
    have h3 : (a * 10 + (c - 48) + 1) * 10 ^ cs.length ≤ (a + 1) * 10 * 10 ^ cs.length := Nat.mul_le_mul_right _ (by omega)
    rw [List.foldl_cons, List.length_cons, Nat.pow_succ, Nat.mul_comm (10 ^ cs.length) 10, ← Nat.mul_assoc]
    omega
theorem figs_digit {c : Nat} (h : c ∈ figs.cps.toList) : 48 ≤ c ∧ c ≤ 57 := by
  have e : figs.cps.toList = [48, 49, 50, 51, 52, 53, 54, 55, 56, 57] := by decide +kernel
  rw [e] at h
  simp only [List.mem_cons, List.not_mem_nil, or_false] at h
  omega
theorem wordOk_int {w : Str} (h : wordOk w = true) (hl : w.length ≤ 300) : intText? w = some (intV w) ∧ 0 ≤ intV w ∧ intV w < 10 ^ 300 := by
  unfold wordOk at h
  obtain ⟨h1, h2⟩ := Bool.and_eq_true_iff.mp h
  have hd : NumText.AllDigits w.cps.toList := fun c hc => figs_digit (of_decide_eq_true (List.all_eq_true.mp h2 c hc))
  have hn : w.cps.toList ≠ [] := fun e => by
    have : w = "" := by
      obtain ⟨a⟩ := w
      have : a = #[] := Array.toList_eq_nil_iff.mp e
      subst this
      rfl
    subst this
    exact absurd h1 (by decide +kernel)
  have e := PySem.intText_digits hd hn (Nat.le_trans hl (by decide))
  have ev : intV w = ((NumText.digitsVal w.cps.toList : Nat) : Int) := by
    unfold intV
    rw [e]
    rfl
  refine ⟨by rw [e, ev], by rw [ev]; omega, ?_⟩
  have z := dval_lt w.cps.toList 0 hd
  have hl' : w.cps.toList.length ≤ 300 := by simpa [Str.length] using hl
  have z2 : (10 : Nat) ^ w.cps.toList.length ≤ 10 ^ 300 := Nat.pow_le_pow_right (by decide) hl'
  rw [ev]
  have z3 : NumText.digitsVal w.cps.toList < 10 ^ 300 := by
    unfold NumText.digitsVal
    omega
  exact_mod_cast z3
theorem found_small {ws : List Str} (h : ∀ w ∈ ws, intV w < 10 ^ 300) : small (foundD ws) := by
  intro t j e
  have lt : (2 : Int) ^ j < 10 ^ 300 → j ≤ 1000 := fun z => by
    by_cases hj : j ≤ 1000
    · exact hj
    · exfalso
      have m := Nat.pow_le_pow_right (show 0 < 2 by decide) (show 1000 ≤ j by omega)
      have e1 : ((2 : Int) ^ j) = ((2 ^ j : Nat) : Int) := by simp
      rw [e1] at z
      have k : (10 : Nat) ^ 300 ≤ 2 ^ 1000 := by decide +kernel
      have z' : 2 ^ j < 10 ^ 300 := by exact_mod_cast z
      omega
  unfold foundD tupD at e
  split at e
  · simp only [PyData.tuple.injEq, List.cons.injEq, PyData.int.injEq, and_true] at e
    refine lt ?_
    rw [← e.2]
    decide +kernel
  · rename_i w u
    simp only [PyData.tuple.injEq, List.cons.injEq, PyData.int.injEq, and_true] at e
    refine lt ?_
    rw [← e.2]
    exact h u (by simp)
  · cases e
theorem join_mem {sep u : Str} : ∀ {l : List Str}, u ∈ l → ∀ c ∈ u.cps.toList, c ∈ (Str.join sep l).cps.toList
  | [x], h, c, hc => by
    rw [List.mem_singleton.mp h] at hc
    exact hc
  | x :: y :: r, h, c, hc => by
    show c ∈ (x ++ sep ++ Str.join sep (y :: r)).cps.toList
    rw [Str.cps_append, Str.cps_append, Array.toList_append, Array.toList_append]
    rcases List.mem_cons.mp h with rfl | h
    · simp [hc]
    · exact List.mem_append_right _ (join_mem h c hc)
theorem strOk_list (z : Str) : PyData.strOk z = z.cps.toList.all (· < 0x110000) := by
  unfold PyData.strOk
  rw [Array.all_toList]
theorem part_strOk {z y u : Str} (h : PyData.strOk z = true) (hu : u ∈ Txt.split z y) : PyData.strOk u = true := by
  rw [strOk_list] at *
  rw [List.all_eq_true] at *
  intro c hc
  refine h c ?_
  have := join_mem (sep := y) hu c hc
  rw [PySem.StrLaws.join_split] at this
  exact this
theorem str_strOk (s : String) : PyData.strOk (Str.ofString s) = true := by
  rw [strOk_list, List.all_eq_true]
  intro c hc
  rw [Str.ofString_eq_toList] at hc
  simp only [List.mem_map] at hc
  obtain ⟨ch, _, rfl⟩ := hc
  have := ch.valid
  have h2 : ch.toNat < 1114112 := by
    rcases this with h | h
    · have : ch.toNat < 55296 := h
      omega
    · exact h.2
  exact decide_eq_true h2
theorem strOk_app {x y : Str} (hx : PyData.strOk x = true) (hy : PyData.strOk y = true) : PyData.strOk (x ++ y) = true := by
  unfold PyData.strOk at *
  rw [Str.cps_append, Array.all_append, hx, hy]
  rfl
theorem ptext_ok (t b : Int) : PyData.strOk (ptext t b) = true := by
  unfold ptext
  split
  · exact str_strOk _
  · exact strOk_app (strOk_app (strOk_app (by decide +kernel) (str_strOk _)) (by decide +kernel)) (str_strOk _)
theorem okReadPart : FnOk P w K mg bs (L2.CX P w) 6 T.fReadPart T.dReadPart ["text"] (GR.spOut K fun ds o => ∃ x, ds = [x] ∧ (∀ z, x = .str z → PyData.strOk z = true ∧ z.length ≤ 300) ∧ o = readO T.cNoPart x) := by
  have GIsPart := okIsPart (P := P) (w := w) (bs := bs) T
  have GPartText := okPartText (P := P) (w := w) (bs := bs) T
  refine T.FReadPart.okX scReadPart (fun vs H Q E h => ?_) (fun cdv A outer s H vs Q E hr h => ?_)
  · obtain ⟨M, ds, o, _, da, ⟨x, rfl, _⟩, _⟩ := h
    exact da.len
  · obtain ⟨M, ds, o, hL, da, ⟨x, rfl, hx, rfl⟩, q⟩ := h
    obtain ⟨v, rfl, dx⟩ := GR.dtAll_one da
    refine ⟨_, (pss_cons (ps_if (GR.pb_not M (GR.pb_val M (GR.pd_isi M (n := "str") T.n_isinstance T.n_str (by decide +kernel) (GR.pd_var M 0)))).run (pss_one (GR.ps_raiseX GR.inits_part rfl T.xNoPart hr (takes_of rfl rfl rfl rfl) (pa_cons (pv 0) pa_nil))) pss_nil)
      (pss_cons (ps_set (i := 1) scReadPart.nd rfl (Or.inl rfl) (GR.pd_split M (GR.pd_var M 0) (GR.pd_str M)).run)
      (pss_cons (ps_if (GR.PBW.pb M (GR.pbw_or M (GR.pb_cmp M op_gt (GR.pd_len M T.n_len (GR.pd_var M 1)) (GR.pd_int M)) (GR.pbw_or1 M (GR.pb_not M (GR.pb_val M (GR.pd_all M (by rfl) T.n_all (GR.pd_lcL M (i := 3) (r := fun M' => (GR.rAndD (GR.rEqv true (GR.rVar M' K 3) (fun _ _ d => d = PyData.str "")) (GR.rAllD (GR.rLcS 4 (GR.rVar M' K 3) (fun M' => (GR.rInS false (GR.rVar M' K 4) (fun _ _ e => e = (PyData.str "0123456789")))))))) (by rfl) scReadPart.nd (GR.pd_var M 1) (blkOk_by (own := [("word", 3)]) (N := ["text", "words", "found", "word", "sign"]) (sc := defScope sReadPart) (by first | decide +kernel | kernel_rfl | rfl)) (fun _ _ _ _ _ => (pg_name (i := 3) scReadPart.nd rfl (Or.inl rfl))) (fun M' _ _ _ _ _ => by exact (GR.pd_and M' (GR.pd_ne M' hr (GR.pd_var M' 3) (GR.pd_str M')) (GR.pd_one M' (GR.pd_all M' (by rfl) T.n_all (GR.pd_lcS M' (i := 4) (r := fun M' => (GR.rInS false (GR.rVar M' K 4) (fun _ _ e => e = (PyData.str "0123456789")))) (by rfl) scReadPart.nd (GR.pd_var M' 3) (blkOk_by (own := [("sign", 4)]) (N := ["text", "words", "found", "word", "sign"]) (sc := _) (by first | decide +kernel | kernel_rfl | rfl)) (fun _ _ _ _ _ => (pg_name (i := 4) scReadPart.nd rfl (Or.inl rfl))) (fun M' _ _ _ _ _ => by exact (GR.pd_inS M' (GR.pd_var M' 4) (GR.pd_glob M' T.gFIGURES (d := (PyData.str "0123456789")) (v := V.str "0123456789") ⟨_, rfl⟩ rfl))))))))))))))).run (pss_one (GR.ps_raiseX GR.inits_part rfl T.xNoPart hr (takes_of rfl rfl rfl rfl) (pa_cons (pv 0) pa_nil))) pss_nil)
      (pss_cons (ps_set (i := 2) scReadPart.nd rfl (Or.inl rfl) (GR.pd_tupOf M T.n_tuple (GR.pd_lcL M (i := 3) (r := fun M' => (GR.rIntS (GR.rVar M' K 3))) (by rfl) scReadPart.nd (GR.pd_var M 1) (blkOk_by (own := [("word", 3)]) (N := ["text", "words", "found", "word", "sign"]) (sc := defScope sReadPart) (by first | decide +kernel | kernel_rfl | rfl)) (fun _ _ _ _ _ => (pg_name (i := 3) scReadPart.nd rfl (Or.inl rfl))) (fun M' _ _ _ _ _ => by exact (GR.pd_intS M' T.n_int (GR.pd_var M' 3))))).run)
      (pss_cons (GR.ps_cut (ps_if (GR.pb_eq M hr (GR.pd_len M T.n_len (GR.pd_var M 2)) (GR.pd_int M)).run (pss_one (ps_set (i := 2) scReadPart.nd rfl (Or.inl rfl) (GR.pd_tup M (GR.pds_cons M (GR.pd_ixT M (GR.pd_var M 2) (GR.pd_int M)) (GR.pds_cons M (GR.pd_int M) (GR.pds_nil M)))).run)) pss_nil))
      (pss_cons (ps_if (GR.PBW.pb M (GR.pbw_or M (GR.pb_not M (GR.pb_val M (GR.pd_call M GIsPart (hr.mono (by decide)) T.gIsPart T.FIsPart.kp T.bIsPart (GR.pds_cons M (GR.pd_var M 2) (GR.pds_nil M))))) (GR.pbw_or1 M (GR.pb_ne M hr (GR.pd_callE M GPartText (hr.mono (by decide)) T.gPartText T.FPartText.kp T.bPartText (GR.pds_cons M (GR.pd_var M 2) (GR.pds_nil M))) (GR.pd_var M 0))))).run (pss_one (GR.ps_raiseX GR.inits_part rfl T.xNoPart hr (takes_of rfl rfl rfl rfl) (pa_cons (pv 0) pa_nil))) pss_nil)
      (pss_one (ps_ret (pv 2))))))))), ?_⟩
    cases e1 : GR.isS x with
    | false =>
      have e9 : readO T.cNoPart x = .err T.cNoPart "part" x := by cases x <;> first | rfl | (simp [GR.isS] at e1)
      rw [e9] at q
      exact ⟨hL, true, ⟨x, _, ⟨v, rfl, dx⟩, GR.kit_str x, by rw [e1]; rfl⟩, fun H1 f1 => iteT ⟨_, rfl, _, rfl, GR.raise_out q hL f1 (dx.sm f1)⟩⟩
    | true =>
      obtain ⟨z, rfl⟩ : ∃ z, x = .str z := by cases x <;> first | exact ⟨_, rfl⟩ | (simp [GR.isS] at e1)
      obtain ⟨hzo, hz⟩ := hx z rfl
      obtain rfl := GR.dt_str dx
      refine ⟨hL, false, ⟨_, _, ⟨_, rfl, .str z⟩, GR.kit_str _, rfl⟩, fun H1 f1 => iteF ?_⟩
      have hws : ∀ u ∈ Txt.split z "/", u.length ≤ 300 := fun u hu => Nat.le_trans (PyProof.Rows.part_short hu) hz
      have wsok : ∀ u ∈ Txt.split z "/", PyData.strOk u = true := fun u hu => part_strOk hzo hu
      have hwn : (Txt.split z "/").length ≤ 302 := Nat.le_trans (PyProof.Rows.split_le z "/") (by omega)
      replace q : GR.outQ M K H Q E (if (decide (2 < ((Txt.split z "/").length : Int)) || !(Txt.split z "/").all wordOk) = true then .err T.cNoPart "part" (.str z) else
        if isPartD (foundD (Txt.split z "/")) = true then (match foundD (Txt.split z "/") with
          | .tuple [.int t, .int b] => if ptext t b = z then .ret (foundD (Txt.split z "/")) else .err T.cNoPart "part" (.str z)
          | _ => .err T.cNoPart "part" (.str z)) else .err T.cNoPart "part" (.str z)) := q
      have hL1 := hL.same f1
      refine ⟨hL1, .list ((Txt.split z "/").map .str), ⟨z, "/", ⟨_, rfl, .str z⟩, rfl, by decide, Nat.le_trans (show z.length + 2 ≤ 302 by omega) (by decide), rfl⟩, fun H2 w2 f2 d2 => ?_⟩
      generalize hW : Txt.split z "/" = ws at hws hwn wsok q d2
      have s2 := f1.trans f2
      have hL2 := hL.same s2
      -- if len(words) > 2 or not all(..)
      have dW : ∀ {Hx : Hp} {σ : L2.St}, σ[1]? = some (some w2) → Same H2 Hx → GR.rVar M K 1 σ Hx (.list (ws.map .str)) := fun e sx => ⟨w2, e, d2.sm sx⟩
      have rLen : GR.rOpD (GR.rLenD (GR.rVar M K 1)) (fun _ _ d => d = PyData.int 2) (fun _ _ => True) (fun i j => V.bl (decide (j < i))) [some (V.str z), some w2, none, none, none] H2 (.bool (decide (2 < (ws.length : Int)))) :=
        ⟨(ws.length : Int), 2, ⟨ws.map .str, .inl (dW rfl (Same.refl H2)), by rw [List.length_map]⟩, rfl, trivial, rfl⟩
      have rAll : GR.rAllD (GR.rLc K PyData.list 3 (GR.rVar M K 1) (fun M' => GR.rAndD (GR.rEqv true (GR.rVar M' K 3) (fun _ _ d => d = PyData.str "")) (GR.rAllD (GR.rLcS 4 (GR.rVar M' K 3) (fun M' => GR.rInS false (GR.rVar M' K 4) (fun _ _ e => e = (PyData.str "0123456789"))))))) [some (V.str z), some w2, none, none, none] H2 (.bool (ws.all wordOk)) := by
        refine ⟨ws.map wordOk, ⟨ws.map .str, ws.map fun u => .bool (wordOk u), dW rfl (Same.refl H2), by rw [List.length_map]; omega, by rw [List.length_map, List.length_map], fun M' k x e h1 h2 H' y sm dy => ?_, by rw [List.map_map]; rfl⟩, by rw [List.all_map]; rfl⟩
        rw [List.getElem?_map] at h1 h2
        cases hu : ws[k]? with
        | none => rw [hu] at h1; cases h1
        | some u =>
          rw [hu] at h1 h2
          cases h1
          cases h2
          have hul := hws u (List.mem_of_getElem? hu)
          obtain rfl := GR.dt_str dy
          have hus : u.cps.size ≤ 1000 := by
            have : u.cps.size = u.length := rfl
            omega
          refine ⟨!PyData.eqv (.str u) (.str ""), ⟨_, _, ⟨_, rfl, .str u⟩, rfl, ?_, by decide +kernel, rfl⟩, ?_⟩
          · show (PyData.strOk u && decide (PyData.depth (.str u) ≤ 64)) = true
            rw [wsok u (List.mem_of_getElem? hu)]
            rfl
          · show if (!PyData.eqv (.str u) (.str "")) = true then GR.rAllD _ _ _ (.bool (wordOk u)) else PyData.bool (wordOk u) = PyData.bool false
            unfold wordOk
            cases PyData.eqv (.str u) (.str "") with
            | true => exact iteF rfl
            | false =>
              refine iteT ⟨u.cps.toList.map fun c => decide (c ∈ figs.cps.toList), ⟨u, u.cps.toList.map fun c => .bool (decide (c ∈ figs.cps.toList)), ⟨_, rfl, .str u⟩, hus, by rw [List.length_map, Array.length_toList], fun M' k c e h1 h2 H' s' => ?_, by rw [List.map_map]; rfl⟩, ?_⟩
              · rw [List.getElem?_map, Array.getElem?_toList, h1] at h2
                cases h2
                exact ⟨c, _, ⟨_, rfl, .str _⟩, rfl, rfl⟩
              · rw [List.all_map]
                rfl
      refine ⟨hL2, (decide (2 < (ws.length : Int)) || !ws.all wordOk), ⟨_, rLen, ?_⟩, fun H3 f3 => ?_⟩
      · cases decide (2 < (ws.length : Int)) with
        | true => exact iteT rfl
        | false =>
          refine iteF ?_
          show GR.rAllD _ _ _ (.bool (! (false || !ws.all wordOk)))
          rw [Bool.false_or, Bool.not_not]
          exact rAll
      have s3 := s2.trans f3
      have hL3 := hL.same s3
      cases e3 : (decide (2 < (ws.length : Int)) || !ws.all wordOk) with
      | true =>
        rw [if_pos e3] at q
        exact iteT ⟨_, rfl, _, rfl, GR.raise_out q hL s3 (.str z)⟩
      | false =>
        rw [if_neg (by rw [e3]; decide)] at q
        refine iteF ?_
        obtain ⟨e4, e5⟩ := Bool.or_eq_false_iff.mp e3
        have hlen : ws.length ≤ 2 := by
          have : ¬ 2 < (ws.length : Int) := of_decide_eq_false e4
          omega
        have hall : ws.all wordOk = true := by simpa using e5
        have hint : ∀ u ∈ ws, intText? u = some (intV u) ∧ 0 ≤ intV u ∧ intV u < 10 ^ 300 := fun u hu => wordOk_int (List.all_eq_true.mp hall u hu) (hws u hu)
        -- found = tuple([int(word) for word in words])
        refine ⟨hL3, .tuple (ws.map fun u => .int (intV u)), ⟨ws.map fun u => .int (intV u), ⟨ws.map .str, ws.map fun u => .int (intV u), dW rfl f3, by rw [List.length_map]; omega, by rw [List.length_map, List.length_map], fun M' k x e h1 h2 H' y sm dy => ?_, rfl⟩, rfl⟩, fun H4 w4 f4 d4 => ?_⟩
        · rw [List.getElem?_map] at h1 h2
          cases hu : ws[k]? with
          | none => rw [hu] at h1; cases h1
          | some u =>
            rw [hu] at h1 h2
            cases h1
            cases h2
            obtain rfl := GR.dt_str dy
            exact ⟨u, _, ⟨_, rfl, .str u⟩, (hint u (List.mem_of_getElem? hu)).1, Nat.le_trans (hws u (List.mem_of_getElem? hu)) (by decide), rfl⟩
        have s4 := s3.trans f4
        have hL4 := hL.same s4
        have hsm := found_small (fun u hu => (hint u hu).2.2)
        -- if len(found) == 1: found = (found[0], 1)
        refine ⟨fun σ H5 => ∃ w5, σ = [some (V.str z), some w2, some w5, none, none] ∧ Same H4 H5 ∧ GR.Dt M K H5 w5 (foundD ws), ?_, ?_⟩
        · have hpos : 1 ≤ ws.length := by rw [← hW]; exact PyProof.Rows.split_pos z "/"
          have rl : ∀ b, decide (ws.length = 1) = b → GR.rEqv false (GR.rLenD (GR.rVar M K 2)) (fun _ _ d => d = PyData.int 1) [some (V.str z), some w2, some w4, none, none] H4 (.bool b) := fun b e => ⟨.int (ws.length : Int), .int 1, ⟨_, .inr ⟨_, rfl, d4⟩, by rw [List.length_map]⟩, rfl, rfl, rfl, by
            rw [← e]
            show _ = PyData.bool (((ws.length : Int)) == 1)
            by_cases h : ws.length = 1
            · rw [decide_eq_true h, h]
              rfl
            · rw [decide_eq_false h, show (((ws.length : Int)) == 1) = false by simp; omega]⟩
          match ws, hpos, hlen, d4, rl with
          | [u], _, _, d4, rl =>
            refine ⟨hL4, true, rl true rfl, fun H5 f5 => iteT ⟨hL4.same f5, tupD (intV u) 1, ⟨[.int (intV u), .int 1], ⟨_, [.int 1], ⟨_, 0, ⟨_, rfl, d4.sm f5⟩, rfl, atI_nat (j := 0) rfl⟩, ⟨_, [], rfl, rfl, rfl⟩, rfl⟩, (by show 2 ≤ 1000; decide), rfl⟩, fun H6 w6 f6 d6 => ⟨w6, rfl, f5.trans f6, d6⟩⟩⟩
          | [u, u2], _, _, d4, rl =>
            exact ⟨hL4, false, rl false rfl, fun H5 f5 => iteF ⟨w4, rfl, f5, d4.sm f5⟩⟩
        · rintro σ H5 ⟨w5, rfl, f5, d5⟩
          have s5 := s4.trans f5
          have hL5 := hL.same s5
          have r1 : ∀ c, isPartD (foundD ws) = c → GR.rNotB (GR.rBool (GR.rCallD (R1 fun x => PyData.bool (isPartD x)) (GR.rConsD (GR.rVar M K 2) GR.rNilD))) [some (V.str z), some w2, some w5, none, none] H5 (!c) := fun c e => ⟨[_], ⟨_, [], ⟨w5, rfl, d5⟩, rfl, rfl⟩, _, rfl, by rw [Bool.not_not]; exact congrArg PyData.bool e.symm⟩
          cases e6 : isPartD (foundD ws) with
          | false =>
            rw [if_neg (by rw [e6]; decide)] at q
            exact ⟨hL5, true, ⟨true, r1 false e6, iteT rfl⟩, fun H6 f6 => iteT ⟨_, rfl, _, rfl, GR.raise_out q hL (s5.trans f6) (.str z)⟩⟩
          | true =>
            rw [if_pos e6] at q
            obtain ⟨t, j, ef, px⟩ := isPart_of e6
            rw [ef] at q
            replace q : GR.outQ M K H Q E (if ptext t (2 ^ j) = z then .ret (tupD t (2 ^ j)) else .err T.cNoPart "part" (.str z)) := q
            have hj : j ≤ 1000 := hsm t j ef
            have et : textO T.cNoPart (foundD ws) = .ret (.str (ptext t (2 ^ j))) := by
              unfold textO
              rw [if_pos e6, ef]
              rfl
            have r2 : GR.rEqv true (GR.rCallD (fun ds d => ∃ x, ds = [x] ∧ small x ∧ GR.Out.ret d = textO T.cNoPart x) (GR.rConsD (GR.rVar M K 2) GR.rNilD)) (GR.rVar M K 0) [some (V.str z), some w2, some w5, none, none] H5 (.bool (!PyData.eqv (.str (ptext t (2 ^ j))) (.str z))) := by
              refine ⟨_, _, ⟨[_], ⟨_, [], ⟨w5, rfl, d5⟩, rfl, rfl⟩, _, rfl, hsm, et.symm⟩, ⟨_, rfl, .str z⟩, ?_, ?_, rfl⟩
              · show (PyData.strOk (ptext t (2 ^ j)) && decide (PyData.depth (.str (ptext t (2 ^ j))) ≤ 64)) = true
                rw [ptext_ok]
                rfl
              · show (PyData.strOk z && decide (PyData.depth (.str z) ≤ 64)) = true
                rw [hzo]
                rfl
            have ev : PyData.eqv (.str (ptext t (2 ^ j))) (.str z) = decide (ptext t (2 ^ j) = z) := by
              show ((ptext t (2 ^ j)) == z) = _
              by_cases h : ptext t (2 ^ j) = z
              · rw [decide_eq_true h]
                exact beq_iff_eq.mpr h
              · rw [decide_eq_false h]
                exact beq_eq_false_iff_ne.mpr h
            rw [ev] at r2
            by_cases z9 : ptext t (2 ^ j) = z
            · rw [if_pos z9] at q
              rw [decide_eq_true z9] at r2
              refine ⟨hL5, false, ⟨false, r1 true e6, iteF r2⟩, fun H6 f6 => iteF ?_⟩
              rw [ef] at d5
              exact ⟨_, rfl, q H6 w5 (s5.trans f6) (d5.sm f6)⟩
            · rw [if_neg z9] at q
              rw [decide_eq_false z9] at r2
              exact ⟨hL5, true, ⟨false, r1 true e6, iteF r2⟩, fun H6 f6 => iteT ⟨_, rfl, _, rfl, GR.raise_out q hL (s5.trans f6) (.str z)⟩⟩
end

/-! ## the plain law -/
theorem pos2 (k : Nat) : (0 : Int) < 2 ^ k := Int.pow_pos (by decide)
theorem sumT_eq (t : Int) (m j : Nat) : sumT t (2 ^ m) 1 (2 ^ j) = t * 2 ^ (max m j - m) + 2 ^ (max m j - j) := by
  unfold sumT
  rw [sumB_pow, pow_div (Nat.le_max_left m j), pow_div (Nat.le_max_right m j), Int.one_mul]
theorem low_fin : ∀ (J : Nat) (T : Int), (low T J).2 = 1 ∨ (low T J).1 % 2 = 1
  | 0, _ => .inl rfl
  | J + 1, T => by
    by_cases h : T % 2 = 0
    · rw [low_even h]
      exact low_fin J (T / 2)
    · rw [low_odd (by omega)]
      exact .inr (by show T % 2 = 1; omega)
theorem low_partN {T : Int} {J : Nat} (h0 : 0 ≤ T) (h1 : T ≤ 2 ^ J) : ∃ t k, (low T J).1 = t ∧ (low T J).2 = 2 ^ k ∧ PartN t k ∧ k ≤ J ∧ T = t * 2 ^ (J - k) := by
  obtain ⟨k, hk, e1, e2⟩ := low_val J T
  refine ⟨(low T J).1, k, rfl, e1, ⟨?_, ?_, ?_⟩, hk, e2⟩
  · by_cases z : 0 ≤ (low T J).1
    · exact z
    · exfalso
      have : (low T J).1 * 2 ^ (J - k) < 0 := Int.mul_neg_of_neg_of_pos (by omega) (pos2 _)
      omega
  · have n : ¬ (low T J).1 > (low T J).2 := fun z => by
      have := (low_over T J).mp z
      omega
    rw [e1] at n
    omega
  · rcases low_fin J T with z | z
    · rw [e1] at z
      left
      cases k with
      | zero => rfl
      | succ k =>
        exfalso
        have := pos2 k
        rw [Int.pow_succ] at z
        omega
    · exact .inr z
theorem plus_step {t : Int} {m j : Nat} (p : PartN t m) (hm : m ≤ 200) (hj : j ≤ 200) (hV : t * 2 ^ (200 - m) + 2 ^ (200 - j) ≤ (2 : Int) ^ 200) (C D : Addr) :
    ∃ t' k, plusO C D (tupD t (2 ^ m)) (tupD 1 (2 ^ j)) = .ret (tupD t' (2 ^ k)) ∧ lowD (sumT t (2 ^ m) 1 (2 ^ j)) (max m j) = tupD t' (2 ^ k) ∧ PartN t' k ∧ k ≤ 200 ∧ t' * 2 ^ (200 - k) = t * 2 ^ (200 - m) + 2 ^ (200 - j) := by
  have hJ : max m j ≤ 200 := by omega
  have eV : sumT t (2 ^ m) 1 (2 ^ j) * 2 ^ (200 - max m j) = t * 2 ^ (200 - m) + 2 ^ (200 - j) := by
    rw [sumT_eq, Int.add_mul, Int.mul_assoc, ← Int.pow_add, ← Int.pow_add, show max m j - m + (200 - max m j) = 200 - m by omega, show max m j - j + (200 - max m j) = 200 - j by omega]
  have hT0 : 0 ≤ sumT t (2 ^ m) 1 (2 ^ j) := by
    rw [sumT_eq]
    have := Int.mul_nonneg p.t0 (Int.le_of_lt (pos2 (max m j - m)))
    have := pos2 (max m j - j)
    omega
  have hT1 : sumT t (2 ^ m) 1 (2 ^ j) ≤ 2 ^ (max m j) := by
    have e : (2 : Int) ^ 200 = 2 ^ (max m j) * 2 ^ (200 - max m j) := by rw [← Int.pow_add]; congr 1; omega
    rw [← eV, e] at hV
    exact Int.le_of_mul_le_mul_right hV (pos2 _)
  obtain ⟨t', k, e1, e2, pn, hk, e3⟩ := low_partN hT0 hT1
  have eL : lowD (sumT t (2 ^ m) 1 (2 ^ j)) (max m j) = tupD t' (2 ^ k) := by
    unfold lowD
    rw [e1, e2]
  refine ⟨t', k, ?_, eL, pn, by omega, ?_⟩
  · unfold plusO
    have p1 : PartN 1 j := ⟨by decide, by have := pos2 j; omega, .inr rfl⟩
    rw [if_pos p.ok, if_pos p1.ok]
    show (if sumT t (2 ^ m) 1 (2 ^ j) > sumB (2 ^ m) (2 ^ j) then _ else GR.Out.ret (lowD _ (sumB (2 ^ m) (2 ^ j)).toNat.log2)) = _
    rw [sumB_pow, log_pow, if_neg (by omega), eL]
  · rw [← eV, e3, Int.mul_assoc, ← Int.pow_add, show max m j - k + (200 - max m j) = 200 - k by omega]
def wsum (js : List Nat) : Int := (js.map fun j => (2 : Int) ^ (200 - j)).sum
theorem wsum_nil : wsum [] = 0 := rfl
theorem wsum_cons (j : Nat) (js : List Nat) : wsum (j :: js) = 2 ^ (200 - j) + wsum js := by
  unfold wsum
  rw [List.map_cons, List.sum_cons]
theorem wsum_app (a b : List Nat) : wsum (a ++ b) = wsum a + wsum b := by
  unfold wsum
  rw [List.map_append, List.sum_append]
theorem wsum_nonneg : ∀ js : List Nat, 0 ≤ wsum js
  | [] => Int.le_refl _
  | j :: js => by
    rw [wsum_cons]
    have := wsum_nonneg js
    have := pos2 (200 - j)
    omega
theorem wsum_erase : ∀ (js : List Nat) (k j : Nat), js[k]? = some j → wsum js = 2 ^ (200 - j) + wsum (js.eraseIdx k)
  | [], _, _, h => by simp at h
  | x :: js, 0, j, h => by
    have : x = j := by simpa using h
    rw [this, wsum_cons]
    rfl
  | x :: js, k + 1, j, h => by
    have h' : js[k]? = some j := by simpa using h
    rw [wsum_cons, wsum_erase js k j h', List.eraseIdx_cons_succ, wsum_cons]
    omega
theorem wsum_half {js : List Nat} {a j : Nat} (h : js[a]? = some j) (hj : j < 200) : wsum (js.take a ++ [j + 1, j + 1] ++ js.drop (a + 1)) = wsum js := by
  have hlt := (List.getElem?_eq_some_iff.mp h).1
  have e1 : js = js.take a ++ (j :: js.drop (a + 1)) := by
    have e2 : js.drop a = j :: js.drop (a + 1) := by
      rw [List.drop_eq_getElem_cons hlt, (List.getElem?_eq_some_iff.mp h).2]
    rw [← e2, List.take_append_drop]
  have e3 : wsum js = wsum (js.take a) + (2 ^ (200 - j) + wsum (js.drop (a + 1))) := by
    rw [← wsum_cons, ← wsum_app, ← e1]
  rw [e3, wsum_app, wsum_app, wsum_cons, wsum_cons, wsum_nil]
  have e4 : (2 : Int) ^ (200 - j) = 2 ^ (200 - (j + 1)) + 2 ^ (200 - (j + 1)) := by
    rw [show 200 - j = (200 - (j + 1)) + 1 by omega, Int.pow_succ]
    omega
  omega
theorem whole_of {t : Int} {m : Nat} (p : PartN t m) (hm : m ≤ 200) (h : t * 2 ^ (200 - m) = (2 : Int) ^ 200) : t = 1 ∧ m = 0 := by
  have e : (2 : Int) ^ 200 = 2 ^ m * 2 ^ (200 - m) := by rw [← Int.pow_add]; congr 1; omega
  rw [e] at h
  have ht : t = 2 ^ m := Int.eq_of_mul_eq_mul_right (Int.ne_of_gt (pos2 _)) h
  rcases p.odd with z | z
  · subst z
    exact ⟨by simpa using ht, rfl⟩
  · cases m with
    | zero => exact ⟨by simpa using ht, rfl⟩
    | succ m =>
      exfalso
      rw [ht, Int.pow_succ] at z
      omega
theorem one_part (j : Nat) : PartN 1 j := ⟨by decide, by have := pos2 j; omega, .inr rfl⟩
theorem halfO_one (C : Addr) (j : Nat) : halfO C (tupD 1 (2 ^ j)) = .ret (tupD 1 (2 ^ (j + 1))) := by
  unfold halfO
  rw [if_pos (one_part j).ok]
  show (if (1 : Int) = 0 ∧ (2 : Int) ^ j = 1 then _ else GR.Out.ret (tupD 1 (2 * 2 ^ j))) = _
  rw [if_neg (by omega), Int.pow_succ, Int.mul_comm]
/-! ### read back -/
theorem num_tl (n : Nat) : (Str.ofString (toString ((n : Nat) : Int))).cps.toList = TL.numL n := TL.tl_num n
theorem num_word (n : Nat) : wordOk (Str.ofString (toString ((n : Nat) : Int))) = true := by
  unfold wordOk
  rw [num_tl]
  have h1 : PyData.eqv (.str (Str.ofString (toString ((n : Nat) : Int)))) (.str "") = false := by
    show ((Str.ofString (toString ((n : Nat) : Int))) == ("" : Str)) = false
    rw [beq_eq_false_iff_ne]
    intro e
    have := congrArg (fun z : Str => z.cps.toList) e
    simp only [num_tl] at this
    exact TL.numL_ne n this
  rw [h1]
  refine Bool.and_eq_true_iff.mpr ⟨rfl, List.all_eq_true.mpr fun c hc => decide_eq_true ?_⟩
  have hd := TL.numL_digits n c hc
  have e : figs.cps.toList = [48, 49, 50, 51, 52, 53, 54, 55, 56, 57] := by decide +kernel
  rw [e]
  simp only [List.mem_cons, List.not_mem_nil, or_false]
  omega
theorem num_int {n : Nat} (h : n < 2 ^ 201) : intV (Str.ofString (toString ((n : Nat) : Int))) = n := by
  unfold intV
  rw [TL.int_num (Nat.le_trans (TL.numL_len (k := 100) (by decide) (Nat.lt_of_lt_of_le h (by decide +kernel))) (by decide))]
  rfl
theorem num_len {n : Nat} (h : n < 2 ^ 201) : (Str.ofString (toString ((n : Nat) : Int))).length ≤ 100 := by
  rw [TL.len_tl, TL.tl_num]
  exact TL.numL_len (k := 100) (by decide) (Nat.lt_of_lt_of_le h (by decide +kernel))
theorem cast_pow (j : Nat) : (2 : Int) ^ j = ((2 ^ j : Nat) : Int) := by simp
theorem ptext_split {j : Nat} (hj : j ≤ 200) : ∃ ws, Txt.split (ptext 1 (2 ^ j)) "/" = ws ∧ ws.length ≤ 2 ∧ ws.all wordOk = true ∧ foundD ws = tupD 1 (2 ^ j) ∧ (ptext 1 (2 ^ j)).length ≤ 300 := by
  have hlt : 2 ^ j < 2 ^ 201 := Nat.pow_lt_pow_right (by decide) (by omega)
  have sp : ∀ parts : List Str, parts ≠ [] → (∀ p ∈ parts, ∃ n : Nat, p = Str.ofString (toString ((n : Nat) : Int))) → Txt.split (Str.join "/" parts) "/" = parts := fun parts hne hp => by
    rw [← TL.join_eq]
    refine TL.split_join (s := 47) (S := []) (by decide +kernel) (by decide +kernel) hne fun p h => ?_
    obtain ⟨n, rfl⟩ := hp p h
    rw [TL.tl_num]
    exact TL.numL_free (.inl (by decide))
  have e1 : Str.ofString (toString (1 : Int)) = Str.ofString (toString ((1 : Nat) : Int)) := rfl
  unfold ptext
  by_cases z : (2 : Int) ^ j = 1
  · rw [if_pos z]
    have h := sp [Str.ofString (toString ((1 : Nat) : Int))] (by simp) (fun p hp => ⟨1, List.mem_singleton.mp hp⟩)
    refine ⟨_, h, by decide, by rw [List.all_cons, num_word]; rfl, ?_, Nat.le_trans (num_len (n := 1) (by decide)) (by decide)⟩
    show tupD (intV _) 1 = _
    rw [num_int (by decide), z]
    rfl
  · rw [if_neg z]
    have h := sp [Str.ofString (toString ((1 : Nat) : Int)), Str.ofString (toString ((2 ^ j : Nat) : Int))] (by simp) (fun p hp => by
      rcases List.mem_cons.mp hp with rfl | hp
      · exact ⟨1, rfl⟩
      · exact ⟨2 ^ j, List.mem_singleton.mp hp⟩)
    have ej : ((Str.empty ++ Str.ofString (toString (1 : Int))) ++ "/") ++ Str.ofString (toString ((2 : Int) ^ j)) = Str.join "/" [Str.ofString (toString ((1 : Nat) : Int)), Str.ofString (toString ((2 ^ j : Nat) : Int))] := by
      rw [Str.empty_append, cast_pow]
      rfl
    rw [ej]
    refine ⟨_, h, by show 2 ≤ 2; decide, by rw [List.all_cons, List.all_cons, num_word, num_word]; rfl, ?_, ?_⟩
    · show tupD (intV _) (intV _) = _
      rw [num_int (by decide), num_int hlt, cast_pow]
      rfl
    · show (Str.ofString (toString ((1 : Nat) : Int)) ++ "/" ++ Str.ofString (toString ((2 ^ j : Nat) : Int))).length ≤ 300
      rw [Str.length_append, Str.length_append]
      have h1 := num_len (n := 1) (by decide)
      have h2 := num_len hlt
      have : Str.length "/" = 1 := rfl
      omega
theorem read_back (C : Addr) {j : Nat} (hj : j ≤ 200) : readO C (.str (ptext 1 (2 ^ j))) = .ret (tupD 1 (2 ^ j)) := by
  obtain ⟨ws, h1, h2, h3, h4, _⟩ := ptext_split hj
  unfold readO
  simp only [h1, h3, h4]
  rw [if_neg (by
    rw [show decide (2 < ((ws.length : Nat) : Int)) = false from decide_eq_false (by omega)]
    decide), if_pos (one_part j).ok]
  show (if ptext 1 (2 ^ j) = ptext 1 (2 ^ j) then _ else _) = _
  rw [if_pos rfl]
theorem textO_one (C : Addr) (j : Nat) : textO C (tupD 1 (2 ^ j)) = .ret (.str (ptext 1 (2 ^ j))) := by
  unfold textO
  rw [if_pos (one_part j).ok]
  rfl
section
variable {P : Program} {w : World} {K : PySem.W.Frag} {mg : Str → Option Value} {bs : Heap} (T : Txt K mg)

theorem okLawTooMuch : FnOk P w K mg bs CX0 6 T.fLawTooMuch T.dLawTooMuch ["_law_one", "_law_other"] (GR.spPure K fun ds d => ∃ x y, ds = [x, y] ∧ small x ∧ small y ∧ SeqAt.shaped y = true ∧ PyData.eqv y y = true ∧ plusO T.cNoPart T.cTooMuch x y = .err T.cTooMuch "part" y ∧ d = .bool true) := by
  have GPlus := okPlus (P := P) (w := w) (bs := bs) T
  refine T.FLawTooMuch.ok scLawTooMuch (fun vs H Q E h => ?_) (fun cdv A outer s H vs Q E hr h => ?_)
  · obtain ⟨M, ds, d, _, da, ⟨x, y, rfl, _⟩, _⟩ := h
    exact da.len
  · obtain ⟨M, ds, d, hL, da, ⟨x, y, rfl, sx, sy, hs, hy, he, rfl⟩, q⟩ := h
    obtain ⟨v, u, rfl, dx, dy⟩ := GR.dtAll_two da
    have hr1 : Room 5 _ := hr
    refine ⟨_, (pss_cons (ps_try_as (i := 2) (tb := fun W => tDrop (tCallS (GR.spOut K fun ds o => ∃ x y, ds = [x, y] ∧ small x ∧ small y ∧ o = plusO T.cNoPart T.cTooMuch x y) (WE W) (tCons (tVar 0) (tCons (tVar 1) tNil))))
        (ts := fun a cls d => tRet (GR.tD M K (GR.rEqv false (GR.rXf M K a cls d T.cTooMuch "part" 2) (GR.rVar M K 1)))) (Wout := fun _ _ _ _ => False) rfl rfl scLawTooMuch.nd rfl rfl ⟨rfl, by decide, Or.inl T.xTooMuch.gC⟩ takes0
        (fun W pn xe tk _ => pss_one (ps_expr (by exact (pe_callS GPlus hr1 rfl T.gPlus T.FPlus.kp T.bPlus (fun σ => passAt tk σ) (by exact (pa_cons (pv 0) (pa_cons (pv 1) pa_nil)))))))
        (fun a oe cls d pn hz hf => pss_one (ps_ret (by exact (GR.pd_eqU M hr1.units (GR.pd_xf M T.xTooMuch.xf T.xTooMuch.noN hz hf (pv 2)) (GR.pd_var M 1)).run))))
      (pss_one (ps_ret pe_bl))), ?_⟩
    refine ⟨_, rfl, _, rfl, M, [x, y], .err T.cTooMuch "part" y, hL, .cons dx (.cons dy .nil), ⟨x, y, rfl, sx, sy, he.symm⟩, fun H1 dd z s1 hd dz => ?_⟩
    refine ⟨true, T.mTooMuch_TooMuch, fun _ a0 _ => ?_, fun z => Bool.noConfusion z⟩
    refine ⟨hL.same s1, .bool true, ⟨y, y, ⟨rfl, rfl, dd, z, rfl, hd, dz⟩, ⟨_, rfl, dy.sm s1⟩, hs, hs, ?_⟩, fun H2 w2 f2 d2 => q H2 w2 (s1.trans f2) d2⟩
    show PyData.bool true = PyData.bool (PyData.eqv y y)
    rw [hy]

def spTake : Sp := fun vs H Q _ => ∃ (b : Addr) (many : Int), vs = [.ref b, .int many] ∧ GR.Bag H b ∧ 0 < many ∧ many.natAbs < 2 ^ 8000 ∧
  ∀ r H', 0 ≤ r → r < many → GR.Bag H' b → GR.But b H H' → Q (.int r) H'
theorem okLawTake : FnOk P w K mg bs CX0 1 T.fLawTake T.dLawTake ["_law_bag_here", "_law_many"] spTake := by
  refine T.FLawTake.ok scLawTake (fun vs H Q E h => ?_) (fun cdv A outer s H vs Q E hr h => ?_)
  · obtain ⟨b, many, rfl, _⟩ := h
    rfl
  · obtain ⟨b, many, rfl, ⟨x, m, hb, V⟩, h0, h8, q⟩ := h
    refine ⟨_, (pss_cons (ps_if (pt_cmpR op_gt (pe_ix ix_list (pv 0) pe_int (fun _ _ => rfl)) pe_int (nomark _)) (pss_cons (ps_set (i := 2) scLawTake.nd rfl (Or.inl rfl) (pe_op op_mod (pe_ix ix_list (pv 0) pe_int (fun _ _ => rfl)) (pv 1)))
      (pss_cons (ps_asg (pe_op op_fdivW (pe_ix ix_list (pv 0) pe_int (fun _ _ => rfl)) (pv 1)) (pg_sub (pv 0) pe_int set_list))
      (pss_one (ps_ret (pv 2))))) pss_nil)
      (pss_cons (ps_asg (pe_op op_mod (pe_op op_add (pe_op op_mul (pe_ix ix_list (pv 0) pe_int (fun _ _ => rfl)) pe_int) pe_int) pe_int) (pg_sub (pv 0) pe_int set_list))
      (pss_one (ps_ret (pe_op op_mod (pe_op op_fdivW (pe_op op_mod (pe_op op_mul (pe_op op_fdivW (pe_ix ix_list (pv 0) pe_int (fun _ _ => rfl)) pe_int) pe_int) pe_int) pe_int) (pv 1)))))), ?_⟩
    refine ⟨_, rfl, b, _, _, _, rfl, rfl, SqL.of hb, atI_nat (j := 0) rfl, _, _, rfl, rfl, _, rfl, ?_⟩
    refine ite2 (fun e => ?_) (fun e => ?_)
    · have e' : 0 < x := of_decide_eq_true e
      refine ⟨_, rfl, b, _, _, _, rfl, rfl, SqL.of hb, atI_nat (j := 0) rfl, _, rfl, _, _, rfl, rfl, h0, ?_⟩
      refine ⟨_, rfl, b, _, _, _, rfl, rfl, SqL.of hb, atI_nat (j := 0) rfl, _, rfl, _, _, rfl, rfl, wide_div h0 h8 (by decide) (by decide), ?_⟩
      refine ⟨_, rfl, b, _, _, 0, rfl, rfl, hb, rfl, ?_⟩
      refine ⟨_, rfl, q _ _ (Int.emod_nonneg _ (by omega)) (Int.emod_lt_of_pos _ h0) ⟨x / many, m, upd_same, ?_, ?_, V.m0, V.mb⟩ GR.But.upd⟩
      · exact Int.ediv_nonneg V.x0 (by omega)
      · exact Nat.lt_of_le_of_lt (by
          have z : x / many ≤ x := Int.ediv_le_self many V.x0
          have z2 : 0 ≤ x / many := Int.ediv_nonneg V.x0 (by omega)
          omega) V.xb
    · refine ⟨_, rfl, b, _, _, _, rfl, rfl, SqL.of hb, atI_nat (j := 1) rfl, _, _, rfl, rfl, .inr ⟨by decide, by decide⟩, _, _, rfl, rfl, _, _, rfl, rfl, (by show (0 : Int) < 2147483399; decide), ?_⟩
      refine ⟨_, rfl, b, _, _, 1, rfl, rfl, hb, rfl, ?_⟩
      refine ⟨_, rfl, b, _, _, _, rfl, rfl, SqL.of upd_same, atI_nat (j := 1) rfl, _, _, rfl, rfl, ⟨by decide, by decide⟩, _, _, rfl, rfl, .inr ⟨by decide, by decide⟩, _, _, rfl, rfl, (by show (0 : Int) < 2147483249; decide), _, _, rfl, rfl, ⟨by decide, by decide⟩, _, rfl, _, _, rfl, rfl, h0, ?_⟩
      refine q _ _ (Int.emod_nonneg _ (by omega)) (Int.emod_lt_of_pos _ h0) ⟨x, _, upd_same, V.x0, V.xb, Int.emod_nonneg _ (by decide), ?_⟩ GR.But.upd
      exact Int.lt_trans (Int.emod_lt_of_pos _ (by decide)) (by decide)

def spBag (K : PySem.W.Frag) : Sp := fun vs H Q _ => ∃ (a : Addr) (ns : List Int) (k : Int), vs = [.ref a, .int k] ∧ SqL K H a (ns.map V.int) ∧ ns.length ≤ 63 ∧
  (∀ z ∈ ns, Builtin.Int.intBits z ≤ 1048576) ∧ 0 ≤ k ∧ k < 100 ∧ ∀ H' b, Same H H' → H b = none → GR.Bag H' b → Q (.ref b) H'
theorem map_get {ns : List Int} {i : Nat} {y : V} (h : (ns.map V.int)[i]? = some y) : ∃ z, ns[i]? = some z ∧ y = V.int z := by
  rw [List.getElem?_map] at h
  cases e : ns[i]? with
  | none =>
    rw [e] at h
    cases h
  | some z =>
    rw [e] at h
    exact ⟨z, rfl, (Option.some.inj h).symm⟩
theorem cut_upto (ns : List Int) (k : Nat) : cutV (ns.map V.int) none (some (k : Int)) = (ns.take k).map V.int := by
  unfold cutV
  rw [HT.sIx_none, show HT.sIx (ns.map V.int).length (ns.map V.int).length (some (k : Int)) = min k (ns.map V.int).length from HT.sIx_nat _ _ k]
  rw [List.map_take, List.drop_zero, Nat.sub_zero]
  by_cases h : k ≤ (ns.map V.int).length
  · rw [Nat.min_eq_left h]
  · rw [Nat.min_eq_right (by omega), List.take_of_length_le (Nat.le_refl _), List.take_of_length_le (by omega)]
theorem okLawBag : FnOk P w K mg bs CX0 1 T.fLawBag T.dLawBag ["_law_script", "_law_at"] (spBag K) := by
  refine T.FLawBag.ok scLawBag (fun vs H Q E h => ?_) (fun cdv A outer s H vs Q E hr h => ?_)
  · obtain ⟨a, ns, k, rfl, _⟩ := h
    rfl
  · obtain ⟨a, ns, k, rfl, hS, hlen, hbits, hk0, hk1, q⟩ := h
    refine ⟨_, (pss_cons (ps_set (i := 2) scLawBag.nd rfl (Or.inl rfl) (GR.pe_cut (pe_ifExp (pt_cmpR op_lt (pv 1) (pe_callB call_len_seq (by rfl) T.n_len PySem.boot_len (pa_cons (pv 0) pa_nil)) (nomark _)) (pe_ix ix_list (pv 0) (pv 1) (fun _ _ => rfl)) pe_int)))
      (pss_cons (ps_set (i := 3) scLawBag.nd rfl (Or.inl rfl) (pe_op op_add (pe_op op_mul pe_int (pv 1)) pe_int))
      (pss_cons (ps_for PassesOwn.never rfl (pi_enum (by rfl) T.n_enumerate (pa_cons (pe_slice sl_list (pv 0) po_none (po_some pe_int)) pa_nil)) (pg_tup (by rfl) (pgs_cons (pg_name (i := 4) scLawBag.nd rfl (Or.inl rfl)) (pgs_cons (pg_name (i := 5) scLawBag.nd rfl (Or.inl rfl)) pgs_nil)))
      (pss_one (ps_set (i := 3) scLawBag.nd rfl (Or.inl rfl) (pe_op op_mod (pe_op op_add (pe_op op_add (pe_op op_mul (pv 3) pe_int) (pe_op op_mod (pv 5) pe_int)) (pe_op op_mul pe_int (pv 4))) pe_int))))
      (pss_one (ps_ret (pe_lst (pa_cons (GR.pe_cut (pe_ifExp (pt_cmpR op_ge (pe_callB call_abs (by rfl) T.n_abs (by decide +kernel) (pa_cons (pv 2) pa_nil)) (pe_op op_pow pe_int pe_int) (nomark _)) (pe_callB call_abs (by rfl) T.n_abs (by decide +kernel) (pa_cons (pv 2) pa_nil)) pe_int)) (pa_cons (pv 3) pa_nil)))))))), ?_⟩
    refine ⟨fun v H1 => H1 = H ∧ ∃ c : Int, v = .int c ∧ c.natAbs < 2 ^ 1048576, ?_, ?_⟩
    · refine ⟨_, rfl, _, rfl, a, _, rfl, .inl hS, _, _, rfl, rfl, _, rfl, ?_⟩
      refine ite2 (fun e => ?_) (fun e => ?_)
      · have e' : k < ((ns.map V.int).length : Int) := of_decide_eq_true e
        rw [List.length_map] at e'
        obtain ⟨j, rfl⟩ : ∃ j : Nat, k = (j : Int) := ⟨k.toNat, by omega⟩
        have hj : j < ns.length := by omega
        refine ⟨_, rfl, _, rfl, a, _, _, _, rfl, rfl, hS, atI_nat (j := j) (v := V.int ns[j]) (by rw [List.getElem?_map, List.getElem?_eq_getElem hj]; rfl), rfl, _, rfl, ?_⟩
        exact GR.bits_lt (hbits _ (List.getElem_mem hj))
      · exact ⟨rfl, 0, rfl, Nat.pow_pos (by decide)⟩
    rintro v H1 ⟨rfl, c, rfl, hc⟩
    refine ⟨_, rfl, _, _, rfl, rfl, .inl ⟨by decide, by decide⟩, _, _, rfl, rfl, ?_⟩
    -- for spot, other in enumerate(script[:30])
    refine ⟨_, rfl, 30, rfl, a, _, rfl, hS, fun l nl => ?_⟩
    have sl : Same H1 (upd H1 l (.lst (cutV (ns.map V.int) none (some 30)))) := GR.same_upd nl
    have ec : cutV (ns.map V.int) none (some 30) = (ns.take 30).map V.int := cut_upto ns 30
    refine ⟨l, (ns.take 30).map V.int, rfl, SqL.of (by rw [upd_same, ec]), ?_⟩
    refine GR.for_enum (K := K) (a := l) (xs := (ns.take 30).map V.int) (fun i σ H2 => ∃ (m : Int) (v4 v5 : Option V), σ = [some (.ref a), some (.int k), some (.int c), some (.int m), v4, v5] ∧ Same H1 H2 ∧ H2 l = some (.lst ((ns.take 30).map V.int)) ∧ 0 ≤ m ∧ m < 2147483648)
      ⟨2713 * k + 419, none, none, rfl, sl, by rw [upd_same, ec], by omega, by omega⟩ (fun i σ H2 _ ⟨_, _, _, _, _, h2, _⟩ => SqL.of h2) ?_ ?_
    · rintro i y σ H2 U hi ⟨m, v4, v5, rfl, sm, h2, m0, m1⟩ nU
      obtain ⟨z, hz, rfl⟩ := map_get hi
      have nlU : l ≠ U := ne_of_none h2 nU
      refine ⟨U, _, rfl, .inl (.inl upd_same), rfl, _, _, rfl, _, _, rfl, rfl, ?_⟩
      refine ⟨_, rfl, _, _, rfl, rfl, .inr ⟨by decide, by decide⟩, _, rfl, _, _, rfl, rfl, (by show (0 : Int) < 2147483563; decide), _, _, rfl, rfl, _, rfl, _, _, rfl, rfl, .inl ⟨by decide, by decide⟩, _, _, rfl, rfl, _, _, rfl, rfl, (by show (0 : Int) < 2147483563; decide), ?_⟩
      refine ⟨_, _, _, rfl, sm.trans (GR.same_upd nU), by rw [upd_ne nlU]; exact h2, Int.emod_nonneg _ (by decide), Int.lt_trans (Int.emod_lt_of_pos _ (by decide)) (by decide)⟩
    · rintro σ H2 ⟨m, v4, v5, rfl, sm, h2, m0, m1⟩
      -- return [..]
      refine ⟨fun v H3 => H3 = H2 ∧ ∃ x : Int, v = .int x ∧ 0 ≤ x ∧ x.natAbs < 2 ^ 1048576, ?_, ?_⟩
      · refine ⟨_, rfl, _, rfl, _, _, rfl, rfl, ⟨by decide, by decide, by decide⟩, _, _, rfl, rfl, _, rfl, ?_⟩
        refine ite2 (fun e => ?_) (fun e => ?_)
        · refine ⟨_, rfl, _, rfl, rfl, _, rfl, ?_, ?_⟩
          · split <;> omega
          · refine Nat.lt_of_le_of_lt ?_ hc
            split <;> omega
        · exact ⟨rfl, 0, rfl, Int.le_refl _, Nat.pow_pos (by decide)⟩
      · rintro v H3 ⟨rfl, x, rfl, x0, xb⟩
        refine ⟨_, rfl, (by show 2 ≤ sizeLine; decide), fun b nb => ?_⟩
        exact q _ _ (sm.trans (GR.same_upd nb)) (sm.free nb) ⟨x, m, upd_same, x0, xb, m0, m1⟩

def spLaw (K : PySem.W.Frag) : Sp := fun vs H Q _ => ∃ (a : Addr) (ns : List Int), vs = [.ref a] ∧ SqL K H a (ns.map V.int) ∧ ns.length ≤ 63 ∧
  (∀ z ∈ ns, Builtin.Int.intBits z ≤ 1048576) ∧ ∀ H', Q (.bl true) H'
theorem few (n : Nat) : ∃ k : Nat, k ≤ 6 ∧ (if (if ((n : Nat) : Int) < 4 then ((n : Nat) : Int) else 4) > 2 then (if ((n : Nat) : Int) < 4 then ((n : Nat) : Int) else 4) else 2) = (k : Int) := by
  by_cases h : ((n : Nat) : Int) < 4
  · rw [if_pos h]
    by_cases h2 : ((n : Nat) : Int) > 2
    · rw [if_pos h2]
      exact ⟨n, by omega, rfl⟩
    · rw [if_neg h2]
      exact ⟨2, by decide, rfl⟩
  · rw [if_neg h]
    exact ⟨4, by decide, rfl⟩
def oneD (j : Nat) : PyData := tupD 1 (2 ^ j)
theorem small_one {j : Nat} (h : j ≤ 200) : small (oneD j) := fun t i e => by
  unfold oneD tupD at e
  simp only [PyData.tuple.injEq, List.cons.injEq, PyData.int.injEq, and_true] at e
  have := pow_inj e.2
  omega
theorem shaped_ones : ∀ js : List Nat, PyData.canLayAll0 (js.map oneD) = true ∧ PyData.depthAll (js.map oneD) ≤ 5
  | [] => ⟨rfl, by decide⟩
  | j :: js => by
    obtain ⟨h1, h2⟩ := shaped_ones js
    refine ⟨?_, ?_⟩
    · show (PyData.canLay0 (oneD j) && PyData.canLayAll0 (js.map oneD)) = true
      rw [h1]
      rfl
    · rw [List.map_cons]
      simp only [PyData.depthAll]
      have : (oneD j).depth ≤ 5 := by
        unfold oneD tupD
        simp [PyData.depth, PyData.depthAll]
      omega
theorem shaped_list (js : List Nat) : SeqAt.shaped (.list (js.map oneD)) = true := by
  obtain ⟨h1, h2⟩ := shaped_ones js
  unfold SeqAt.shaped
  have h3 : PyData.depth (.list (js.map oneD)) ≤ 64 := by
    simp only [PyData.depth]
    omega
  rw [show PyData.canLay0 (.list (js.map oneD)) = true from h1, decide_eq_true h3]
  rfl
theorem small_of {t : Int} {m : Nat} (h : m ≤ 200) : small (tupD t (2 ^ m)) := fun u i e => by
  unfold tupD at e
  simp only [PyData.tuple.injEq, List.cons.injEq, PyData.int.injEq, and_true] at e
  have := pow_inj e.2
  omega
theorem small_zero : small (tupD 0 1) := small_of (m := 0) (by decide)
theorem plus_over (C D : Addr) (j : Nat) : plusO C D (tupD 1 (2 ^ 0)) (oneD j) = .err D "part" (oneD j) := by
  show plusO C D (tupD 1 (2 ^ 0)) (tupD 1 (2 ^ j)) = .err D "part" (tupD 1 (2 ^ j))
  unfold plusO
  rw [if_pos (one_part 0).ok, if_pos (one_part j).ok]
  show (if sumT 1 (2 ^ 0) 1 (2 ^ j) > sumB (2 ^ 0) (2 ^ j) then _ else _) = _
  rw [if_pos]
  rw [sumB_pow, sumT_eq]
  have e : max 0 j = j := by omega
  rw [e]
  have := pos2 (j - 0)
  simp only [Nat.sub_zero, Nat.sub_self]
  omega
theorem plus_whole (C D : Addr) : plusO C D (tupD 1 (2 ^ 0)) (tupD 0 1) = .ret (tupD 1 (2 ^ 0)) := by
  unfold plusO
  rw [if_pos (one_part 0).ok, if_pos (show isPartD (tupD 0 1) = true by decide +kernel)]
  rfl
theorem ix_nat {n k : Nat} (h : k < n) : seqIndex? (k : Int) n = some k := by
  simp only [seqIndex?]
  rw [if_neg (show ¬ (k : Int) < 0 by omega), if_pos (by simp; omega)]
  simp
theorem noDict_ones : ∀ js : List Nat, PyData.hasDictAll (js.map oneD) = false
  | [] => rfl
  | j :: js => by
    show (PyData.hasDict (oneD j) || PyData.hasDictAll (js.map oneD)) = false
    rw [noDict_ones js]
    rfl
theorem eqv_ones (js : List Nat) : PyData.eqv (.list (js.map oneD)) (.list (js.map oneD)) = true := SeqAt.eqv_refl _ (shaped_ones js).1
theorem cut_pre (xs : List V) (k : Nat) (h : k ≤ xs.length) : cutV xs none (some (k : Int)) = xs.take k := by
  unfold cutV
  rw [HT.sIx_none, HT.sIx_nat, Nat.min_eq_left h, List.drop_zero, Nat.sub_zero]
theorem cut_post (xs : List V) (k : Nat) (h : k + 1 ≤ xs.length) : cutV xs (some ((k : Int) + 1)) none = xs.drop (k + 1) := by
  unfold cutV
  rw [HT.sIx_none, show ((k : Int) + 1) = ((k + 1 : Nat) : Int) by omega, HT.sIx_nat, Nat.min_eq_left h, List.take_of_length_le (by rw [List.length_drop]; omega)]
include T in
theorem okLaw {f : Addr} {fd : FuncData} (F : Fun K "law" "law" sLaw f fd) : GR.FnG P w K mg bs CX0 9 f fd ["_law_script"] (spLaw K) := by
  have GLawBag := okLawBag (P := P) (w := w) (bs := bs) T
  have GLawTake := okLawTake (P := P) (w := w) (bs := bs) T
  have GHalf := okHalf (P := P) (w := w) (bs := bs) T
  have GPlus := okPlus (P := P) (w := w) (bs := bs) T
  have GLawPlus := okLawPlus (P := P) (w := w) (bs := bs) T
  have GLawHalf := okLawHalf (P := P) (w := w) (bs := bs) T
  have GIsPart := okIsPart (P := P) (w := w) (bs := bs) T
  have GPartText := okPartText (P := P) (w := w) (bs := bs) T
  have GReadPart := okReadPart (P := P) (w := w) (bs := bs) T
  have GLawTooMuch := okLawTooMuch (P := P) (w := w) (bs := bs) T
  refine GR.okG F scLaw (fun vs H Q E h => ?_) (fun cdv A outer s H vs Q E gd hr h => ?_)
  · obtain ⟨a, ns, rfl, _⟩ := h
    rfl
  · obtain ⟨a, ns, rfl, hS, hlen, hbits, q⟩ := h
    refine ⟨_, (pss_cons (ps_for PassesOwn.never rfl (pi_range1 (by rfl) T.n_range (pa_cons (pe_callB (call_max2 rfl) (by rfl) T.n_max (by decide +kernel) (pa_cons pe_int (pa_cons (pe_callB (call_min2 rfl) (by rfl) T.n_min (by decide +kernel) (pa_cons pe_int (pa_cons (pe_callB call_len_seq (by rfl) T.n_len PySem.boot_len (pa_cons (pv 0) pa_nil)) pa_nil))) pa_nil))) pa_nil)) (pg_name (i := 1) scLaw.nd rfl (Or.inl rfl))
      (pss_cons (ps_set (i := 2) scLaw.nd rfl (Or.inl rfl) (pe_call GLawBag (hr.mono (by decide)) (by rfl) T.gLawBag T.FLawBag.kp T.bLawBag .nil pass0 (pa_cons (pv 0) (pa_cons (pv 1) pa_nil))))
      (pss_cons (ps_set (i := 3) scLaw.nd rfl (Or.inl rfl) (GR.pe_ex (r := fun M => (GR.rLstD (GR.rConsD (GR.rTupD (GR.rConsD (fun _ _ d => d = PyData.int (1)) (GR.rConsD (fun _ _ d => d = PyData.int (1)) GR.rNilD))) GR.rNilD))) (fun M => (GR.pd_lst M (GR.pds_cons M (GR.pd_tup M (GR.pds_cons M (GR.pd_int M) (GR.pds_cons M (GR.pd_int M) (GR.pds_nil M)))) (GR.pds_nil M))))))
      (pss_cons (ps_for PassesOwn.never rfl (pi_range1 (by rfl) T.n_range (pa_cons (GR.pe_cut (pe_ix ix_list (pe_lst (pa_cons (pe_call GLawTake (hr.mono (by decide)) (by rfl) T.gLawTake T.FLawTake.kp T.bLawTake .nil pass0 (pa_cons (pv 2) (pa_cons pe_int pa_nil))) (pa_cons (pe_op op_add pe_int (pe_call GLawTake (hr.mono (by decide)) (by rfl) T.gLawTake T.FLawTake.kp T.bLawTake .nil pass0 (pa_cons (pv 2) (pa_cons pe_int pa_nil)))) pa_nil))) (pe_call GLawTake (hr.mono (by decide)) (by rfl) T.gLawTake T.FLawTake.kp T.bLawTake .nil pass0 (pa_cons (pv 2) (pa_cons pe_int pa_nil))) (fun _ _ => rfl))) pa_nil)) (pg_name (i := 4) scLaw.nd rfl (Or.inl rfl))
      (pss_cons (ps_set (i := 5) scLaw.nd rfl (Or.inl rfl) (GR.pe_cut (pe_ix ix_list (pe_lst (pa_cons pe_int (pa_cons (pe_op op_sub (pe_callB call_len_seq (by rfl) T.n_len PySem.boot_len (pa_cons (pv 3) pa_nil)) pe_int) (pa_cons (pe_call GLawTake (hr.mono (by decide)) (by rfl) T.gLawTake T.FLawTake.kp T.bLawTake .nil pass0 (pa_cons (pv 2) (pa_cons (pe_callB call_len_seq (by rfl) T.n_len PySem.boot_len (pa_cons (pv 3) pa_nil)) pa_nil))) pa_nil)))) (pe_call GLawTake (hr.mono (by decide)) (by rfl) T.gLawTake T.FLawTake.kp T.bLawTake .nil pass0 (pa_cons (pv 2) (pa_cons pe_int pa_nil))) (fun _ _ => rfl))))
      (pss_cons (ps_set (i := 6) scLaw.nd rfl (Or.inl rfl) (GR.pe_ex (r := fun M => (GR.rCallD _ (GR.rConsD (GR.rIxLD (GR.rVar M K 3) (GR.rVar M K 5)) GR.rNilD))) (fun M => (GR.pd_callE M GHalf (hr.mono (by decide)) T.gHalf T.FHalf.kp T.bHalf (GR.pds_cons M (GR.pd_ixL M (GR.pd_var M 3) (GR.pd_var M 5)) (GR.pds_nil M))))))
      (pss_cons (ps_if (GR.pt_ex (r := fun M => (GR.rOrB (GR.rBool (GR.rEqv true (GR.rVar M K 6) (GR.rCallD _ (GR.rConsD (GR.rIxLD (GR.rVar M K 3) (GR.rVar M K 5)) GR.rNilD)))) (GR.rNotB (GR.rBool (GR.rCallD _ (GR.rConsD (GR.rVar M K 6) GR.rNilD)))))) (fun M => (GR.PBW.pb M (GR.pbw_or M (GR.pb_ne M hr (GR.pd_var M 6) (GR.pd_call M GLawHalf (hr.mono (by decide)) T.gLawHalf T.FLawHalf.kp T.bLawHalf (GR.pds_cons M (GR.pd_ixL M (GR.pd_var M 3) (GR.pd_var M 5)) (GR.pds_nil M)))) (GR.pbw_or1 M (GR.pb_not M (GR.pb_val M (GR.pd_call M GIsPart (hr.mono (by decide)) T.gIsPart T.FIsPart.kp T.bIsPart (GR.pds_cons M (GR.pd_var M 6) (GR.pds_nil M)))))))))) (pss_one (ps_ret pe_bl)) pss_nil)
      (pss_one (ps_set (i := 3) scLaw.nd rfl (Or.inl rfl) (GR.pe_cut (pe_op op_cat (pe_op op_cat (pe_slice sl_list (pv 3) po_none (po_some (pv 5))) (pe_lst (pa_cons (pv 6) (pa_cons (pv 6) pa_nil)))) (pe_slice sl_list (pv 3) (po_some (pe_op op_add (pv 5) pe_int)) po_none)))))))))
      (pss_cons (ps_if (GR.pt_ex (r := fun M => (GR.rBool (GR.rEqv true (GR.rLc K PyData.list 9 (GR.rVar M K 3) (fun M' => (GR.rCallD _ (GR.rConsD (GR.rCallD _ (GR.rConsD (GR.rVar M' K 9) GR.rNilD)) GR.rNilD)))) (GR.rVar M K 3)))) (fun M => (GR.pb_ne M hr (GR.pd_lcL M (i := 9) (r := fun M' => (GR.rCallD _ (GR.rConsD (GR.rCallD _ (GR.rConsD (GR.rVar M' K 9) GR.rNilD)) GR.rNilD))) (by rfl) scLaw.nd (GR.pd_var M 3) (blkOk_by (own := [("_law_part", 9)]) (N := ["_law_script", "_law_k", "_law_bag_here", "_law_parts", "_law_turn", "_law_at", "_law_less", "_law_total", "_law_left", "_law_part", "_law_found"]) (sc := defScope sLaw) (by first | decide +kernel | kernel_rfl | rfl)) (fun _ _ _ _ _ => (pg_name (i := 9) scLaw.nd rfl (Or.inl rfl))) (fun M' _ _ _ _ _ => by exact (GR.pd_callE M' GReadPart (hr.mono (by decide)) T.gReadPart T.FReadPart.kp T.bReadPart (GR.pds_cons M' (GR.pd_callE M' GPartText (hr.mono (by decide)) T.gPartText T.FPartText.kp T.bPartText (GR.pds_cons M' (GR.pd_var M' 9) (GR.pds_nil M'))) (GR.pds_nil M'))))) (GR.pd_var M 3)))) (pss_one (ps_ret pe_bl)) pss_nil)
      (pss_cons (ps_par (i := 7) (j := 8) (by rfl) scLaw.nd rfl rfl (by decide) rfl rfl (pa_cons (GR.pe_ex (r := fun M => (GR.rTupD (GR.rConsD (fun _ _ d => d = PyData.int (0)) (GR.rConsD (fun _ _ d => d = PyData.int (1)) GR.rNilD)))) (fun M => (GR.pd_tup M (GR.pds_cons M (GR.pd_int M) (GR.pds_cons M (GR.pd_int M) (GR.pds_nil M)))))) (pa_cons (pe_callTy call_list_of (by rfl) T.n_list (by decide +kernel) (pa_cons (pv 3) pa_nil)) pa_nil)) (by rfl))
      (pss_cons (ps_while PassesOwn.never (GR.pt_cut (pt_cmpR (op_neD hr.units) (pv 8) (pe_lst pa_nil) (nomark _))) (pss_cons (ps_set (i := 9) scLaw.nd rfl (Or.inl rfl) (pe_bm PySem.F.plainAttrs_list PySem.F.slot_list_pop PySem.F.type_list_pop mt_popAt (pv 8) (pa_cons (pe_call GLawTake (hr.mono (by decide)) (by rfl) T.gLawTake T.FLawTake.kp T.bLawTake .nil pass0 (pa_cons (pv 2) (pa_cons (pe_callB call_len_seq (by rfl) T.n_len PySem.boot_len (pa_cons (pv 8) pa_nil)) pa_nil))) pa_nil)))
      (pss_cons (ps_set (i := 10) scLaw.nd rfl (Or.inl rfl) (GR.pe_ex (r := fun M => (GR.rCallD _ (GR.rConsD (GR.rVar M K 7) (GR.rConsD (GR.rVar M K 9) GR.rNilD)))) (fun M => (GR.pd_callE M GPlus (hr.mono (by decide)) T.gPlus T.FPlus.kp T.bPlus (GR.pds_cons M (GR.pd_var M 7) (GR.pds_cons M (GR.pd_var M 9) (GR.pds_nil M)))))))
      (pss_cons (ps_if (GR.pt_ex (r := fun M => (GR.rBool (GR.rEqv true (GR.rVar M K 10) (GR.rCallD _ (GR.rConsD (GR.rVar M K 7) (GR.rConsD (GR.rVar M K 9) GR.rNilD)))))) (fun M => (GR.pb_ne M hr (GR.pd_var M 10) (GR.pd_call M GLawPlus (hr.mono (by decide)) T.gLawPlus T.FLawPlus.kp T.bLawPlus (GR.pds_cons M (GR.pd_var M 7) (GR.pds_cons M (GR.pd_var M 9) (GR.pds_nil M))))))) (pss_one (ps_ret pe_bl)) pss_nil)
      (pss_one (ps_set (i := 7) scLaw.nd rfl (Or.inl rfl) (pv 10)))))))
      (pss_cons (ps_if (GR.pt_ex (r := fun M => (GR.rOrB (GR.rBool (GR.rEqv true (GR.rVar M K 7) (GR.rTupD (GR.rConsD (fun _ _ d => d = PyData.int (1)) (GR.rConsD (fun _ _ d => d = PyData.int (1)) GR.rNilD))))) (GR.rBool (GR.rEqv true (GR.rCallD _ (GR.rConsD (GR.rVar M K 7) (GR.rConsD (GR.rTupD (GR.rConsD (fun _ _ d => d = PyData.int (0)) (GR.rConsD (fun _ _ d => d = PyData.int (1)) GR.rNilD))) GR.rNilD))) (GR.rTupD (GR.rConsD (fun _ _ d => d = PyData.int (1)) (GR.rConsD (fun _ _ d => d = PyData.int (1)) GR.rNilD))))))) (fun M => (GR.PBW.pb M (GR.pbw_or M (GR.pb_ne M hr (GR.pd_var M 7) (GR.pd_tup M (GR.pds_cons M (GR.pd_int M) (GR.pds_cons M (GR.pd_int M) (GR.pds_nil M))))) (GR.pbw_or1 M (GR.pb_ne M hr (GR.pd_callE M GPlus (hr.mono (by decide)) T.gPlus T.FPlus.kp T.bPlus (GR.pds_cons M (GR.pd_var M 7) (GR.pds_cons M (GR.pd_tup M (GR.pds_cons M (GR.pd_int M) (GR.pds_cons M (GR.pd_int M) (GR.pds_nil M)))) (GR.pds_nil M)))) (GR.pd_tup M (GR.pds_cons M (GR.pd_int M) (GR.pds_cons M (GR.pd_int M) (GR.pds_nil M)))))))))) (pss_one (ps_ret pe_bl)) pss_nil)
      (pss_one (ps_if (pt_not (pt_val (pe_call GLawTooMuch (hr.mono (by decide)) (by rfl) T.gLawTooMuch T.FLawTooMuch.kp T.bLawTooMuch .nil pass0 (pa_cons (pv 7) (pa_cons (pe_ix ix_list (pv 3) (pe_call GLawTake (hr.mono (by decide)) (by rfl) T.gLawTake T.FLawTake.kp T.bLawTake .nil pass0 (pa_cons (pv 2) (pa_cons (pe_callB call_len_seq (by rfl) T.n_len PySem.boot_len (pa_cons (pv 3) pa_nil)) pa_nil))) (fun _ _ => rfl)) pa_nil))))) (pss_one (ps_ret pe_bl)) pss_nil))))))))))
      (pss_one (ps_ret pe_bl))), ?_⟩
    refine ⟨_, rfl, a, _, rfl, .inl hS, _, _, rfl, _, _, rfl, ?_⟩
    obtain ⟨k, hk, ek⟩ := few (ns.map V.int).length
    refine ⟨(k : Int), congrArg (fun z => [V.int z]) ek, by omega, by omega, ?_⟩
    refine for_range (lo := 0) (n := ((k : Nat) : Int).toNat) (fun i σ H1 => ∃ v1 v2 v3 v4 v5 v6 v7 v8 v9 v10, σ = [some (.ref a), v1, v2, v3, v4, v5, v6, v7, v8, v9, v10] ∧ Same H H1) ⟨_, _, _, _, _, _, _, _, _, _, rfl, Same.refl H⟩ ?_ ?_
    · rintro i σ H1 hi ⟨v1, v2, v3, v4, v5, v6, v7, v8, v9, v10, rfl, s1⟩
      rw [Int.toNat_natCast] at hi
      refine ⟨_, rfl, _, rfl, a, ns, _, rfl, s1.seq hS, hlen, hbits, by omega, by omega, fun H2 b s2 nb hb => ?_⟩
      have nb0 : H b = none := s1.free nb
      have s12 := s1.trans s2
      -- parts = [(1, 1)]
      refine ⟨GR.onlyB b, hb.live, .list [oneD 0], ⟨[oneD 0], ⟨_, [], ⟨[.int 1, .int 1], ⟨_, [.int 1], rfl, ⟨_, [], rfl, rfl, rfl⟩, rfl⟩, (by show 2 ≤ 1000; decide), rfl⟩, rfl, rfl⟩, (by show 1 ≤ 1000; decide), rfl⟩, fun H3 vp f3 dp => ?_⟩
      have hb3 := hb.same f3
      have hMb : (GR.onlyB b) b := rfl
      -- how many turns
      refine ⟨fun v H4 => ∃ n : Nat, n ≤ 149 ∧ v = .int n ∧ GR.Bag H4 b ∧ GR.Fx (GR.onlyB b) H3 H4, ?_, ?_⟩
      · refine ⟨_, rfl, b, 41, rfl, hb3, by decide, by decide, fun r1 H4 r10 r11 hb4 f4 => ?_⟩
        refine ⟨_, rfl, b, 90, rfl, hb4, by decide, by decide, fun r2 H5 r20 r21 hb5 f5 => ⟨_, _, rfl, rfl, (by show 2 ≤ sizeLine; decide), fun l nl => ?_⟩⟩
        have hb6 := hb5.same (GR.same_upd (o := .lst [.int r1, .int (60 + r2)]) nl)
        refine ⟨_, rfl, b, 2, rfl, hb6, by decide, by decide, fun r3 H7 r30 r31 hb7 f7 => ?_⟩
        have nlb : l ≠ b := by
          intro e
          subst e
          obtain ⟨_, _, e, _⟩ := hb5
          rw [nl] at e
          cases e
        have hl7 : H7 l = some (.lst [.int r1, .int (60 + r2)]) := by rw [f7 l nlb, upd_same]
        have fx : GR.Fx (GR.onlyB b) H3 H7 := (((f4.fx hMb hb4).trans (f5.fx hMb hb5)).trans (.new nl)).trans (f7.fx hMb hb7)
        have c : r3 = 0 ∨ r3 = 1 := by omega
        rcases c with rfl | rfl
        · exact ⟨l, _, _, _, rfl, rfl, SqL.of hl7, atI_nat (j := 0) rfl, r1.toNat, by omega, congrArg V.int (by omega), hb7, fx⟩
        · exact ⟨l, _, _, _, rfl, rfl, SqL.of hl7, atI_nat (j := 1) rfl, (60 + r2).toNat, by omega, congrArg V.int (by omega), hb7, fx⟩
      rintro _ H4 ⟨n, hn, rfl, hb4, f4⟩
      refine ⟨(n : Int), rfl, by omega, by omega, ?_⟩
      refine for_range (lo := 0) (n := ((n : Nat) : Int).toNat) (fun i' σ H5 => ∃ (vp : V) (w4 w5 w6 : Option V) (js : List Nat), σ = [some (.ref a), some (.int (0 + (i : Nat))), some (.ref b), some vp, w4, w5, w6, v7, v8, v9, v10] ∧ GR.Dt (GR.onlyB b) K H5 vp (.list (js.map oneD)) ∧ js.length = i' + 1 ∧ (∀ j ∈ js, j ≤ i') ∧ wsum js = 2 ^ 200 ∧ GR.Bag H5 b ∧ GR.Fx (GR.onlyB b) H2 H5)
        ⟨vp, _, _, _, [0], rfl, dp.fx f4, rfl, fun j hj => by simpa using hj, by decide +kernel, hb4, (GR.Fx.of f3).trans f4⟩ ?_ ?_
      · rintro tn σ H5 htn ⟨vp, w4, w5, w6, js, rfl, dp5, hjl, hjs, hsum, hb5, fx5⟩
        rw [Int.toNat_natCast] at htn
        obtain ⟨p, xs, rfl, sx, dxs⟩ := GR.dt_list dp5
        have hxl : xs.length = js.length := by rw [dxs.len, List.length_map]
        -- at
        refine ⟨fun v H6 => ∃ at_ : Nat, at_ < js.length ∧ v = .int at_ ∧ GR.Bag H6 b ∧ GR.Fx (GR.onlyB b) H5 H6, ?_, ?_⟩
        · refine ⟨_, rfl, p, xs, rfl, .inl sx.sq, _, _, rfl, rfl, ?_⟩
          refine ⟨_, rfl, _, rfl, p, xs, rfl, .inl sx.sq, b, _, rfl, hb5, (by show (0 : Int) < (xs.length : Int); omega), ?_, fun r1 H6 r10 r11 hb6 f6 => ?_⟩
          · exact Nat.lt_of_lt_of_le (show ((xs.length : Nat) : Int).natAbs < 2 ^ 10 by omega) (Nat.pow_le_pow_right (by decide) (by decide))
          refine ⟨(by show 3 ≤ sizeLine; decide), fun l nl => ?_⟩
          have hb7 := hb6.same (GR.same_upd (o := .lst [.int 0, .int ((xs.length : Int) - 1), .int r1]) nl)
          refine ⟨_, rfl, b, 3, rfl, hb7, by decide, by decide, fun r3 H8 r30 r31 hb8 f8 => ?_⟩
          have nlb : l ≠ b := by
            intro e
            subst e
            obtain ⟨_, _, e, _⟩ := hb6
            rw [nl] at e
            cases e
          have hl8 : H8 l = some (.lst [.int 0, .int ((xs.length : Int) - 1), .int r1]) := by rw [f8 l nlb, upd_same]
          have fx : GR.Fx (GR.onlyB b) H5 H8 := ((f6.fx hMb hb6).trans (.new nl)).trans (f8.fx hMb hb8)
          have c : r3 = 0 ∨ r3 = 1 ∨ r3 = 2 := by omega
          rcases c with rfl | rfl | rfl
          · exact ⟨l, _, _, _, rfl, rfl, SqL.of hl8, atI_nat (j := 0) rfl, 0, by omega, rfl, hb8, fx⟩
          · exact ⟨l, _, _, _, rfl, rfl, SqL.of hl8, atI_nat (j := 1) rfl, js.length - 1, by omega, congrArg V.int (by omega), hb8, fx⟩
          · exact ⟨l, _, _, _, rfl, rfl, SqL.of hl8, atI_nat (j := 2) rfl, r1.toNat, by omega, congrArg V.int (by omega), hb8, fx⟩
        rintro _ H6 ⟨at_, hat, rfl, hb6, f6⟩
        have dp6 := dp5.fx f6
        obtain ⟨jj, hjj⟩ : ∃ jj, js[at_]? = some jj := ⟨_, List.getElem?_eq_getElem hat⟩
        have hjj2 : jj ≤ 149 := Nat.le_trans (hjs jj (List.mem_of_getElem? hjj)) (by omega)
        have rp : ∀ {Hx : Hp} {w6 : Option V}, Same H6 Hx → GR.rIxLD (GR.rVar (GR.onlyB b) K 3) (GR.rVar (GR.onlyB b) K 5) [some (.ref a), some (.int (0 + (i : Nat))), some (.ref b), some (.ref p), some (.int (0 + (tn : Nat))), some (.int at_), w6, v7, v8, v9, v10] Hx (oneD jj) := fun sx => ⟨_, _, ⟨_, rfl, dp6.sm sx⟩, ⟨_, rfl, .int _⟩, atI_nat (j := at_) (by rw [List.getElem?_map, hjj]; rfl)⟩
        -- less = half(parts[at])
        refine ⟨GR.onlyB b, hb6.live, oneD (jj + 1), ⟨[_], ⟨_, [], rp (Same.refl H6), rfl, rfl⟩, _, rfl, (halfO_one _ jj).symm⟩, fun H7 vl f7 dl => ?_⟩
        have hb7 := hb6.same f7
        -- the test
        refine ⟨GR.onlyB b, hb7.live, false, ⟨false, ⟨oneD (jj + 1), oneD (jj + 1), ⟨_, rfl, dl⟩, ⟨[_], ⟨_, [], rp f7, rfl, rfl⟩, 1, 2 ^ jj, rfl, ?_⟩, rfl, rfl, ?_⟩, iteF ⟨[_], ⟨_, [], ⟨_, rfl, dl⟩, rfl, rfl⟩, _, rfl, ?_⟩⟩, fun H8 f8 => iteF ?_⟩
        · show oneD (jj + 1) = tupD 1 (2 * 2 ^ jj)
          unfold oneD
          rw [Int.pow_succ, Int.mul_comm]
        · show PyData.bool false = PyData.bool (!((1 : Int) == 1 && ((2 : Int) ^ (jj + 1) == 2 ^ (jj + 1) && true)))
          rw [beq_self_eq_true, beq_self_eq_true]
          rfl
        · exact congrArg PyData.bool (one_part (jj + 1)).ok.symm
        have hb8 := hb7.same f8
        have hL8 := hb8.live
        have dxs8 := ((dxs.fx f6).sm f7).sm f8
        have sq8 : SqL K H8 p xs := ((sx.fx f6).fx (.of (f7.trans f8))).sq
        have dl8 := dl.sm f8
        have key : ∀ Hx, Same H8 Hx → GR.DtAll (GR.onlyB b) K Hx (cutV xs none (some (at_ : Int)) ++ [vl, vl] ++ cutV xs (some ((at_ : Int) + 1)) none) ((js.take at_ ++ [jj + 1, jj + 1] ++ js.drop (at_ + 1)).map oneD) := fun Hx sx9 => by
          rw [cut_pre xs at_ (by omega), cut_post xs at_ (by omega), List.map_append, List.map_append, List.map_take, List.map_drop]
          have d9 := dxs8.sm sx9
          have dl9 := dl8.sm sx9
          exact (((d9.take at_).append (.cons dl9 (.cons dl9 .nil))).append (d9.drop (at_ + 1)))
        -- parts = parts[:at] + [less, less] + parts[at + 1:]
        refine ⟨fun v H9 => GR.Dt (GR.onlyB b) K H9 v (.list ((js.take at_ ++ [jj + 1, jj + 1] ++ js.drop (at_ + 1)).map oneD)) ∧ Same H8 H9, ?_, ?_⟩
        · refine ⟨_, rfl, _, rfl, _, rfl, p, xs, rfl, sq8, fun p1 n1 => ?_⟩
          refine ⟨_, rfl, _, rfl, (by show 2 ≤ sizeLine; decide), fun p2 n2 => ?_⟩
          have n21 : p1 ≠ p2 := fun e => by
            rw [← e, upd_same] at n2
            cases n2
          refine ⟨p1, p2, _, _, rfl, rfl, (by rw [upd_ne n21]; exact upd_same), upd_same, ?_, fun p3 n3 => ?_⟩
          · rw [cut_pre xs at_ (by omega), List.length_take]
            exact Nat.le_trans (show min at_ xs.length + 2 ≤ 1000 by omega) (by decide)
          have s3 : Same H8 _ := ((GR.same_upd n1).trans (GR.same_upd n2)).trans (GR.same_upd (o := .lst (cutV xs none (some (at_ : Int)) ++ [vl, vl])) n3)
          refine ⟨_, rfl, _, rfl, _, _, rfl, rfl, _, rfl, p, xs, rfl, s3.seq sq8, fun p4 n4 => ?_⟩
          have n43 : p3 ≠ p4 := fun e => by
            rw [← e, upd_same] at n4
            cases n4
          refine ⟨p3, p4, _, _, rfl, rfl, (by rw [upd_ne n43]; exact upd_same), upd_same, ?_, fun p5 n5 => ?_⟩
          · rw [cut_pre xs at_ (by omega), cut_post xs at_ (by omega), List.length_append, List.length_take, List.length_drop]
            exact Nat.le_trans (show min at_ xs.length + 2 + (xs.length - (at_ + 1)) ≤ 1000 by omega) (by decide)
          have s5 : Same H8 _ := (s3.trans (GR.same_upd (o := .lst (cutV xs (some ((at_ : Int) + 1)) none)) n4)).trans (GR.same_upd (o := .lst (cutV xs none (some (at_ : Int)) ++ [vl, vl] ++ cutV xs (some ((at_ : Int) + 1)) none)) n5)
          refine ⟨.lst (.new ?_) ?_, s5⟩
          · exact (hL8.same (s3.trans (GR.same_upd (o := .lst (cutV xs (some ((at_ : Int) + 1)) none)) n4))).ne n5
          · exact key _ s5
        rintro v H9 ⟨d9, s9⟩
        refine ⟨v, _, _, _, _, rfl, d9, ?_, ?_, ?_, hb8.same s9, ((fx5.trans f6).trans (.of (f7.trans f8))).trans (.of s9)⟩
        · rw [List.length_append, List.length_append, List.length_take, List.length_drop]
          show min at_ js.length + 2 + (js.length - (at_ + 1)) = tn + 1 + 1
          omega
        · intro j hj
          have hj1 := hjs jj (List.mem_of_getElem? hjj)
          rcases List.mem_append.mp hj with hj | hj
          · rcases List.mem_append.mp hj with hj | hj
            · exact Nat.le_succ_of_le (hjs j (List.mem_of_mem_take hj))
            · simp only [List.mem_cons, List.not_mem_nil, or_false, or_self] at hj
              omega
          · exact Nat.le_succ_of_le (hjs j (List.mem_of_mem_drop hj))
        · rw [wsum_half hjj (by omega), hsum]
      · rintro σ H5 ⟨vp, w4, w5, w6, js, rfl, dp5, hjl, hjs, hsum, hb5, fx5⟩
        rw [Int.toNat_natCast] at hjl hjs
        have hj149 : ∀ j ∈ js, j ≤ 149 := fun j hj => Nat.le_trans (hjs j hj) hn
        -- read back
        refine ⟨GR.onlyB b, hb5.live, false, ⟨.list (js.map oneD), .list (js.map oneD), ⟨js.map oneD, js.map oneD, ⟨_, rfl, dp5⟩, by rw [List.length_map]; omega, rfl, fun M' k x e h1 h2 H' v sm dv => ?_, rfl⟩, ⟨_, rfl, dp5⟩, shaped_list js, shaped_list js, ?_⟩, fun H6 f6 => iteF ?_⟩
        · rw [h1] at h2
          cases h2
          rw [List.getElem?_map] at h1
          cases hk : js[k]? with
          | none => rw [hk] at h1; cases h1
          | some j =>
            rw [hk] at h1
            cases h1
            have hj := hj149 j (List.mem_of_getElem? hk)
            obtain ⟨_, _, _, _, _, hpl⟩ := ptext_split (j := j) (by omega)
            exact ⟨[.str (ptext 1 (2 ^ j))], ⟨_, [], ⟨[_], ⟨_, [], ⟨_, rfl, dv⟩, rfl, rfl⟩, _, rfl, small_one (by omega), (textO_one _ j).symm⟩, rfl, rfl⟩, _, rfl, fun z ez => by cases ez; exact ⟨ptext_ok _ _, hpl⟩, (read_back _ (by omega)).symm⟩
        · show PyData.bool false = PyData.bool (!PyData.eqv (.list (js.map oneD)) (.list (js.map oneD)))
          rw [eqv_ones js]
          rfl
        have hb6 := hb5.same f6
        have dp6 := dp5.sm f6
        -- total, left = (0, 1), list(parts)
        refine ⟨GR.onlyB b, hb6.live, tupD 0 (2 ^ 0), ⟨[.int 0, .int 1], ⟨_, [.int 1], rfl, ⟨_, [], rfl, rfl, rfl⟩, rfl⟩, (by show 2 ≤ 1000; decide), rfl⟩, fun H7 vt f7 dt => ?_⟩
        have hb7 := hb6.same f7
        obtain ⟨p, xs, rfl, sx, dxs⟩ := GR.dt_list (dp6.sm f7)
        refine ⟨_, rfl, p, xs, rfl, .inl sx.sq, fun l nl => ⟨_, _, rfl, ?_⟩⟩
        have s8 := GR.same_upd (o := .lst xs) nl
        have hlb : l ≠ b := by
          intro e
          subst e
          obtain ⟨_, _, e, _⟩ := hb7
          rw [nl] at e
          cases e
        have mono : ∀ c, (fun c => c = b ∨ c = l : GR.Mu) c → (GR.onlyB b) c ∨ H7 c = none := fun c z => z.elim (fun z => .inl z) (fun z => .inr (by rw [z]; exact nl))
        generalize hM2 : (fun c => c = b ∨ c = l : GR.Mu) = M2 at mono
        have m2b : M2 b := by rw [← hM2]; exact .inl rfl
        have m2l : M2 l := by rw [← hM2]; exact .inr rfl
        have m2i : ∀ c, M2 c → c = b ∨ c = l := fun c h => by rw [← hM2] at h; exact h
        have live2 : ∀ {Hx : Hp} {o : HO}, GR.Bag Hx b → Hx l = some o → GR.Live M2 Hx := fun hbx hlx m hm => by
          rcases m2i m hm with rfl | rfl
          · exact hbx.live _ rfl
          · rw [hlx]
            simp
        -- while left != []
        refine ⟨fun m σ H9 => ∃ (t : Int) (mm : Nat) (js' : List Nat) (lv : List V) (vt : V) (v9 v10 : Option V), m = js'.length ∧ σ = [some (.ref a), some (.int (0 + (i : Nat))), some (.ref b), some (.ref p), w4, w5, w6, some vt, some (.ref l), v9, v10] ∧ H9 l = some (.lst lv) ∧ GR.DtAll M2 K H9 lv (js'.map oneD) ∧
            GR.Dt M2 K H9 vt (tupD t (2 ^ mm)) ∧ PartN t mm ∧ mm ≤ 200 ∧ js'.length ≤ 150 ∧ (∀ j ∈ js', j ≤ 149) ∧ t * 2 ^ (200 - mm) + wsum js' = 2 ^ 200 ∧ GR.Bag H9 b ∧ GR.Dt M2 K H9 (.ref p) (.list (js.map oneD)) ∧ GR.Fx M2 (upd H7 l (.lst xs)) H9,
          ⟨js.length, 0, 0, js, xs, vt, _, _, rfl, rfl, upd_same, (dxs.more mono).sm s8, (dt.more mono).sm s8, ⟨by decide, by decide, .inl rfl⟩, by decide, by omega, hj149, by rw [Int.zero_mul, Int.zero_add, hsum], hb7.same s8, ((dp6.sm f7).more mono).sm s8, .refl _ _⟩, ?_⟩
        rintro m σ H9 ⟨t, mm, js', lv, vt, v9, v10, rfl, rfl, hl9, dl9, dt9, pn, hmm, hjl', hj', hs9, hb9, dp9, fx9⟩
        have hL9 := live2 hb9 hl9
        have hlvl : lv.length = js'.length := by rw [dl9.len, List.length_map]
        refine ⟨fun c H' => Same H9 H' ∧ c = !js'.isEmpty, ?_, ?_⟩
        · refine ⟨_, rfl, (by show 0 ≤ sizeLine; decide), fun p0 n0 => ?_⟩
          have s0 := GR.same_upd (o := .lst []) n0
          refine ⟨.list (js'.map oneD), .list [], .lst (SqL.of (s0 _ _ hl9)) ((dl9.sm s0).dp (noDict_ones js')), .lst (SqL.of upd_same) .nil, shaped_list js', rfl, _, rfl, s0, ?_⟩
          cases js' <;> rfl
        rintro _ H10 ⟨s10, rfl⟩
        have hl10 := s10 _ _ hl9
        have hb10 := hb9.same s10
        cases js' with
        | nil =>
          refine iteF ?_
          rw [wsum_nil, Int.add_zero] at hs9
          obtain ⟨rfl, rfl⟩ := whole_of pn hmm hs9
          have dt10 := dt9.sm s10
          have dp10 := dp9.sm s10
          have hL10 := hL9.same s10
          have r1 : ∀ {Hx : Hp} {σ : L2.St}, GR.rTupD (GR.rConsD (fun _ _ d => d = PyData.int (1)) (GR.rConsD (fun _ _ d => d = PyData.int (1)) GR.rNilD)) σ Hx (tupD 1 (2 ^ 0)) := ⟨[.int 1, .int 1], ⟨_, [.int 1], rfl, ⟨_, [], rfl, rfl, rfl⟩, rfl⟩, (by show 2 ≤ 1000; decide), rfl⟩
          -- total is the whole
          refine ⟨M2, hL10, false, ⟨false, ⟨tupD 1 (2 ^ 0), tupD 1 (2 ^ 0), ⟨_, rfl, dt10⟩, r1, rfl, rfl, rfl⟩, iteF ⟨tupD 1 (2 ^ 0), tupD 1 (2 ^ 0), ⟨[_, tupD 0 1], ⟨_, [_], ⟨_, rfl, dt10⟩, ⟨_, [], ⟨[.int 0, .int 1], ⟨_, [.int 1], rfl, ⟨_, [], rfl, rfl, rfl⟩, rfl⟩, (by show 2 ≤ 1000; decide), rfl⟩, rfl, rfl⟩, rfl⟩, _, _, rfl, small_one (j := 0) (by decide), small_zero, (plus_whole _ _).symm⟩, r1, rfl, rfl, rfl⟩⟩, fun H11 f11 => iteF ?_⟩
          have s11 := s10.trans f11
          have hb11 := hb9.same s11
          obtain ⟨p', xs', ep, sx11, dxs11⟩ := GR.dt_list (dp9.sm s11)
          cases ep
          have hxl : xs'.length = js.length := by rw [dxs11.len, List.length_map]
          refine ⟨_, rfl, _, rfl, _, rfl, _, rfl, p, xs', rfl, .inl sx11.sq, b, _, rfl, hb11, (by show (0 : Int) < (xs'.length : Int); omega), ?_, fun r H12 r0 r1' hb12 f12 => ?_⟩
          · exact Nat.lt_of_lt_of_le (show ((xs'.length : Nat) : Int).natAbs < 2 ^ 10 by omega) (Nat.pow_le_pow_right (by decide) (by decide))
          have fx12 : GR.Fx M2 H11 H12 := f12.fx m2b hb12
          obtain ⟨kk, rfl⟩ : ∃ kk : Nat, r = (kk : Int) := ⟨r.toNat, by omega⟩
          obtain ⟨jj, hjj⟩ : ∃ jj, js[kk]? = some jj := ⟨_, List.getElem?_eq_getElem (show kk < js.length by omega)⟩
          have hjj2 := hj149 jj (List.mem_of_getElem? hjj)
          obtain ⟨y, ey, dy⟩ := (dxs11.fx fx12).get (i := kk) (d := oneD jj) (by rw [List.getElem?_map, hjj]; rfl)
          have dt12 := (dt9.sm s11).fx fx12
          refine ⟨p, xs', _, y, rfl, rfl, (sx11.fx fx12).sq, atI_nat ey, M2, [tupD 1 (2 ^ 0), oneD jj], .bool true, fx12.live (hL9.same s11), .cons dt12 (.cons dy .nil), ⟨_, _, rfl, small_one (j := 0) (by decide), small_one (by omega), rfl, SeqAt.eqv_refl _ rfl, plus_over _ _ jj, rfl⟩, fun H13 u f13 du => ?_⟩
          refine ⟨true, GR.dt_bl du, iteF ?_⟩
          refine ⟨_, _, _, _, _, _, _, _, _, _, rfl, fun c o hc => ?_⟩
          have hcb : c ≠ b := fun e => by rw [e, nb0] at hc; cases hc
          have h7 : H7 c = some o := f7 _ _ (f6 _ _ (fx5.keep c o hcb (s12 _ _ hc)))
          have hcl : c ≠ l := fun e => by rw [e, nl] at h7; cases h7
          have hm : ¬ M2 c := fun z => (m2i c z).elim hcb hcl
          exact f13 _ _ (fx12.keep c o hm (s11 _ _ (fx9.keep c o hm (s8 _ _ h7))))
        | cons j0 js0 =>
          generalize hJ : j0 :: js0 = js' at *
          have hpos : 0 < js'.length := by rw [← hJ]; simp
          rw [show js'.isEmpty = false by rw [← hJ]; rfl]
          refine iteT ?_
          -- part = left.pop(take(bag, len(left)))
          refine ⟨_, fun σ' H' h => h, ?_⟩
          refine ⟨_, rfl, .inl ⟨rfl, _, SqL.of hl10⟩, _, rfl, _, rfl, l, lv, rfl, .inl (SqL.of hl10), b, _, rfl, hb10, (by show (0 : Int) < (lv.length : Int); omega), ?_, fun r H11 r0 r1 hb11 f11 => ?_⟩
          · exact Nat.lt_of_lt_of_le (show ((lv.length : Nat) : Int).natAbs < 2 ^ 10 by omega) (Nat.pow_le_pow_right (by decide) (by decide))
          have fx11 : GR.Fx M2 H10 H11 := f11.fx m2b hb11
          obtain ⟨kk, rfl⟩ : ∃ kk : Nat, r = (kk : Int) := ⟨r.toNat, by omega⟩
          obtain ⟨jj, hjj⟩ : ∃ jj, js'[kk]? = some jj := ⟨_, List.getElem?_eq_getElem (show kk < js'.length by omega)⟩
          have hjj2 := hj' jj (List.mem_of_getElem? hjj)
          have dl11 := (dl9.sm s10).fx fx11
          obtain ⟨y, ey, dy⟩ := dl11.get (i := kk) (d := oneD jj) (by rw [List.getElem?_map, hjj]; rfl)
          have hk3 : kk < lv.length := by omega
          have hk1 := ix_nat hk3
          have hk2 := ey
          have hl11 : H11 l = some (.lst lv) := by rw [f11 l hlb]; exact hl10
          refine ⟨l, lv, _, kk, y, rfl, rfl, hl11, by omega, by omega, hk1, hk2, ?_⟩
          have fx12 : GR.Fx M2 H11 (upd H11 l (.lst (lv.eraseIdx kk))) := ⟨fun c o nm h => by rw [upd_ne (fun z => nm (by rw [z]; exact m2l))]; exact h, fun hl m hm => by
            by_cases z : m = l
            · rw [z, upd_same]; simp
            · rw [upd_ne z]; exact hl m hm⟩
          have hl12 : (upd H11 l (.lst (lv.eraseIdx kk))) l = some (.lst (lv.eraseIdx kk)) := upd_same
          have hb12 : GR.Bag (upd H11 l (.lst (lv.eraseIdx kk))) b := by
            obtain ⟨x, m', e, V⟩ := hb11
            exact ⟨x, m', by rw [upd_ne (Ne.symm hlb)]; exact e, V⟩
          have dt12 := ((dt9.sm s10).fx fx11).fx fx12
          have dp12 := ((dp9.sm s10).fx fx11).fx fx12
          have dy12 := dy.fx fx12
          have dl12 : GR.DtAll M2 K (upd H11 l (.lst (lv.eraseIdx kk))) (lv.eraseIdx kk) ((js'.eraseIdx kk).map oneD) := by
            have z := dl11.fx fx12
            rw [List.eraseIdx_eq_take_drop_succ, List.eraseIdx_eq_take_drop_succ, List.map_append, List.map_take, List.map_drop] at *
            exact (z.take kk).append (z.drop (kk + 1))
          have fx912 : GR.Fx M2 H9 (upd H11 l (.lst (lv.eraseIdx kk))) := ((GR.Fx.of s10).trans fx11).trans fx12
          generalize upd H11 l (.lst (lv.eraseIdx kk)) = H12 at *
          have hL12 := live2 hb12 hl12
          have es := wsum_erase js' kk jj hjj
          have nn := wsum_nonneg (js'.eraseIdx kk)
          obtain ⟨t', kn, e1, e2, pn', hkn, ev⟩ := plus_step pn hmm (show jj ≤ 200 by omega) (by omega) T.cNoPart T.cTooMuch
          -- found = plus(total, part)
          refine ⟨M2, hL12, tupD t' (2 ^ kn), ⟨[_, _], ⟨_, [_], ⟨vt, rfl, dt12⟩, ⟨_, [], ⟨y, rfl, dy12⟩, rfl, rfl⟩, rfl⟩, _, _, rfl, small_of hmm, small_one (by omega), e1.symm⟩, fun H13 vf f13 df => ?_⟩
          refine ⟨M2, hL12.same f13, false, ⟨tupD t' (2 ^ kn), tupD t' (2 ^ kn), ⟨_, rfl, df⟩, ⟨[_, _], ⟨_, [_], ⟨vt, rfl, dt12.sm f13⟩, ⟨_, [], ⟨y, rfl, dy12.sm f13⟩, rfl, rfl⟩, rfl⟩, t, mm, 1, jj, rfl, by omega, by omega, part_abs pn (by omega), by decide, e2.symm⟩, rfl, rfl, ?_⟩, fun H14 f14 => iteF ?_⟩
          · show PyData.bool false = PyData.bool (!PyData.eqv (tupD t' (2 ^ kn)) (tupD t' (2 ^ kn)))
            rw [SeqAt.eqv_refl _ rfl]
            rfl
          have s14 := f13.trans f14
          refine ⟨_, rfl, (js'.eraseIdx kk).length, ?_, t', kn, js'.eraseIdx kk, lv.eraseIdx kk, vf, _, _, rfl, rfl, s14 _ _ hl12, dl12.sm s14, df.sm f14, pn', hkn, ?_, fun j hj => hj' j (List.mem_of_mem_eraseIdx hj), by omega, hb12.same s14, dp12.sm s14, (fx9.trans fx912).trans (.of s14)⟩
          · rw [List.length_eraseIdx, if_pos (by omega)]
            omega
          · rw [List.length_eraseIdx, if_pos (by omega)]
            omega
    · rintro σ H1 ⟨v1, v2, v3, v4, v5, v6, v7, v8, v9, v10, rfl, s1⟩
      exact q H1
end
theorem all_mk {l : PySem.W.OpenLaw} {w : World} {K : PySem.W.Frag} {h : Heap} {mg : Str → Option Value} {fa : Addr}
    (X : K.In h) (G : h.Ns mainGlobals mg) (hfa : mg "law" = some (.ref fa))
    {f0 : Addr} {od0 an0 : Option Addr} {sl0 : Array (Option Value)} {oc0 kV0 dc0 pm0 cd0 ct0 : Value}
    {f1 : Addr} {od1 an1 : Option Addr} {sl1 : Array (Option Value)} {oc1 kV1 dc1 pm1 cd1 ct1 : Value}
    {f2 : Addr} {od2 an2 : Option Addr} {sl2 : Array (Option Value)} {oc2 kV2 dc2 pm2 cd2 ct2 : Value}
    {f3 : Addr} {od3 an3 : Option Addr} {sl3 : Array (Option Value)} {oc3 kV3 dc3 pm3 cd3 ct3 : Value}
    {f4 : Addr} {od4 an4 : Option Addr} {sl4 : Array (Option Value)} {oc4 kV4 dc4 pm4 cd4 ct4 : Value}
    {f5 : Addr} {od5 an5 : Option Addr} {sl5 : Array (Option Value)} {oc5 kV5 dc5 pm5 cd5 ct5 : Value}
    {f6 : Addr} {od6 an6 : Option Addr} {sl6 : Array (Option Value)} {oc6 kV6 dc6 pm6 cd6 ct6 : Value}
    {f7 : Addr} {od7 an7 : Option Addr} {sl7 : Array (Option Value)} {oc7 kV7 dc7 pm7 cd7 ct7 : Value}
    {f8 : Addr} {od8 an8 : Option Addr} {sl8 : Array (Option Value)} {oc8 kV8 dc8 pm8 cd8 ct8 : Value}
    {f9 : Addr} {od9 an9 : Option Addr} {sl9 : Array (Option Value)} {oc9 kV9 dc9 pm9 cd9 ct9 : Value}
    {f10 : Addr} {od10 an10 : Option Addr} {sl10 : Array (Option Value)} {oc10 kV10 dc10 pm10 cd10 ct10 : Value}
    {f11 : Addr} {od11 an11 : Option Addr} {sl11 : Array (Option Value)} {oc11 kV11 dc11 pm11 cd11 ct11 : Value}
    {f12 : Addr} {od12 an12 : Option Addr} {sl12 : Array (Option Value)} {oc12 kV12 dc12 pm12 cd12 ct12 : Value}
    {f13 : Addr} {od13 an13 : Option Addr} {sl13 : Array (Option Value)} {oc13 kV13 dc13 pm13 cd13 ct13 : Value}
    {f14 : Addr} {od14 an14 : Option Addr} {sl14 : Array (Option Value)} {oc14 kV14 dc14 pm14 cd14 ct14 : Value}
    {qNOTHING : Addr} {qdNOTHING : Option Addr} {qnNOTHING : Nat} {qsNOTHING : Array (Option Value)} {qtNOTHING0 qtNOTHING1 : Tok}
    {ctFIGURES : Tok}
    {eCNoPart eFNoPart : Addr} {enmNoPart eqNoPart : Str} {eNNoPart : Addr} {ebsNoPart : List Value} {esnNoPart : List Str} {esubNoPart : List Value} {eabNoPart : Bool} {ecolNoPart : Option Bool} {eddNoPart : Option Addr} {em0NoPart em1NoPart em2NoPart em3NoPart em5NoPart : Option Value}
    {eodNoPart eanNoPart : Option Addr} {eslNoPart : Array (Option Value)} {eocNoPart edcNoPart epmNoPart ecdNoPart ectNoPart : Value}
    {eCTooMuch eFTooMuch : Addr} {enmTooMuch eqTooMuch : Str} {eNTooMuch : Addr} {ebsTooMuch : List Value} {esnTooMuch : List Str} {esubTooMuch : List Value} {eabTooMuch : Bool} {ecolTooMuch : Option Bool} {eddTooMuch : Option Addr} {em0TooMuch em1TooMuch em2TooMuch em3TooMuch em5TooMuch : Option Value}
    {eodTooMuch eanTooMuch : Option Addr} {eslTooMuch : Array (Option Value)} {eocTooMuch edcTooMuch epmTooMuch ecdTooMuch ectTooMuch : Value}
    (a0 : PySem.W.nsIn K mainGlobals "is_whole" = some (some (.ref f0)))
    (l0 : K.lookup f0 = some ⟨oc0, od0, .func (PySem.W.fnOf "is_whole" "is_whole" (defArgs sIsWhole) (defBody sIsWhole) (defScope sIsWhole) .none kV0 dc0 pm0 an0 cd0 ct0), sl0⟩)
    (c0 : PySem.W.codeIn K cd0 "is_whole" = true)
    (k0 : PySem.W.keepIn K (.ref f0) = true)
    (a1 : PySem.W.nsIn K mainGlobals "is_power" = some (some (.ref f1)))
    (l1 : K.lookup f1 = some ⟨oc1, od1, .func (PySem.W.fnOf "is_power" "is_power" (defArgs sIsPower) (defBody sIsPower) (defScope sIsPower) .none kV1 dc1 pm1 an1 cd1 ct1), sl1⟩)
    (c1 : PySem.W.codeIn K cd1 "is_power" = true)
    (k1 : PySem.W.keepIn K (.ref f1) = true)
    (a2 : PySem.W.nsIn K mainGlobals "is_part" = some (some (.ref f2)))
    (l2 : K.lookup f2 = some ⟨oc2, od2, .func (PySem.W.fnOf "is_part" "is_part" (defArgs sIsPart) (defBody sIsPart) (defScope sIsPart) .none kV2 dc2 pm2 an2 cd2 ct2), sl2⟩)
    (c2 : PySem.W.codeIn K cd2 "is_part" = true)
    (k2 : PySem.W.keepIn K (.ref f2) = true)
    (a3 : PySem.W.nsIn K mainGlobals "look_part" = some (some (.ref f3)))
    (l3 : K.lookup f3 = some ⟨oc3, od3, .func (PySem.W.fnOf "look_part" "look_part" (defArgs sLookPart) (defBody sLookPart) (defScope sLookPart) .none kV3 dc3 pm3 an3 cd3 ct3), sl3⟩)
    (c3 : PySem.W.codeIn K cd3 "look_part" = true)
    (k3 : PySem.W.keepIn K (.ref f3) = true)
    (a4 : PySem.W.nsIn K mainGlobals "lowest" = some (some (.ref f4)))
    (l4 : K.lookup f4 = some ⟨oc4, od4, .func (PySem.W.fnOf "lowest" "lowest" (defArgs sLowest) (defBody sLowest) (defScope sLowest) .none kV4 dc4 pm4 an4 cd4 ct4), sl4⟩)
    (c4 : PySem.W.codeIn K cd4 "lowest" = true)
    (k4 : PySem.W.keepIn K (.ref f4) = true)
    (a5 : PySem.W.nsIn K mainGlobals "half" = some (some (.ref f5)))
    (l5 : K.lookup f5 = some ⟨oc5, od5, .func (PySem.W.fnOf "half" "half" (defArgs sHalf) (defBody sHalf) (defScope sHalf) .none kV5 dc5 pm5 an5 cd5 ct5), sl5⟩)
    (c5 : PySem.W.codeIn K cd5 "half" = true)
    (k5 : PySem.W.keepIn K (.ref f5) = true)
    (a6 : PySem.W.nsIn K mainGlobals "plus" = some (some (.ref f6)))
    (l6 : K.lookup f6 = some ⟨oc6, od6, .func (PySem.W.fnOf "plus" "plus" (defArgs sPlus) (defBody sPlus) (defScope sPlus) .none kV6 dc6 pm6 an6 cd6 ct6), sl6⟩)
    (c6 : PySem.W.codeIn K cd6 "plus" = true)
    (k6 : PySem.W.keepIn K (.ref f6) = true)
    (a7 : PySem.W.nsIn K mainGlobals "part_text" = some (some (.ref f7)))
    (l7 : K.lookup f7 = some ⟨oc7, od7, .func (PySem.W.fnOf "part_text" "part_text" (defArgs sPartText) (defBody sPartText) (defScope sPartText) .none kV7 dc7 pm7 an7 cd7 ct7), sl7⟩)
    (c7 : PySem.W.codeIn K cd7 "part_text" = true)
    (k7 : PySem.W.keepIn K (.ref f7) = true)
    (a8 : PySem.W.nsIn K mainGlobals "read_part" = some (some (.ref f8)))
    (l8 : K.lookup f8 = some ⟨oc8, od8, .func (PySem.W.fnOf "read_part" "read_part" (defArgs sReadPart) (defBody sReadPart) (defScope sReadPart) .none kV8 dc8 pm8 an8 cd8 ct8), sl8⟩)
    (c8 : PySem.W.codeIn K cd8 "read_part" = true)
    (k8 : PySem.W.keepIn K (.ref f8) = true)
    (a9 : PySem.W.nsIn K mainGlobals "_law_bag" = some (some (.ref f9)))
    (l9 : K.lookup f9 = some ⟨oc9, od9, .func (PySem.W.fnOf "_law_bag" "_law_bag" (defArgs sLawBag) (defBody sLawBag) (defScope sLawBag) .none kV9 dc9 pm9 an9 cd9 ct9), sl9⟩)
    (c9 : PySem.W.codeIn K cd9 "_law_bag" = true)
    (k9 : PySem.W.keepIn K (.ref f9) = true)
    (a10 : PySem.W.nsIn K mainGlobals "_law_take" = some (some (.ref f10)))
    (l10 : K.lookup f10 = some ⟨oc10, od10, .func (PySem.W.fnOf "_law_take" "_law_take" (defArgs sLawTake) (defBody sLawTake) (defScope sLawTake) .none kV10 dc10 pm10 an10 cd10 ct10), sl10⟩)
    (c10 : PySem.W.codeIn K cd10 "_law_take" = true)
    (k10 : PySem.W.keepIn K (.ref f10) = true)
    (a11 : PySem.W.nsIn K mainGlobals "_law_plus" = some (some (.ref f11)))
    (l11 : K.lookup f11 = some ⟨oc11, od11, .func (PySem.W.fnOf "_law_plus" "_law_plus" (defArgs sLawPlus) (defBody sLawPlus) (defScope sLawPlus) .none kV11 dc11 pm11 an11 cd11 ct11), sl11⟩)
    (c11 : PySem.W.codeIn K cd11 "_law_plus" = true)
    (k11 : PySem.W.keepIn K (.ref f11) = true)
    (a12 : PySem.W.nsIn K mainGlobals "_law_half" = some (some (.ref f12)))
    (l12 : K.lookup f12 = some ⟨oc12, od12, .func (PySem.W.fnOf "_law_half" "_law_half" (defArgs sLawHalf) (defBody sLawHalf) (defScope sLawHalf) .none kV12 dc12 pm12 an12 cd12 ct12), sl12⟩)
    (c12 : PySem.W.codeIn K cd12 "_law_half" = true)
    (k12 : PySem.W.keepIn K (.ref f12) = true)
    (a13 : PySem.W.nsIn K mainGlobals "_law_too_much" = some (some (.ref f13)))
    (l13 : K.lookup f13 = some ⟨oc13, od13, .func (PySem.W.fnOf "_law_too_much" "_law_too_much" (defArgs sLawTooMuch) (defBody sLawTooMuch) (defScope sLawTooMuch) .none kV13 dc13 pm13 an13 cd13 ct13), sl13⟩)
    (c13 : PySem.W.codeIn K cd13 "_law_too_much" = true)
    (k13 : PySem.W.keepIn K (.ref f13) = true)
    (a14 : PySem.W.nsIn K mainGlobals "law" = some (some (.ref f14)))
    (l14 : K.lookup f14 = some ⟨oc14, od14, .func (PySem.W.fnOf "law" "law" (defArgs sLaw) (defBody sLaw) (defScope sLaw) .none kV14 dc14 pm14 an14 cd14 ct14), sl14⟩)
    (c14 : PySem.W.codeIn K cd14 "law" = true)
    (k14 : PySem.W.keepIn K (.ref f14) = true)
    (z_isinstance : PySem.W.nsIn K mainGlobals "isinstance" = some none)
    (z_int : PySem.W.nsIn K mainGlobals "int" = some none)
    (z_bool : PySem.W.nsIn K mainGlobals "bool" = some none)
    (z_tuple : PySem.W.nsIn K mainGlobals "tuple" = some none)
    (z_len : PySem.W.nsIn K mainGlobals "len" = some none)
    (z_all : PySem.W.nsIn K mainGlobals "all" = some none)
    (z_max : PySem.W.nsIn K mainGlobals "max" = some none)
    (z_str : PySem.W.nsIn K mainGlobals "str" = some none)
    (z_enumerate : PySem.W.nsIn K mainGlobals "enumerate" = some none)
    (z_abs : PySem.W.nsIn K mainGlobals "abs" = some none)
    (z_range : PySem.W.nsIn K mainGlobals "range" = some none)
    (z_min : PySem.W.nsIn K mainGlobals "min" = some none)
    (z_list : PySem.W.nsIn K mainGlobals "list" = some none)
    (q1NOTHING : PySem.W.nsIn K mainGlobals "NOTHING" = some (some (.ref qNOTHING)))
    (q2NOTHING : K.lookup qNOTHING = some ⟨.type "tuple", qdNOTHING, .seq #[.int 0 qtNOTHING0, .int 1 qtNOTHING1] qnNOTHING, qsNOTHING⟩)
    (q1FIGURES : PySem.W.nsIn K mainGlobals "FIGURES" = some (some (.str "0123456789" ctFIGURES)))
    (xaNoPart : PySem.W.nsIn K mainGlobals "NoPart" = some (some (.ref eCNoPart)))
    (xlNoPart : K.lookup eCNoPart = some (excClassObj enmNoPart eqNoPart eCNoPart eNNoPart ebsNoPart [.type "ArithmeticError", .type "Exception", .type "BaseException", .type "object"] true esnNoPart esubNoPart eabNoPart ecolNoPart eddNoPart em0NoPart em1NoPart em2NoPart em3NoPart em5NoPart "ArithmeticError.__new__"))
    (xsNoPart : PySem.W.findIn K (.ref eCNoPart) "__setattr__" = some (some (.builtin "object.__setattr__")))
    (xgNoPart : PySem.W.findIn K (.ref eCNoPart) "__getattribute__" = some (some (.builtin "BaseException.__getattribute__")))
    (xhNoPart : PySem.W.findIn K (.ref eCNoPart) "__getattr__" = some none)
    (xnNoPart : PySem.W.findIn K (.ref eCNoPart) "part" = some none)
    (xiNoPart : PySem.W.findIn K (.ref eCNoPart) "__init__" = some (some (.ref eFNoPart)))
    (xtNoPart : PySem.W.typeIn K (.ref eFNoPart) = some (.type "function"))
    (xkNoPart : K.lookup eFNoPart = some ⟨eocNoPart, eodNoPart, .func (PySem.W.fnOf "__init__" "NoPart.__init__" (GR.xiA "part" ⟨4, 17, 4, 21⟩ ⟨4, 23, 4, 27⟩) (GR.xiB "part" ⟨5, 8, 5, 12⟩ ⟨5, 8, 5, 17⟩ ⟨5, 20, 5, 24⟩ ⟨5, 8, 5, 24⟩) (GR.xiS "part") .none .none edcNoPart epmNoPart eanNoPart ecdNoPart ectNoPart), eslNoPart⟩)
    (xcNoPart : PySem.W.codeIn K ecdNoPart "NoPart.__init__" = true)
    (xpNoPart : PySem.W.keepIn K (.ref eCNoPart) = true)
    (xeNoPart : PySem.W.subIn K (.ref eCNoPart) (.type "BaseException") = some true)
    (xyNoPart : PySem.W.typeIn K (.ref eCNoPart) = some (.type "type"))
    (xdNoPart : PySem.W.hasDictIn K eCNoPart = true)
    (xaTooMuch : PySem.W.nsIn K mainGlobals "TooMuch" = some (some (.ref eCTooMuch)))
    (xlTooMuch : K.lookup eCTooMuch = some (excClassObj enmTooMuch eqTooMuch eCTooMuch eNTooMuch ebsTooMuch [.type "OverflowError", .type "ArithmeticError", .type "Exception", .type "BaseException", .type "object"] true esnTooMuch esubTooMuch eabTooMuch ecolTooMuch eddTooMuch em0TooMuch em1TooMuch em2TooMuch em3TooMuch em5TooMuch "OverflowError.__new__"))
    (xsTooMuch : PySem.W.findIn K (.ref eCTooMuch) "__setattr__" = some (some (.builtin "object.__setattr__")))
    (xgTooMuch : PySem.W.findIn K (.ref eCTooMuch) "__getattribute__" = some (some (.builtin "BaseException.__getattribute__")))
    (xhTooMuch : PySem.W.findIn K (.ref eCTooMuch) "__getattr__" = some none)
    (xnTooMuch : PySem.W.findIn K (.ref eCTooMuch) "part" = some none)
    (xiTooMuch : PySem.W.findIn K (.ref eCTooMuch) "__init__" = some (some (.ref eFTooMuch)))
    (xtTooMuch : PySem.W.typeIn K (.ref eFTooMuch) = some (.type "function"))
    (xkTooMuch : K.lookup eFTooMuch = some ⟨eocTooMuch, eodTooMuch, .func (PySem.W.fnOf "__init__" "TooMuch.__init__" (GR.xiA "part" ⟨8, 17, 8, 21⟩ ⟨8, 23, 8, 27⟩) (GR.xiB "part" ⟨9, 8, 9, 12⟩ ⟨9, 8, 9, 17⟩ ⟨9, 20, 9, 24⟩ ⟨9, 8, 9, 24⟩) (GR.xiS "part") .none .none edcTooMuch epmTooMuch eanTooMuch ecdTooMuch ectTooMuch), eslTooMuch⟩)
    (xcTooMuch : PySem.W.codeIn K ecdTooMuch "TooMuch.__init__" = true)
    (xpTooMuch : PySem.W.keepIn K (.ref eCTooMuch) = true)
    (xeTooMuch : PySem.W.subIn K (.ref eCTooMuch) (.type "BaseException") = some true)
    (xyTooMuch : PySem.W.typeIn K (.ref eCTooMuch) = some (.type "type"))
    (xdTooMuch : PySem.W.hasDictIn K eCTooMuch = true)
    (xuTooMuch_TooMuch : PySem.W.isClsIn K eCTooMuch = true)
    (xvTooMuch_TooMuch : PySem.W.subIn K (.ref eCTooMuch) (.ref eCTooMuch) = some true)
    : ∃ fd : FuncData, (∀ (s : Shared) (v : Value), BindsTo s fd ⟨[v], []⟩ [("_law_script", v)]) ∧
      ∀ bs : Heap, K.In bs → bs.Ns mainGlobals mg → GR.FnG l.prog w K mg bs CX0 9 fa fd ["_law_script"] (spLaw K) := by
  have e := hfa.symm.trans (PySem.W.mg_of X G a14)
  cases e
  have F0 := fun_mk (st := sIsWhole) l0 c0 k0
  have b0 := F0.binds (ps := ["thing"]) fun _ _ _ _ _ _ us hl => match us, hl with | [_], _ => rfl
  have F1 := fun_mk (st := sIsPower) l1 c1 k1
  have b1 := F1.binds (ps := ["number"]) fun _ _ _ _ _ _ us hl => match us, hl with | [_], _ => rfl
  have F2 := fun_mk (st := sIsPart) l2 c2 k2
  have b2 := F2.binds (ps := ["thing"]) fun _ _ _ _ _ _ us hl => match us, hl with | [_], _ => rfl
  have F3 := fun_mk (st := sLookPart) l3 c3 k3
  have b3 := F3.binds (ps := ["thing"]) fun _ _ _ _ _ _ us hl => match us, hl with | [_], _ => rfl
  have F4 := fun_mk (st := sLowest) l4 c4 k4
  have b4 := F4.binds (ps := ["top", "bottom"]) fun _ _ _ _ _ _ us hl => match us, hl with | [_, _], _ => rfl
  have F5 := fun_mk (st := sHalf) l5 c5 k5
  have b5 := F5.binds (ps := ["part"]) fun _ _ _ _ _ _ us hl => match us, hl with | [_], _ => rfl
  have F6 := fun_mk (st := sPlus) l6 c6 k6
  have b6 := F6.binds (ps := ["one", "other"]) fun _ _ _ _ _ _ us hl => match us, hl with | [_, _], _ => rfl
  have F7 := fun_mk (st := sPartText) l7 c7 k7
  have b7 := F7.binds (ps := ["part"]) fun _ _ _ _ _ _ us hl => match us, hl with | [_], _ => rfl
  have F8 := fun_mk (st := sReadPart) l8 c8 k8
  have b8 := F8.binds (ps := ["text"]) fun _ _ _ _ _ _ us hl => match us, hl with | [_], _ => rfl
  have F9 := fun_mk (st := sLawBag) l9 c9 k9
  have b9 := F9.binds (ps := ["_law_script", "_law_at"]) fun _ _ _ _ _ _ us hl => match us, hl with | [_, _], _ => rfl
  have F10 := fun_mk (st := sLawTake) l10 c10 k10
  have b10 := F10.binds (ps := ["_law_bag_here", "_law_many"]) fun _ _ _ _ _ _ us hl => match us, hl with | [_, _], _ => rfl
  have F11 := fun_mk (st := sLawPlus) l11 c11 k11
  have b11 := F11.binds (ps := ["_law_one", "_law_other"]) fun _ _ _ _ _ _ us hl => match us, hl with | [_, _], _ => rfl
  have F12 := fun_mk (st := sLawHalf) l12 c12 k12
  have b12 := F12.binds (ps := ["_law_part"]) fun _ _ _ _ _ _ us hl => match us, hl with | [_], _ => rfl
  have F13 := fun_mk (st := sLawTooMuch) l13 c13 k13
  have b13 := F13.binds (ps := ["_law_one", "_law_other"]) fun _ _ _ _ _ _ us hl => match us, hl with | [_, _], _ => rfl
  have F14 := fun_mk (st := sLaw) l14 c14 k14
  have b14 := F14.binds (ps := ["_law_script"]) fun _ _ _ _ _ _ us hl => match us, hl with | [_], _ => rfl
  have T : Txt K mg := {
    fIsWhole := _,
    dIsWhole := _,
    FIsWhole := F0,
    bIsWhole := b0,
    gIsWhole := PySem.W.mg_of X G a0,
    fIsPower := _,
    dIsPower := _,
    FIsPower := F1,
    bIsPower := b1,
    gIsPower := PySem.W.mg_of X G a1,
    fIsPart := _,
    dIsPart := _,
    FIsPart := F2,
    bIsPart := b2,
    gIsPart := PySem.W.mg_of X G a2,
    fLookPart := _,
    dLookPart := _,
    FLookPart := F3,
    bLookPart := b3,
    gLookPart := PySem.W.mg_of X G a3,
    fLowest := _,
    dLowest := _,
    FLowest := F4,
    bLowest := b4,
    gLowest := PySem.W.mg_of X G a4,
    fHalf := _,
    dHalf := _,
    FHalf := F5,
    bHalf := b5,
    gHalf := PySem.W.mg_of X G a5,
    fPlus := _,
    dPlus := _,
    FPlus := F6,
    bPlus := b6,
    gPlus := PySem.W.mg_of X G a6,
    fPartText := _,
    dPartText := _,
    FPartText := F7,
    bPartText := b7,
    gPartText := PySem.W.mg_of X G a7,
    fReadPart := _,
    dReadPart := _,
    FReadPart := F8,
    bReadPart := b8,
    gReadPart := PySem.W.mg_of X G a8,
    fLawBag := _,
    dLawBag := _,
    FLawBag := F9,
    bLawBag := b9,
    gLawBag := PySem.W.mg_of X G a9,
    fLawTake := _,
    dLawTake := _,
    FLawTake := F10,
    bLawTake := b10,
    gLawTake := PySem.W.mg_of X G a10,
    fLawPlus := _,
    dLawPlus := _,
    FLawPlus := F11,
    bLawPlus := b11,
    gLawPlus := PySem.W.mg_of X G a11,
    fLawHalf := _,
    dLawHalf := _,
    FLawHalf := F12,
    bLawHalf := b12,
    gLawHalf := PySem.W.mg_of X G a12,
    fLawTooMuch := _,
    dLawTooMuch := _,
    FLawTooMuch := F13,
    bLawTooMuch := b13,
    gLawTooMuch := PySem.W.mg_of X G a13,
    fLaw := _,
    dLaw := _,
    FLaw := F14,
    bLaw := b14,
    gLaw := PySem.W.mg_of X G a14,
    n_isinstance := PySem.W.mg_none_of X G z_isinstance,
    n_int := PySem.W.mg_none_of X G z_int,
    n_bool := PySem.W.mg_none_of X G z_bool,
    n_tuple := PySem.W.mg_none_of X G z_tuple,
    n_len := PySem.W.mg_none_of X G z_len,
    n_all := PySem.W.mg_none_of X G z_all,
    n_max := PySem.W.mg_none_of X G z_max,
    n_str := PySem.W.mg_none_of X G z_str,
    n_enumerate := PySem.W.mg_none_of X G z_enumerate,
    n_abs := PySem.W.mg_none_of X G z_abs,
    n_range := PySem.W.mg_none_of X G z_range,
    n_min := PySem.W.mg_none_of X G z_min,
    n_list := PySem.W.mg_none_of X G z_list,
    cNOTHING := qNOTHING,
    gNOTHING := PySem.W.mg_of X G q1NOTHING,
    qNOTHING := fun M H => .inr ⟨_, _, _, q2NOTHING, rfl, rfl, (by show 2 ≤ sizeLine; decide), .cons ⟨_, rfl⟩ (.cons ⟨_, rfl⟩ (.nil))⟩,
    tFIGURES := ctFIGURES,
    gFIGURES := PySem.W.mg_of X G q1FIGURES,
    cNoPart := eCNoPart,
    iNoPart := eFNoPart,
    xNoPart := { gC := PySem.W.mg_of X G xaNoPart, cls := ⟨enmNoPart, eqNoPart, eNNoPart, ebsNoPart, esnNoPart, esubNoPart, eabNoPart, ecolNoPart, eddNoPart, em0NoPart, em1NoPart, em2NoPart, em3NoPart, em5NoPart, xlNoPart⟩, base := ⟨_, _, F.excBase_ArithmeticError⟩, hob := by decide +kernel, pss := fun self => F.store_ArithmeticError.passes self, sa := xsNoPart, ga := xgNoPart, gg := xhNoPart, noN := xnNoPart, iC := xiNoPart, tC := xtNoPart, kC := xpNoPart, exC := xeNoPart, tyC := xyNoPart, hdC := xdNoPart, fn := ⟨_, _, _, _, _, _, _, _, _, _, _, _, _, _, xkNoPart, xcNoPart⟩ },
    cTooMuch := eCTooMuch,
    iTooMuch := eFTooMuch,
    xTooMuch := { gC := PySem.W.mg_of X G xaTooMuch, cls := ⟨enmTooMuch, eqTooMuch, eNTooMuch, ebsTooMuch, esnTooMuch, esubTooMuch, eabTooMuch, ecolTooMuch, eddTooMuch, em0TooMuch, em1TooMuch, em2TooMuch, em3TooMuch, em5TooMuch, xlTooMuch⟩, base := ⟨_, _, F.excBase_OverflowError⟩, hob := by decide +kernel, pss := fun self => F.store_OverflowError.passes self, sa := xsTooMuch, ga := xgTooMuch, gg := xhTooMuch, noN := xnTooMuch, iC := xiTooMuch, tC := xtTooMuch, kC := xpTooMuch, exC := xeTooMuch, tyC := xyTooMuch, hdC := xdTooMuch, fn := ⟨_, _, _, _, _, _, _, _, _, _, _, _, _, _, xkTooMuch, xcTooMuch⟩ },
    mTooMuch_TooMuch := GR.exm_pair xeTooMuch xuTooMuch_TooMuch xyTooMuch xvTooMuch_TooMuch }
  exact ⟨PySem.W.fnOf "law" "law" (defArgs sLaw) (defBody sLaw) (defScope sLaw) .none kV14 dc14 pm14 an14 cd14 ct14, fun s v => .of_eq rfl, fun bs _ _ => okLaw T F14⟩
end K04
open PySem PySem.W PyProof.Rows
set_option maxRecDepth 100000 in
set_option maxHeartbeats 0 in
theorem PySem.Challenge.cw_trailparts_k04_whole_the_whole_in_parts_holds : PySem.Challenge.rw_trailparts_k04_whole_the_whole_in_parts.Holds := by
  w_on; o_law; k_head; (case hw => w_witness2)
  k_fill
  refine GR.walk_g (l := PySem.Challenge.rw_trailparts_k04_whole_the_whole_in_parts) (n := 63) (k := 9) (x := "_law_script") (sp := K04.spLaw) rfl (by decide) rfl ⟨rfl, by decide, by decide⟩ (fun w h Y => PySem.W.kIn_of Y) ?F (fun K H a ns hl hb _ hS => ⟨a, ns, rfl, hS, hl, hb, fun _ => rfl⟩)
  case F =>
    intro w mg fa h KX G hmg
    refine' K04.all_mk KX G hmg ?a0 ?l0 ?c0 ?k0 ?a1 ?l1 ?c1 ?k1 ?a2 ?l2 ?c2 ?k2 ?a3 ?l3 ?c3 ?k3 ?a4 ?l4 ?c4 ?k4 ?a5 ?l5 ?c5 ?k5 ?a6 ?l6 ?c6 ?k6 ?a7 ?l7 ?c7 ?k7 ?a8 ?l8 ?c8 ?k8 ?a9 ?l9 ?c9 ?k9 ?a10 ?l10 ?c10 ?k10 ?a11 ?l11 ?c11 ?k11 ?a12 ?l12 ?c12 ?k12 ?a13 ?l13 ?c13 ?k13 ?a14 ?l14 ?c14 ?k14 ?z_isinstance ?z_int ?z_bool ?z_tuple ?z_len ?z_all ?z_max ?z_str ?z_enumerate ?z_abs ?z_range ?z_min ?z_list ?q1NOTHING ?q2NOTHING ?q1FIGURES ?xaNoPart ?xlNoPart ?xsNoPart ?xgNoPart ?xhNoPart ?xnNoPart ?xiNoPart ?xtNoPart ?xkNoPart ?xcNoPart ?xpNoPart ?xeNoPart ?xyNoPart ?xdNoPart ?xaTooMuch ?xlTooMuch ?xsTooMuch ?xgTooMuch ?xhTooMuch ?xnTooMuch ?xiTooMuch ?xtTooMuch ?xkTooMuch ?xcTooMuch ?xpTooMuch ?xeTooMuch ?xyTooMuch ?xdTooMuch ?xuTooMuch_TooMuch ?xvTooMuch_TooMuch
    (case a0 => first | k_is | rfl)
    (case l0 => first | k_is | rfl)
    (case c0 => first | k_is | rfl)
    (case k0 => first | k_is | rfl)
    (case a1 => first | k_is | rfl)
    (case l1 => first | k_is | rfl)
    (case c1 => first | k_is | rfl)
    (case k1 => first | k_is | rfl)
    (case a2 => first | k_is | rfl)
    (case l2 => first | k_is | rfl)
    (case c2 => first | k_is | rfl)
    (case k2 => first | k_is | rfl)
    (case a3 => first | k_is | rfl)
    (case l3 => first | k_is | rfl)
    (case c3 => first | k_is | rfl)
    (case k3 => first | k_is | rfl)
    (case a4 => first | k_is | rfl)
    (case l4 => first | k_is | rfl)
    (case c4 => first | k_is | rfl)
    (case k4 => first | k_is | rfl)
    (case a5 => first | k_is | rfl)
    (case l5 => first | k_is | rfl)
    (case c5 => first | k_is | rfl)
    (case k5 => first | k_is | rfl)
    (case a6 => first | k_is | rfl)
    (case l6 => first | k_is | rfl)
    (case c6 => first | k_is | rfl)
    (case k6 => first | k_is | rfl)
    (case a7 => first | k_is | rfl)
    (case l7 => first | k_is | rfl)
    (case c7 => first | k_is | rfl)
    (case k7 => first | k_is | rfl)
    (case a8 => first | k_is | rfl)
    (case l8 => first | k_is | rfl)
    (case c8 => first | k_is | rfl)
    (case k8 => first | k_is | rfl)
    (case a9 => first | k_is | rfl)
    (case l9 => first | k_is | rfl)
    (case c9 => first | k_is | rfl)
    (case k9 => first | k_is | rfl)
    (case a10 => first | k_is | rfl)
    (case l10 => first | k_is | rfl)
    (case c10 => first | k_is | rfl)
    (case k10 => first | k_is | rfl)
    (case a11 => first | k_is | rfl)
    (case l11 => first | k_is | rfl)
    (case c11 => first | k_is | rfl)
    (case k11 => first | k_is | rfl)
    (case a12 => first | k_is | rfl)
    (case l12 => first | k_is | rfl)
    (case c12 => first | k_is | rfl)
    (case k12 => first | k_is | rfl)
    (case a13 => first | k_is | rfl)
    (case l13 => first | k_is | rfl)
    (case c13 => first | k_is | rfl)
    (case k13 => first | k_is | rfl)
    (case a14 => first | k_is | rfl)
    (case l14 => first | k_is | rfl)
    (case c14 => first | k_is | rfl)
    (case k14 => first | k_is | rfl)
    (case z_isinstance => first | k_is | rfl)
    (case z_int => first | k_is | rfl)
    (case z_bool => first | k_is | rfl)
    (case z_tuple => first | k_is | rfl)
    (case z_len => first | k_is | rfl)
    (case z_all => first | k_is | rfl)
    (case z_max => first | k_is | rfl)
    (case z_str => first | k_is | rfl)
    (case z_enumerate => first | k_is | rfl)
    (case z_abs => first | k_is | rfl)
    (case z_range => first | k_is | rfl)
    (case z_min => first | k_is | rfl)
    (case z_list => first | k_is | rfl)
    (case q1NOTHING => first | k_is | rfl)
    (case q2NOTHING => first | k_is | rfl)
    (case q1FIGURES => first | k_is | rfl)
    (case xaNoPart => first | k_is | rfl)
    (case xlNoPart => first | k_is | rfl)
    (case xsNoPart => first | k_is | rfl)
    (case xgNoPart => first | k_is | rfl)
    (case xhNoPart => first | k_is | rfl)
    (case xnNoPart => first | k_is | rfl)
    (case xiNoPart => first | k_is | rfl)
    (case xtNoPart => first | k_is | rfl)
    (case xkNoPart => first | k_is | rfl)
    (case xcNoPart => first | k_is | rfl)
    (case xpNoPart => first | k_is | rfl)
    (case xeNoPart => first | k_is | rfl)
    (case xyNoPart => first | k_is | rfl)
    (case xdNoPart => first | k_is | rfl)
    (case xaTooMuch => first | k_is | rfl)
    (case xlTooMuch => first | k_is | rfl)
    (case xsTooMuch => first | k_is | rfl)
    (case xgTooMuch => first | k_is | rfl)
    (case xhTooMuch => first | k_is | rfl)
    (case xnTooMuch => first | k_is | rfl)
    (case xiTooMuch => first | k_is | rfl)
    (case xtTooMuch => first | k_is | rfl)
    (case xkTooMuch => first | k_is | rfl)
    (case xcTooMuch => first | k_is | rfl)
    (case xpTooMuch => first | k_is | rfl)
    (case xeTooMuch => first | k_is | rfl)
    (case xyTooMuch => first | k_is | rfl)
    (case xdTooMuch => first | k_is | rfl)
    (case xuTooMuch_TooMuch => first | k_is | rfl)
    (case xvTooMuch_TooMuch => first | k_is | rfl)
