import PyProof.Rows.All
import HandS.ForExc
import HandS.ForMost
import HandS.Style
import HandS.Deep
import HandS.Zip
import HandS.SortInts
import HandS.Defaults
import HandS.TryOnly
import HandS.ExcOwn
import HandS.RaiseMore
import HandS.Small
import PyProof.ExcBaseAll.RuntimeError
import PyProof.ReprLen
import HandS.IsInst
import HandS.Strs
import HandS.SetFor
import PySem.Challenge.RW_clockrests_k67_whole_numbers_all_lie_for
set_option Elab.async false
set_option linter.all false
set_option maxRecDepth 100000
set_option maxHeartbeats 4000000
/-! XL0: promises of defs where no repr runs around (guards: none); calls, the end of a law over them. -/
namespace XL
open PySem PySem.Spec L2
open PyProof.Rows hiding St

/-- a def's promise, called where no repr is under way -/
structure FnG (pr : Program) (wd : World) (K : PySem.W.Frag) (mg : Str → Option Value) (bs : Heap) (CX : CXT) (k : Nat) (f : Addr) (fd : FuncData) (ps : List Str) (sp : Sp) : Prop where
  len : ∀ vs H Q E, sp vs H Q E → vs.length = ps.length
  run : ∀ (A : Around) (oe : List Env) (s : Shared) (H : Hp) (ar : Args) (us : List Value) (vs : List V) (Q : VK) (E : XK), Room k A → A.guards = some [] →
    Env0 pr wd K mg bs A oe s H → BindsTo s fd ar (ps.zip us) → Vals vs us → sp vs H Q E → codeAny (model pr wd) A (.call (.ref f) ar) (CR CX oe pr wd H s Q E) s
section
variable {pr : Program} {wd : World} {K : PySem.W.Frag} {mg : Str → Option Value} {bs : Heap} {CX : CXT} {k : Nat} {f : Addr} {fd : FuncData} {ps : List Str} {sp : Sp}
theorem FnG.up (G : FnG pr wd K mg bs CX k f fd ps sp) {j : Nat} (h : k ≤ j) : FnG pr wd K mg bs CX j f fd ps sp :=
  ⟨G.len, fun A oe s H ar us vs Q E r => G.run A oe s H ar us vs Q E (r.mono h)⟩
theorem FnG.imp (G : FnG pr wd K mg bs CX k f fd ps sp) {sp' : Sp} (h : ∀ vs H Q E, sp' vs H Q E → sp vs H Q E) : FnG pr wd K mg bs CX k f fd ps sp' :=
  ⟨fun vs H Q E q => G.len vs H Q E (h _ _ _ _ q), fun A oe s H ar us vs Q E r g e b v q => G.run A oe s H ar us vs Q E r g e b v (h _ _ _ _ q)⟩
/-- the rule for a def of the text -/
theorem fn_g {x ql : Str} {st : Stmt} {N : List Str} (F : Fun K x ql st f fd) (S : FnScope N ps (defScope st)) (hlen : ∀ vs H Q E, sp vs H Q E → vs.length = ps.length)
    (hb : ∀ (cd : Value) (A : Around) (oe : List Env) (s : Shared) (H : Hp) (vs : List V) (Q : VK) (E : XK), Room k (A.deeper (envOfC ql (defScope st) s.heap.objs.size f cd)) → A.guards = some [] → sp vs H Q E →
      ∃ t, PSs (cxOf CX pr wd K mg bs N ql (defScope st) f cd A oe s H E) (defBody st) t ∧ t { nx := fun _ h => Q .non h, rt := Q } (start N vs) H) :
    FnG pr wd K mg bs CX (k + 1) f fd ps sp := by
  obtain ⟨oc, od, kv, doc, pm, an, cd, ct, sl, rfl, look, hcode⟩ := F.ex
  constructor
  · exact hlen
  intro A oe s H ar us vs Q E room gd env0 bind rv hs
  have n1 := hlen _ _ _ _ hs
  have here : K.In s.heap := env0.mod.kin.keeps fun b o q => (env0.bs b o q).1
  have noLim : s.heap.NoLimit := env0.mod.nolimit.keeps fun b o q => (env0.bs b o q).1
  have kinds : ∀ y ∈ ps.zip us, (defScope st).names.lookup y.1 = some .local ∨ ((defScope st).names.lookup y.1 = some .cell ∧ ((cellsFrom (s.heap.objs.size + 1) (defScope st).names []).lookup y.1).isSome = true) := by
    rintro ⟨n, v⟩ hy
    rcases S.par n (List.of_mem_zip hy).1 with z | z
    · exact Or.inl z
    · exact Or.inr ⟨z, PySem.W.cellsFrom_some _ _ _ (.inl z)⟩
  refine codeAny_call_function room.depth (here _ _ look) rfl S.co S.gen rfl (PySem.W.codeRec_of here hcode) (bind _ _ _ _ ?_)
  refine wpAny_newFunctionEnv_cells S.kind kinds fun en hen s1 y => ?_
  subst hen
  refine ⟨noLim.keeps y.toInCall.keep, codeAny_func ?_⟩
  obtain ⟨t, body, want⟩ := hb cd A oe s H vs Q E (room.deeper _) gd hs
  have J0 := inv_start (CX := CX) (E := E) (qual := ql) (f := f) (cd := cd) S room.hd env0 n1 rv y
  refine wpAny_mono (body.run [] s1 (start N vs) H _ J0 want) ?_ (fun _ _ z => z)
  intro fl s2 got
  cases fl with
  | brk => obtain ⟨_, _, _, z⟩ := got; exact z.elim
  | cont => obtain ⟨_, _, _, z⟩ := got; exact z.elim
  | next => obtain ⟨τ, H2, J, z⟩ := got; exact ⟨V.non, H2, J.os, J.bare, J.base, J.hok, rfl, z⟩
  | ret u => obtain ⟨v, τ, H2, J, rr, z⟩ := got; exact ⟨v, H2, J.os, J.bare, J.base, J.hok, rr, z⟩
/-- .. where nothing raised leaves the def -/
theorem fn_g0 {x ql : Str} {st : Stmt} {N : List Str} (F : Fun K x ql st f fd) (S : FnScope N ps (defScope st)) (hlen : ∀ vs H Q E, sp vs H Q E → vs.length = ps.length)
    (hb : ∀ (cd : Value) (A : Around) (oe : List Env) (s : Shared) (H : Hp) (vs : List V) (Q : VK) (E : XK), Room k (A.deeper (envOfC ql (defScope st) s.heap.objs.size f cd)) → A.guards = some [] → sp vs H Q E →
      ∃ t, PSs (cxOf CX0 pr wd K mg bs N ql (defScope st) f cd A oe s H E).nox (defBody st) t ∧ t { nx := fun _ h => Q .non h, rt := Q } (start N vs) H) :
    FnG pr wd K mg bs CX0 (k + 1) f fd ps sp :=
  fn_g F S hlen fun cd A oe s H vs Q E r g q => by
    obtain ⟨t, h1, h2⟩ := hb cd A oe s H vs Q E r g q
    exact ⟨t, h1.nox, h2⟩
end
section
variable {X : Cx} {CX : CXT} {k : Nat} {f : Addr} {fd : FuncData} {ps : List Str} {sp : Sp} {E : XK} {x : Str} {p pos : Pos} {e : Expr} {es : List Expr} {t tk : TA}
theorem call_end2 {pins : List (Addr × Obj)} {σ : L2.St} {H : Hp} {s : Shared} {Q : VK} {ar : Args} (hx : Passes CX X E) (I : Inv X pins σ H s) (h : codeAny (model X.prog X.w) X.A (.call (.ref f) ar) (CR CX X.stack X.prog X.w H s Q E) s) :
    wpAny (model X.prog X.w) X.A (call (.ref f) ar.pos ar.kw) (EP X pins σ Q) X.xe s := by
  refine wpAny_call (codeAny_mono h fun r s' z => ?_)
  match r, z with
  | .error e, z => exact hx pins σ H s e s' I z
  | .ok (.ret u), z => exact I.after z
  | .ok .next, z => exact z.elim
  | .ok .brk, z => exact z.elim
  | .ok .cont, z => exact z.elim
/-- f(e, ..) -/
theorem g_call {ds : List Value} {dvs : List V} (G : FnG X.prog X.w X.K X.mg X.base CX k f fd ps sp) (room : Room k X.A) (gd : X.A.guards = some []) (glob : Gl X x) (at_ : X.mg x = some (.ref f)) (kept : PySem.W.keepIn X.K (.ref f) = true)
    (bnd : Binds X.K fd ps ds) (dv : Vals dvs ds) (hx : Passes CX X E) (ha : PA X (e :: es) t) (nodbg : (x == ("__debug__" : Str)) = false := by decide)
    (st1 : starEach (e :: es) X.env = (false, eval e X.env) :: starEach es X.env := by rfl) (st2 : (backTo pos (starEach es X.env)).any (·.1) = false := by rfl) :
    PE X (.Call (.Name x p) (e :: es) [] pos) (tCall sp dvs E t) := by
  constructor
  intro pins s σ H Q I h
  refine wpAny_Call_Name_kw (ld_glob I glob at_ ?_ nodbg)
  refine PySem.W.callWith_K (h₀ := X.base) I.ok.mod.kin kept (thn (ha.run pos pins s σ H _ I h) ?_) st1 st2
  rintro us s1 ⟨vs, H1, J, rv, q⟩
  have r2 : Vals (vs ++ dvs) (us ++ ds) := rv.append dv
  have hl : (us ++ ds).length = ps.length := by rw [← r2.length]; exact G.len _ _ _ _ q
  exact ⟨J.kIn, call_end2 (ar := ⟨us, []⟩) hx J (G.run X.A X.stack s1 H1 ⟨us, []⟩ _ _ Q E room gd J.env0 (bnd s1 us J.kIn hl) r2 q)⟩
/-- f() -/
theorem g_call0 {ds : List Value} {dvs : List V} (G : FnG X.prog X.w X.K X.mg X.base CX k f fd ps sp) (room : Room k X.A) (gd : X.A.guards = some []) (glob : Gl X x) (at_ : X.mg x = some (.ref f)) (kept : PySem.W.keepIn X.K (.ref f) = true)
    (bnd : Binds X.K fd ps ds) (dv : Vals dvs ds) (hx : Passes CX X E) (nodbg : (x == ("__debug__" : Str)) = false := by decide) :
    PE X (.Call (.Name x p) [] [] pos) (tCall sp dvs E tNil) := by
  constructor
  intro pins s σ H Q I h
  refine wpAny_Call_Name_kw (ld_glob I glob at_ ?_ nodbg)
  have hl : (([] : List Value) ++ ds).length = ps.length := by
    have r2 : Vals ([] ++ dvs) ([] ++ ds) := dv
    rw [← r2.length]
    exact G.len _ _ _ _ h
  exact PySem.W.callWith_K0 I.kIn kept (call_end2 (ar := ⟨[], []⟩) hx I (G.run X.A X.stack s H ⟨[], []⟩ _ _ Q E room gd I.env0 (bnd s [] I.kIn hl) dv h))
/-- f(.., k = v, ..): the keywords' values in another order -/
def tCallG (n m : Nat) (sp : Sp) (gV : List V → List V → List V) (E : XK) (t tk : TA) : TE := fun σ H Q => t σ H fun vs h1 => tk σ h1 fun zs h2 => (vs.length = n ∧ zs.length = m) ∧ sp (gV vs zs) h2 Q E
theorem g_callK {ks : List Str} {g : List Value → List Value → List Value} {gV : List V → List V → List V} {kws : List Keyword} (G : FnG X.prog X.w X.K X.mg X.base CX k f fd ps sp) (room : Room k X.A) (gd : X.A.guards = some []) (glob : Gl X x) (at_ : X.mg x = some (.ref f)) (kept : PySem.W.keepIn X.K (.ref f) = true)
    (bnd : KBn X.K fd ps 0 ks g gV) (hx : Passes CX X E) (hk : PK X kws tk) (some_ : (backToKw pos (keywordEach kws X.env)).all (·.1.isSome) = true := by rfl) (names : (backToKw pos (keywordEach kws X.env)).filterMap (·.1) = ks := by rfl)
    (nodbg : (x == ("__debug__" : Str)) = false := by decide) (plain : ((backTo pos (starEach [] X.env)).any (·.1) || (backToKw pos (keywordEach kws X.env)).any (·.1.isNone)) = false := by rfl) :
    PE X (.Call (.Name x p) [] kws pos) (tCallG 0 ks.length sp gV E tNil tk) := by
  constructor
  intro pins s σ H Q I h
  refine wpAny_Call_Name_kw (ld_glob I glob at_ ?_ nodbg)
  refine PySem.W.callWith_KW0 (h₀ := X.base) I.ok.mod.kin kept some_ (thn (hk.run pos pins s σ H _ I h) ?_) plain
  rintro ws s1 ⟨zs, H1, J, rz, ⟨_, l2⟩, q⟩
  have r2 : Vals (gV [] zs) (g [] ws) := bnd.rel .nil rz
  have l3 : ws.length = ks.length := rz.length.symm.trans l2
  have b := bnd.to s1 [] ws J.kIn rfl l3
  rw [← names] at b
  exact ⟨J.kIn, call_end2 hx J (G.run X.A X.stack s1 H1 _ _ _ Q E room gd J.env0 b r2 q)⟩
theorem g_callPK {n : Nat} {ks : List Str} {g : List Value → List Value → List Value} {gV : List V → List V → List V} {kws : List Keyword} (G : FnG X.prog X.w X.K X.mg X.base CX k f fd ps sp) (room : Room k X.A) (gd : X.A.guards = some []) (glob : Gl X x) (at_ : X.mg x = some (.ref f)) (kept : PySem.W.keepIn X.K (.ref f) = true)
    (bnd : KBn X.K fd ps n ks g gV) (hx : Passes CX X E) (ha : PA X (e :: es) t) (hk : PK X kws tk) (some_ : (backToKw pos (keywordEach kws X.env)).all (·.1.isSome) = true := by rfl) (names : (backToKw pos (keywordEach kws X.env)).filterMap (·.1) = ks := by rfl)
    (nodbg : (x == ("__debug__" : Str)) = false := by decide) (st1 : starEach (e :: es) X.env = (false, eval e X.env) :: starEach es X.env := by rfl)
    (plain : ((backTo pos (starEach (e :: es) X.env)).any (·.1) || (backToKw pos (keywordEach kws X.env)).any (·.1.isNone)) = false := by rfl) :
    PE X (.Call (.Name x p) (e :: es) kws pos) (tCallG n ks.length sp gV E t tk) := by
  constructor
  intro pins s σ H Q I h
  refine wpAny_Call_Name_kw (ld_glob I glob at_ ?_ nodbg)
  refine PySem.W.callWith_KW (h₀ := X.base) I.ok.mod.kin kept some_ (thn (ha.run pos pins s σ H _ I h) ?_) plain st1
  rintro us s1 ⟨vs, H1, J, rv, q⟩
  refine thn (hk.run pos pins s1 σ H1 _ J q) ?_
  rintro ws s2 ⟨zs, H2, J2, rz, ⟨l1, l2⟩, q2⟩
  have r2 : Vals (gV vs zs) (g us ws) := bnd.rel rv rz
  have b := bnd.to s2 us ws J2.kIn (rv.length.symm.trans l1) (rz.length.symm.trans l2)
  rw [← names] at b
  exact ⟨J2.kIn, call_end2 hx J2 (G.run X.A X.stack s2 H2 _ _ _ Q E room gd J2.env0 b r2 q2)⟩
end
/-! ### the end of a law -/
section
variable {pr : Program} {wd : World} {K : PySem.W.Frag} {mg mb : Str → Option Value} {k : Nat} {fa a : Addr} {fd : FuncData} {x : Str} {sp : Sp} {s : Shared} {vs : List Value} {ns : List Int}
theorem ends_true {H : Hp} {bs : Heap} {F : FnG pr wd K mg bs CX0 k fa fd [x] sp} (room : Room k callerA) (bind : BindsTo s fd ⟨[.ref a], []⟩ [(x, .ref a)]) (e0 : Env0 pr wd K mg bs callerA [] s H)
    (hO : Only H) (q : sp [.ref a] H (fun v _ => v = .bl true) fun _ _ _ => False) :
    codeAny (model pr wd) callerA (.call (.ref fa) ⟨[.ref a], []⟩) (fun r s' => r = .ok (.ret (.bool true)) ∧ OldK s.heap s'.heap ∧ s'.os = s.os ∧ AllBare s'.gens) s := by
  refine codeAny_mono (F.run callerA [] s H ⟨[.ref a], []⟩ [.ref a] [.ref a] _ _ room rfl e0 bind (.cons rfl .nil) q) ?_
  intro r s' h
  match r, h with
  | .error e, h => exact h.elim
  | .ok .next, h => exact h.elim
  | .ok .brk, h => exact h.elim
  | .ok .cont, h => exact h.elim
  | .ok (.ret u), ⟨v, H', os, bare, un, ok2, rv, z⟩ =>
    have z : v = .bl true := z
    subst z
    obtain rfl : u = Value.bool true := rv
    refine ⟨rfl, OldK.of_keep fun b o eb => ?_, os, bare⟩
    have none_in : ∀ c : Addr, c ∉ ([] : List Addr) := fun c z => nomatch z
    rcases hO b with z | ⟨ob, xs, z⟩
    · exact un.keep b o eb z (none_in b) (none_in b)
    · have f1 := (e0.hok b _ z).1
      have f2 := (ok2 b _ (un.frzs b ob _ z)).1
      rw [eb] at f1
      cases f1
      exact f2
/-- the heap at the entry, without what H tracks there: H tracks at most the script, at a -/
theorem base_ok {H : Hp} (KX : K.In s.heap) (g1 : s.heap.Ns mainGlobals mg) (g2 : s.heap.Ns builtinsNs mb) (g3 : ∀ y : Str, y ≠ "__name__" → mb y = bootBuiltins y) (lim : s.heap.NoLimit) (gens : s.gens = #[])
    (ha : s.heap.get? a = some { cls := .type "list", data := .seq vs.toArray }) (hok : HOk pr wd H s.heap) (only : ∀ b o, H b = some o → b = a) (noK : ∀ o, H a = some o → K.lookup a = none) :
    Env0 pr wd K mg (hidT s.heap H) callerA [] s H ∧ K.In (hidT s.heap H) ∧ (hidT s.heap H).Ns mainGlobals mg := by
  have free : ∀ {b : Addr} {ob : Obj} {es : Array DictEntry} {ep : Nat}, s.heap.get? b = some ob → ob.data = .dict es ep → H b = none := by
    intro b ob es ep e d
    cases q : H b with
    | none => rfl
    | some u =>
      obtain rfl := only b u q
      rw [ha] at e
      cases e
      exact nomatch (show Data.seq vs.toArray _ = Data.dict es ep from d)
  have ns : ∀ {b : Addr} {m : Str → Option Value}, s.heap.Ns b m → (hidT s.heap H).Ns b m := fun {b m} ⟨o, es, ep, e, d, r⟩ => ⟨o, es, ep, hidT_get e (free e d), d, r⟩
  have kin : K.In (hidT s.heap H) := fun b ob e => hidT_get (KX b ob e) (by
    cases q : H b with
    | none => rfl
    | some u =>
      obtain rfl := only b u q
      rw [noK u q] at e
      cases e)
  exact ⟨⟨rfl, ⟨kin, ns g1, ⟨mb, ns g2, g3⟩, let ⟨mc, h1, h2⟩ := lim; ⟨mc, ns h1, h2⟩⟩, fun b ob e => of_hidT e, Nat.le_of_eq (hidT_size _ _), trivial, fun b hb => (nomatch hb), hok, .of_eq gens⟩, kin, ns g1⟩
theorem law_g (KX : K.In s.heap) (g1 : s.heap.Ns mainGlobals mg) (g2 : s.heap.Ns builtinsNs mb) (g3 : ∀ y : Str, y ≠ "__name__" → mb y = bootBuiltins y) (lim : s.heap.NoLimit) (gens : s.gens = #[])
    (ha : s.heap.get? a = some { cls := .type "list", data := .seq vs.toArray }) (hi : IntsAre vs ns) (hl : ns.length ≤ sizeLine) (room : Room k callerA)
    (F : ∀ bs : Heap, K.In bs → bs.Ns mainGlobals mg → FnG pr wd K mg bs CX0 k fa fd [x] sp) (bind : ∀ (s : Shared) (u : Value), BindsTo s fd ⟨[u], []⟩ [(x, u)])
    (q : ∀ H : Hp, Only H → SqL K H a (ns.map V.int) → sp [.ref a] H (fun v _ => v = .bl true) fun _ _ _ => False) :
    codeAny (model pr wd) callerA (.call (.ref fa) ⟨[.ref a], []⟩) (fun r s' => r = .ok (.ret (.bool true)) ∧ OldK s.heap s'.heap ∧ s'.os = s.os ∧ AllBare s'.gens) s := by
  have rv := vals_ints hi
  have lv := hi.length
  have lm : (ns.map V.int).length ≤ sizeLine := by rw [List.length_map]; exact hl
  cases hk : K.lookup a with
  | some o =>
    have e := KX a o hk
    rw [ha] at e
    cases e
    have hO : Only fun _ => none := fun _ => .inl rfl
    obtain ⟨e0, kin, gl⟩ := base_ok (pr := pr) (wd := wd) (H := fun _ => none) KX g1 g2 g3 lim gens ha (fun b u z => nomatch z) (fun b u z => nomatch z) (fun u z => nomatch z)
    exact ends_true (F := F _ kin gl) room (bind s _) e0 hO (q _ hO (.inr ⟨_, vs.toArray, _, hk, rfl, rfl, rfl, by rw [List.size_toArray, lv]; exact hl, by simpa using rv⟩))
  | none =>
    let H : Hp := fun b => if b = a then some (.frz { cls := .type "list", data := .seq vs.toArray } (.lst (ns.map V.int))) else none
    have hH : ∀ b u, H b = some u → b = a ∧ u = .frz { cls := .type "list", data := .seq vs.toArray } (.lst (ns.map V.int)) := fun b u z => by
      by_cases hb : b = a
      · exact ⟨hb, (Option.some.inj ((if_pos hb).symm.trans z)).symm⟩
      · exact nomatch (if_neg hb).symm.trans z
    have hO : Only H := fun b => by
      by_cases hb : b = a
      · exact .inr ⟨_, _, if_pos hb⟩
      · exact .inl (if_neg hb)
    obtain ⟨e0, kin, gl⟩ := base_ok (pr := pr) (wd := wd) (H := H) KX g1 g2 g3 lim gens ha (fun b u z => by
      obtain ⟨rfl, rfl⟩ := hH b u z
      exact ⟨ha, lm, vs, _, rv, ha⟩) (fun b u z => (hH b u z).1) (fun u z => hk)
    exact ends_true (F := F _ kin gl) room (bind s _) e0 hO (q _ hO (.inl (.inr ⟨_, if_pos rfl⟩)))
end
/-- the goal that k_head leaves (case hc) -/
theorem walk_g {l : PySem.W.OpenLaw} {n k : Nat} {q : Program} {loose : List Str} {XP : (Str → Option Value) → Heap → Prop} {YP : World → Heap → Prop} {d : DefRec} {K : Params → PySem.W.Frag} {sp : PySem.W.Frag → Sp} {x : Str}
    (hn : l.most = some n) (hn2 : n ≤ sizeLine) (hdf : d.params.defaults = []) (room : Room k callerA) (hY : ∀ (w : World) (h : Heap), YP w h → (K w.params).In h)
    (F : ∀ (w : World) (mg : Str → Option Value) (fa : Addr) (h : Heap), (K w.params).In h → h.Ns mainGlobals mg → mg d.name = some (.ref fa) →
      ∃ fd : FuncData, (∀ (s : Shared) (u : Value), BindsTo s fd ⟨[u], []⟩ [(x, u)]) ∧ ∀ bs : Heap, (K w.params).In bs → bs.Ns mainGlobals mg → FnG l.prog w (K w.params) mg bs CX0 k fa fd [x] (sp (K w.params)))
    (hsp : ∀ (K : PySem.W.Frag) (H : Hp) (a : Addr) (ns : List Int), ns.length ≤ n → Only H → SqL K H a (ns.map V.int) → sp K [.ref a] H (fun v _ => v = .bl true) fun _ _ _ => False) :
    PySem.W.WalkO q loose XP YP l.row.toRowW d [] (fun f vs => PySem.call f vs) := by
  refine Att.attach_call hn hdf ?_
  intro w s0 s1 mg mb fa o pm cd doc a vs ns G Y ho hd hcd hmg hobj hints hlen hg
  have KX := hY w _ Y
  obtain ⟨fd, hb, hF⟩ := F w mg fa _ KX G.T.g hmg
  exact law_g KX G.T.g G.T.b G.T.builtins G.T.nolimit hg hobj hints (Nat.le_trans hlen hn2) room hF hb fun H hO hS => hsp (K w.params) H a ns hlen hO hS
end XL

/-! XL1: data with a footprint, the state relation, canonical readings. -/
namespace XL
open PySem PySem.Spec L2
open PyProof.Rows hiding St

/-! ### the monad of mirrors -/
abbrev M (P α : Type) := P → Option (α × P)
section
variable {P α β γ : Type}
def rt (a : α) : M P α := fun p => some (a, p)
def no : M P α := fun _ => none
def bd (m : M P α) (f : α → M P β) : M P β := fun p => match m p with
  | none => none
  | some (a, q) => f a q
def ofO (o : Option α) : M P α := fun p => match o with
  | none => none
  | some a => some (a, p)
def grd (b : Bool) (m : M P α) : M P α := if b = true then m else no
def run (m : M Unit α) : Option α := match m () with
  | none => none
  | some (a, _) => some a
theorem bd_some {m : M P α} {f : α → M P β} {p : P} {r : β × P} (h : bd m f p = some r) : ∃ a q, m p = some (a, q) ∧ f a q = some r := by
  unfold bd at h
  cases e : m p with
  | none => rw [e] at h; cases h
  | some x => rw [e] at h; exact ⟨x.1, x.2, rfl, h⟩
theorem bd_eq {m : M P α} {f : α → M P β} {p q : P} {a : α} (h : m p = some (a, q)) : bd m f p = f a q := by
  unfold bd; rw [h]
theorem rt_some {a b : α} {p q : P} (h : rt a p = some (b, q)) : a = b ∧ p = q := by
  unfold rt at h; cases h; exact ⟨rfl, rfl⟩
theorem ofO_some {o : Option α} {b : α} {p q : P} (h : ofO o p = some (b, q)) : o = some b ∧ p = q := by
  unfold ofO at h
  cases o with
  | none => cases h
  | some a => cases h; exact ⟨rfl, rfl⟩
theorem grd_some {c : Bool} {m : M P α} {p : P} {r : α × P} (h : grd c m p = some r) : c = true ∧ m p = some r := by
  unfold grd at h
  by_cases hc : c = true
  · rw [if_pos hc] at h; exact ⟨hc, h⟩
  · rw [if_neg hc] at h; cases h
theorem run_some {m : M Unit α} {a : α} (h : run m = some a) : m () = some (a, ()) := by
  unfold run at h
  cases e : m () with
  | none => rw [e] at h; cases h
  | some x => rw [e] at h; cases h; rfl
end

/-! ### data with a footprint -/
abbrev AS := Addr → Prop
mutual
inductive Rep (K : PySem.W.Frag) (F : AS) (H : Hp) : V → PyData → Prop
  | non : Rep K F H .non .none
  | bl (b : Bool) : Rep K F H (.bl b) (.bool b)
  | int (i : Int) : Rep K F H (.int i) (.int i)
  | str (x : Str) : Rep K F H (.str x) (.str x)
  | lst {a : Addr} {xs : List V} {ds : List PyData} : F a → H a = some (.lst xs) → Reps K F H xs ds → Rep K F H (.ref a) (.list ds)
  | tup {a : Addr} {xs : List V} {ds : List PyData} : F a → H a = some (.tup xs) → Reps K F H xs ds → Rep K F H (.ref a) (.tuple ds)
  /-- the law's script: a list that is read, never written -/
  | scr {a : Addr} {xs : List V} {ds : List PyData} : (F a ∨ ∀ H' : Hp, SqL K H' a xs) → SqL K H a xs → Reps K F H xs ds → Rep K F H (.ref a) (.dict (ds.map fun d => (d, .none)))
inductive Reps (K : PySem.W.Frag) (F : AS) (H : Hp) : List V → List PyData → Prop
  | nil : Reps K F H [] []
  | cons {v : V} {vs : List V} {d : PyData} {ds : List PyData} : Rep K F H v d → Reps K F H vs ds → Reps K F H (v :: vs) (d :: ds)
end
section
variable {K : PySem.W.Frag} {F F' : AS} {H H' : Hp} {a : Addr} {xs : List V}
theorem sqL_agree (h : SqL K H a xs) (e : H' a = H a) : SqL K H' a xs := by
  rcases h with (h | ⟨o, h⟩) | h
  · exact .inl (.inl (e.trans h))
  · exact .inl (.inr ⟨o, e.trans h⟩)
  · exact .inr h
theorem sqT_agree (h : SqT K H a xs) (e : H' a = H a) : SqT K H' a xs := by
  rcases h with (h | ⟨o, h⟩) | h
  · exact .inl (.inl (e.trans h))
  · exact .inl (.inr ⟨o, e.trans h⟩)
  · exact .inr h
theorem scr_inj : ∀ {l k : List PyData}, (l.map fun d => (d, PyData.none)) = (k.map fun d => (d, PyData.none)) → l = k
  | [], [], _ => rfl
  | [], _ :: _, h => by cases h
  | _ :: _, [], h => by cases h
  | a :: l, b :: k, h => by
    injection h with h1 h2
    injection h1 with h1 _
    rw [h1, scr_inj h2]
mutual
theorem Rep.mono (hF : ∀ b, F b → F' b) (hH : ∀ b, F b → H' b = H b) : ∀ {d : PyData} {v : V}, Rep K F H v d → Rep K F' H' v d
  | _, _, .non => .non
  | _, _, .bl b => .bl b
  | _, _, .int b => .int b
  | _, _, .str b => .str b
  | _, _, .lst h1 h2 h3 => .lst (hF _ h1) ((hH _ h1).trans h2) (Reps.mono hF hH h3)
  | _, _, .tup h1 h2 h3 => .tup (hF _ h1) ((hH _ h1).trans h2) (Reps.mono hF hH h3)
  | _, _, .scr (.inl h1) h2 h3 => .scr (.inl (hF _ h1)) (sqL_agree h2 (hH _ h1)) (Reps.mono hF hH h3)
  | _, _, .scr (.inr h1) h2 h3 => .scr (.inr h1) (h1 _) (Reps.mono hF hH h3)
theorem Reps.mono (hF : ∀ b, F b → F' b) (hH : ∀ b, F b → H' b = H b) : ∀ {ds : List PyData} {vs : List V}, Reps K F H vs ds → Reps K F' H' vs ds
  | _, _, .nil => .nil
  | _, _, .cons h1 h2 => .cons (Rep.mono hF hH h1) (Reps.mono hF hH h2)
end
mutual
theorem Rep.dp : ∀ {d : PyData} {v : V}, Rep K F H v d → d.canLay0 = true → Dp K H v d
  | _, _, .non, _ => .non
  | _, _, .bl b, _ => .bl b
  | _, _, .int b, _ => .int b
  | _, _, .str b, _ => .str b
  | _, _, .lst h1 h2 h3, c => .lst (SqL.of h2) (Reps.dp h3 (by simpa [PyData.canLay0] using c))
  | _, _, .tup h1 h2 h3, c => .tup (SqT.of h2) (Reps.dp h3 (by simpa [PyData.canLay0] using c))
  | _, _, .scr h1 h2 h3, c => by simp [PyData.canLay0] at c
theorem Reps.dp : ∀ {ds : List PyData} {vs : List V}, Reps K F H vs ds → PyData.canLayAll0 ds = true → DpAll K H vs ds
  | _, _, .nil, _ => .nil
  | d :: ds, _, .cons h1 h2, c => by
    have c' : d.canLay0 = true ∧ PyData.canLayAll0 ds = true := by simpa [PyData.canLayAll0] using c
    exact .cons (Rep.dp h1 c'.1) (Reps.dp h2 c'.2)
end
theorem Reps.len : ∀ {ds : List PyData} {vs : List V}, Reps K F H vs ds → vs.length = ds.length
  | [], _, h => by cases h; rfl
  | d :: ds, _, h => by
    cases h with
    | cons h1 h2 => rw [List.length_cons, List.length_cons, Reps.len h2]
theorem Reps.app : ∀ {ds : List PyData} {vs : List V} {es : List PyData} {us : List V}, Reps K F H vs ds → Reps K F H us es → Reps K F H (vs ++ us) (ds ++ es)
  | [], _, _, _, h, g => by cases h; exact g
  | d :: ds, _, _, _, h, g => by
    cases h with
    | cons h1 h2 => exact .cons h1 (Reps.app h2 g)
theorem Reps.one {v : V} {d : PyData} (h : Rep K F H v d) : Reps K F H [v] [d] := .cons h .nil
theorem Reps.take : ∀ {ds : List PyData} {vs : List V} (n : Nat), Reps K F H vs ds → Reps K F H (vs.take n) (ds.take n)
  | _, _, 0, _ => .nil
  | [], _, n + 1, h => by cases h; exact .nil
  | d :: ds, _, n + 1, h => by
    cases h with
    | cons h1 h2 => exact .cons h1 (Reps.take n h2)
theorem Reps.drop : ∀ {ds : List PyData} {vs : List V} (n : Nat), Reps K F H vs ds → Reps K F H (vs.drop n) (ds.drop n)
  | _, _, 0, h => h
  | [], _, n + 1, h => by cases h; exact .nil
  | d :: ds, _, n + 1, h => by
    cases h with
    | cons h1 h2 => exact Reps.drop n h2
theorem Reps.get : ∀ {ds : List PyData} {vs : List V} {i : Nat} {d : PyData}, Reps K F H vs ds → ds[i]? = some d → ∃ v, vs[i]? = some v ∧ Rep K F H v d
  | [], _, _, _, _, e => by simp at e
  | d :: ds, _, 0, _, h, e => by
    cases h with
    | cons h1 h2 =>
      obtain rfl : d = _ := Option.some.inj e
      exact ⟨_, rfl, h1⟩
  | d :: ds, _, i + 1, _, h, e => by
    cases h with
    | cons h1 h2 => exact Reps.get (i := i) h2 e
theorem Reps.getv : ∀ {ds : List PyData} {vs : List V} {i : Nat} {v : V}, Reps K F H vs ds → vs[i]? = some v → ∃ d, ds[i]? = some d ∧ Rep K F H v d
  | [], _, _, _, h, e => by cases h; simp at e
  | d :: ds, _, 0, _, h, e => by
    cases h with
    | cons h1 h2 =>
      obtain rfl := Option.some.inj e
      exact ⟨_, rfl, h1⟩
  | d :: ds, _, i + 1, _, h, e => by
    cases h with
    | cons h1 h2 => exact Reps.getv (i := i) h2 e
theorem Reps.ints : ∀ {ns : List Int}, Reps K F H (ns.map V.int) (ns.map PyData.int)
  | [] => .nil
  | n :: ns => .cons (.int n) Reps.ints
theorem Reps.bools : ∀ {ns : List Bool}, Reps K F H (ns.map V.bl) (ns.map PyData.bool)
  | [] => .nil
  | n :: ns => .cons (.bl n) Reps.bools
theorem Reps.to_ints : ∀ {ns : List Int} {vs : List V}, Reps K F H vs (ns.map PyData.int) → vs = ns.map V.int
  | [], _, h => by cases h; rfl
  | n :: ns, _, h => by
    cases h with
    | cons h1 h2 => cases h1; rw [Reps.to_ints h2]; rfl
theorem Reps.to_bools : ∀ {ns : List Bool} {vs : List V}, Reps K F H vs (ns.map PyData.bool) → vs = ns.map V.bl
  | [], _, h => by cases h; rfl
  | n :: ns, _, h => by
    cases h with
    | cons h1 h2 => cases h1; rw [Reps.to_bools h2]; rfl
theorem Rep.int_eq {v : V} {i : Int} (h : Rep K F H v (.int i)) : v = .int i := by cases h; rfl
theorem Rep.bl_eq {v : V} {i : Bool} (h : Rep K F H v (.bool i)) : v = .bl i := by cases h; rfl
theorem Rep.str_eq {v : V} {i : Str} (h : Rep K F H v (.str i)) : v = .str i := by cases h; rfl
theorem Rep.non_eq {v : V} (h : Rep K F H v .none) : v = .non := by cases h; rfl
end

/-! ### steps of the heap -/
/-- evaluation: what was tracked stands (but for the borrowed B); the footprint grows by new objects alone -/
structure Stp (F F' : AS) (H H' : Hp) (B : List Addr) : Prop where
  mono : ∀ b, F b → F' b
  same : ∀ b o, H b = some o → b ∉ B → H' b = some o
  brw : ∀ b, b ∈ B → (∃ o, H b = some o) → ∃ o, H' b = some o
  new : ∀ b, F' b → F b ∨ H b = none
  dom : ∀ b, F' b → ∃ o, H' b = some o
section
variable {F F' F'' : AS} {H H' H'' : Hp} {B : List Addr}
theorem Stp.refl (h : ∀ b, F b → ∃ o, H b = some o) : Stp F F H H B := ⟨fun _ h => h, fun _ _ h _ => h, fun _ _ h => h, fun _ h => .inl h, h⟩
theorem Stp.back (s : Stp F F' H H' B) {b : Addr} (h : H' b = none) : H b = none := by
  cases e : H b with
  | none => rfl
  | some o =>
    by_cases hb : b ∈ B
    · obtain ⟨o', q⟩ := s.brw b hb ⟨o, e⟩
      rw [h] at q; cases q
    · have q := s.same b o e hb
      rw [h] at q; cases q
theorem Stp.trans (s : Stp F F' H H' B) (t : Stp F' F'' H' H'' B) : Stp F F'' H H'' B where
  mono := fun b h => t.mono b (s.mono b h)
  same := fun b o h n => t.same b o (s.same b o h n) n
  brw := fun b hb h => t.brw b hb (s.brw b hb h)
  new := fun b h => by
    rcases t.new b h with h | h
    · exact s.new b h
    · exact .inr (s.back h)
  dom := t.dom
theorem Stp.agree (s : Stp F F' H H' B) (nB : ∀ b ∈ B, ¬ F b) (d : ∀ b, F b → ∃ o, H b = some o) : ∀ b, F b → H' b = H b := fun b hb => by
  obtain ⟨o, e⟩ := d b hb
  rw [e]
  exact s.same b o e fun z => nB b z hb
end

/-! ### slots -/
inductive Slot where
  | un
  | dat (d : PyData)
  | own (ds : List PyData)
  | bor (j : Nat)
def SlotOk (K : PySem.W.Frag) (F : AS) (H0 H : Hp) (B : List Addr) (vo : Option (Option V)) : Slot → Prop
  | .un => True
  | .dat d => ∃ v, vo = some (some v) ∧ Rep K F H v d
  | .own ds => ∃ a vs, vo = some (some (.ref a)) ∧ H a = some (.lst vs) ∧ Reps K F H vs ds ∧ ¬ F a ∧ H0 a = none
  | .bor j => ∃ a, vo = some (some (.ref a)) ∧ B[j]? = some a
/-- the state relation: entry H0, F0, borrowed B with contents cs; the slots as Γ says; the footprint F of data -/
structure SR (K : PySem.W.Frag) (H0 : Hp) (F0 : AS) (B : List Addr) (cs : List (List Int)) (Γ : List Slot) (σ : St) (H : Hp) (F : AS) : Prop where
  stp : Stp F0 F H0 H B
  nB : ∀ b ∈ B, ¬ F b
  inB : ∀ b ∈ B, ∃ o, H0 b = some o
  bnd : B.Nodup
  bor : ∀ (j : Nat) (a : Addr), B[j]? = some a → ∃ ns : List Int, cs[j]? = some ns ∧ H a = some (.lst (ns.map V.int))
  slot : ∀ (i : Nat) (s : Slot), Γ[i]? = some s → SlotOk K F H0 H B σ[i]? s
  dis : ∀ (i j : Nat) (ds es : List PyData) (a : Addr), Γ[i]? = some (.own ds) → Γ[j]? = some (.own es) → σ[i]? = some (some (.ref a)) → σ[j]? = some (some (.ref a)) → i = j
  len : Γ.length = σ.length
section
variable {K : PySem.W.Frag} {H0 H H' : Hp} {F0 F F' : AS} {B : List Addr} {cs cs' : List (List Int)} {Γ : List Slot} {σ : St}
theorem SR.dom (S : SR K H0 F0 B cs Γ σ H F) : ∀ b, F b → ∃ o, H b = some o := S.stp.dom
theorem SR.agr (S : SR K H0 F0 B cs Γ σ H F) (T : Stp F F' H H' B) : ∀ b, F b → H' b = H b := T.agree S.nB S.dom
theorem SR.rep (S : SR K H0 F0 B cs Γ σ H F) (T : Stp F F' H H' B) {v : V} {d : PyData} (r : Rep K F H v d) : Rep K F' H' v d := r.mono T.mono (S.agr T)
theorem SR.reps (S : SR K H0 F0 B cs Γ σ H F) (T : Stp F F' H H' B) {v : List V} {d : List PyData} (r : Reps K F H v d) : Reps K F' H' v d := r.mono T.mono (S.agr T)
theorem SR.refl (S : SR K H0 F0 B cs Γ σ H F) : Stp F F H H B := Stp.refl S.dom
theorem SR.trkB (S : SR K H0 F0 B cs Γ σ H F) {b : Addr} (hb : b ∈ B) : ∃ o, H b = some o := S.stp.brw b hb (S.inB b hb)
/-- a step; the borrowed as they then are -/
theorem SR.step' (S : SR K H0 F0 B cs Γ σ H F) (T : Stp F F' H H' B) (hb : ∀ (j : Nat) (a : Addr), B[j]? = some a → ∃ ns : List Int, cs'[j]? = some ns ∧ H' a = some (.lst (ns.map V.int))) : SR K H0 F0 B cs' Γ σ H' F' where
  stp := S.stp.trans T
  nB := fun b hb hF => by
    rcases T.new b hF with h | h
    · exact S.nB b hb h
    · obtain ⟨o, e⟩ := S.trkB hb
      rw [h] at e; cases e
  inB := S.inB
  bnd := S.bnd
  bor := hb
  slot := fun i s h => by
    have q := S.slot i s h
    cases s with
    | un => trivial
    | dat d =>
      obtain ⟨v, e, r⟩ := q
      exact ⟨v, e, S.rep T r⟩
    | own ds =>
      obtain ⟨a, vs, e, ha, r, nf, n0⟩ := q
      have nb : a ∉ B := fun z => by
        obtain ⟨o, e⟩ := S.inB a z
        rw [n0] at e; cases e
      refine ⟨a, vs, e, T.same a _ ha nb, S.reps T r, fun z => ?_, n0⟩
      rcases T.new a z with h | h
      · exact nf h
      · rw [ha] at h; cases h
    | bor j => exact q
  dis := S.dis
  len := S.len
/-- a step that leaves the borrowed alone -/
theorem SR.step (S : SR K H0 F0 B cs Γ σ H F) (T : Stp F F' H H' B) (hb : ∀ b ∈ B, H' b = H b) : SR K H0 F0 B cs Γ σ H' F' :=
  S.step' T fun j a e => by
    obtain ⟨ns, c, h⟩ := S.bor j a e
    exact ⟨ns, c, (hb a (List.mem_of_getElem? e)).trans h⟩
end
/-- a new object joins the footprint -/
def addA (F : AS) (p : Addr) : AS := fun b => F b ∨ b = p
theorem upd_stp {F : AS} {H : Hp} {B : List Addr} {p : Addr} {o : HO} (hp : H p = none) (d : ∀ b, F b → ∃ o, H b = some o) : Stp F (addA F p) H (upd H p o) B where
  mono := fun b h => .inl h
  same := fun b o' h _ => by rw [upd_ne (ne_of_none h hp)]; exact h
  brw := fun b _ ⟨o', h⟩ => ⟨o', by rw [upd_ne (ne_of_none h hp)]; exact h⟩
  new := fun b h => by
    rcases h with h | h
    · exact .inl h
    · subst h; exact .inr hp
  dom := fun b h => by
    by_cases e : b = p
    · subst e; exact ⟨o, upd_same⟩
    · rw [upd_ne e]
      rcases h with h | h
      · exact d b h
      · exact absurd h e
/-- a new object that stays outside -/
theorem upd_stp0 {F : AS} {H : Hp} {B : List Addr} {p : Addr} {o : HO} (hp : H p = none) (d : ∀ b, F b → ∃ o, H b = some o) : Stp F F H (upd H p o) B where
  mono := fun b h => h
  same := fun b o' h _ => by rw [upd_ne (ne_of_none h hp)]; exact h
  brw := fun b _ ⟨o', h⟩ => ⟨o', by rw [upd_ne (ne_of_none h hp)]; exact h⟩
  new := fun b h => .inl h
  dom := fun b h => by
    by_cases e : b = p
    · subst e; exact ⟨o, upd_same⟩
    · rw [upd_ne e]; exact d b h

/-! ### canonical readings of expressions -/
/-- what an expression hands back: data, or a list of its own (new) -/
def SV (K : PySem.W.Frag) (F' : AS) (H H' : Hp) (v : V) : Slot → Prop
  | .dat d => Rep K F' H' v d
  | .own ds => ∃ a vs, v = .ref a ∧ H a = none ∧ H' a = some (.lst vs) ∧ Reps K F' H' vs ds ∧ ¬ F' a
  | .un => False
  | .bor _ => False
class Enc (α : Type) where
  enc : α → PyData
open Enc (enc)
end XL

/-! XL2: rules of expressions with canonical readings. -/
namespace XL
open PySem PySem.Spec L2
open PyProof.Rows hiding St
open Enc (enc)

/-! ### typed data -/
structure T3 (α β γ : Type) where
  a : α
  b : β
  c : γ
deriving DecidableEq
structure T4 (α β γ δ : Type) where
  a : α
  b : β
  c : γ
  d : δ
deriving DecidableEq
instance encInt : Enc Int := ⟨.int⟩
instance encBool : Enc Bool := ⟨.bool⟩
instance encStr : Enc Str := ⟨.str⟩
instance encUnit : Enc Unit := ⟨fun _ => .none⟩
instance encPy : Enc PyData := ⟨fun d => d⟩
instance encOpt {α : Type} [Enc α] : Enc (Option α) := ⟨fun o => match o with | none => .none | some a => enc a⟩
instance encList {α : Type} [Enc α] : Enc (List α) := ⟨fun l => .list (l.map enc)⟩
instance encPair {α β : Type} [Enc α] [Enc β] : Enc (α × β) := ⟨fun p => .tuple [enc p.1, enc p.2]⟩
instance encT3 {α β γ : Type} [Enc α] [Enc β] [Enc γ] : Enc (T3 α β γ) := ⟨fun p => .tuple [enc p.a, enc p.b, enc p.c]⟩
instance encT4 {α β γ δ : Type} [Enc α] [Enc β] [Enc γ] [Enc δ] : Enc (T4 α β γ δ) := ⟨fun p => .tuple [enc p.a, enc p.b, enc p.c, enc p.d]⟩
/-- tuples of any length of one kind -/
structure Tup (α : Type) where
  l : List α
deriving DecidableEq
instance encTup {α : Type} [Enc α] : Enc (Tup α) := ⟨fun t => .tuple (t.l.map enc)⟩
/-- no references within -/
class Scal (α : Type) [Enc α] where
  free : ∀ {K : PySem.W.Frag} {F F' : AS} {H H' : Hp} {v : V} {a : α}, Rep K F H v (enc a) → Rep K F' H' v (enc a)
instance scalInt : Scal Int := ⟨fun h => by cases h; exact .int _⟩
instance scalBool : Scal Bool := ⟨fun h => by cases h; exact .bl _⟩
instance scalStr : Scal Str := ⟨fun h => by cases h; exact .str _⟩
instance scalUnit : Scal Unit := ⟨fun h => by cases h; exact .non⟩
instance scalOpt {α : Type} [Enc α] [Scal α] : Scal (Option α) := ⟨fun {K F F' H H' v a} h => by
  cases a with
  | none => cases h; exact .non
  | some a => exact Scal.free (α := α) h⟩
theorem scal_list {α : Type} [Enc α] [Scal α] {K : PySem.W.Frag} {F F' : AS} {H H' : Hp} : ∀ {l : List α} {vs : List V}, Reps K F H vs (l.map enc) → Reps K F' H' vs (l.map enc)
  | [], _, h => by cases h; exact .nil
  | a :: l, _, h => by
    cases h with
    | cons h1 h2 => exact .cons (Scal.free (α := α) h1) (scal_list h2)

section
variable {P α β γ W : Type}
/-! ### canonical readings -/
def xV (K : PySem.W.Frag) (cs : P → List (List Int)) (Γ : List Slot) (s : α → Slot) (m : M P α) : TE := fun σ H Q =>
  ∃ (H0 : Hp) (F0 : AS) (B : List Addr) (F : AS) (p : P) (a : α) (p' : P), SR K H0 F0 B (cs p) Γ σ H F ∧ m p = some (a, p') ∧
    ∀ v H' F', SR K H0 F0 B (cs p') Γ σ H' F' → Stp F F' H H' B → SV K F' H H' v (s a) → Q v H'
abbrev dE [Enc α] : α → Slot := fun a => .dat (enc a)
abbrev dO [Enc α] : List α → Slot := fun l => .own (l.map enc)
abbrev xE [Enc α] (K : PySem.W.Frag) (cs : P → List (List Int)) (Γ : List Slot) (m : M P α) : TE := xV K cs Γ dE m
abbrev xO [Enc α] (K : PySem.W.Frag) (cs : P → List (List Int)) (Γ : List Slot) (m : M P (List α)) : TE := xV K cs Γ dO m
def xT (K : PySem.W.Frag) (cs : P → List (List Int)) (Γ : List Slot) (m : M P Bool) : TT := fun σ H Q =>
  ∃ (H0 : Hp) (F0 : AS) (B : List Addr) (F : AS) (p : P) (a : Bool) (p' : P), SR K H0 F0 B (cs p) Γ σ H F ∧ m p = some (a, p') ∧
    ∀ H' F', SR K H0 F0 B (cs p') Γ σ H' F' → Stp F F' H H' B → Q a H'
/-- several values, one behind another -/
def SVs (K : PySem.W.Frag) (F' : AS) (H H' : Hp) : List V → List Slot → Prop
  | [], [] => True
  | v :: vs, s :: ss => SV K F' H H' v s ∧ SVs K F' H H' vs ss ∧ ∀ ds, s = .own ds → ∀ (j : Nat) (es : List PyData), ss[j]? = some (.own es) → vs[j]? ≠ some v
  | _, _ => False
def xA (K : PySem.W.Frag) (cs : P → List (List Int)) (Γ : List Slot) (s : W → List Slot) (m : M P W) : TA := fun σ H Q =>
  ∃ (H0 : Hp) (F0 : AS) (B : List Addr) (F : AS) (p : P) (a : W) (p' : P), SR K H0 F0 B (cs p) Γ σ H F ∧ m p = some (a, p') ∧
    ∀ vs H' F', SR K H0 F0 B (cs p') Γ σ H' F' → Stp F F' H H' B → SVs K F' H H' vs (s a) → Q vs H'
end

section
variable {X : Cx} {e : Expr} {t t' : TE} {u u' : TT}
theorem pe_imp (h : PE X e t) (w : ∀ σ H Q, t' σ H Q → t σ H Q) : PE X e t' := ⟨fun pins s σ H Q I q => h.run pins s σ H Q I (w σ H Q q)⟩
theorem pt_imp (h : PT X e u) (w : ∀ σ H Q, u' σ H Q → u σ H Q) : PT X e u' := ⟨fun pins s σ H Q I q => h.run pins s σ H Q I (w σ H Q q)⟩
theorem pw_imp (h : PW X e u) (w : ∀ σ H Q, u' σ H Q → u σ H Q) : PW X e u' := ⟨fun wh pins s σ H Q I q => h.run wh pins s σ H Q I (w σ H Q q)⟩
theorem pa_imp {es : List Expr} {t t' : TA} (h : PA X es t) (w : ∀ σ H Q, t' σ H Q → t σ H Q) : PA X es t' := ⟨fun pos pins s σ H Q I q => h.run pos pins s σ H Q I (w σ H Q q)⟩
theorem pk_imp {es : List Keyword} {t t' : TA} (h : PK X es t) (w : ∀ σ H Q, t' σ H Q → t σ H Q) : PK X es t' := ⟨fun pos pins s σ H Q I q => h.run pos pins s σ H Q I (w σ H Q q)⟩
theorem ps_imp {e : Stmt} {t t' : TS} (h : PS X e t) (w : ∀ D σ H, t' D σ H → t D σ H) : PS X e t' := ⟨fun pins s σ H D I q => h.run pins s σ H D I (w D σ H q)⟩
theorem pss_imp {e : List Stmt} {t t' : TS} (h : PSs X e t) (w : ∀ D σ H, t' D σ H → t D σ H) : PSs X e t' := ⟨fun pins s σ H D I q => h.run pins s σ H D I (w D σ H q)⟩
theorem pi_imp {tg e : Expr} {t t' : TI} (h : PI X tg e t) (w : ∀ σ H Q, t' σ H Q → t σ H Q) : PI X tg e t' := ⟨fun pins s σ H Q I q => h.run pins s σ H Q I (w σ H Q q)⟩
end

section
variable {P α β γ δ W W' : Type} {K : PySem.W.Frag} {cs : P → List (List Int)} {Γ : List Slot} {H0 H H' H'' : Hp} {F0 F F' F'' : AS} {B : List Addr} {c : List (List Int)} {σ : L2.St}
/-- what was handed back stands -/
theorem SV.keep (S : SR K H0 F0 B c Γ σ H' F') (hB : ∀ b ∈ B, ∃ o, H b = some o) (T : Stp F' F'' H' H'' B) {v : V} : ∀ {s : Slot}, SV K F' H H' v s → SV K F'' H H'' v s
  | .dat d, h => S.rep T h
  | .own ds, ⟨a, vs, e, hn, ha, r, nf⟩ => by
    have nb : a ∉ B := fun z => by
      obtain ⟨o, q⟩ := hB a z
      rw [hn] at q; cases q
    refine ⟨a, vs, e, hn, T.same a _ ha nb, S.reps T r, fun z => ?_⟩
    rcases T.new a z with h | h
    · exact nf h
    · rw [ha] at h; cases h
  | .un, h => h.elim
  | .bor _, h => h.elim
theorem SV.back (T : Stp F F' H H' B) {v : V} : ∀ {s : Slot}, SV K F'' H' H'' v s → SV K F'' H H'' v s
  | .dat d, h => h
  | .own ds, ⟨a, vs, e, hn, r⟩ => ⟨a, vs, e, T.back hn, r⟩
  | .un, h => h.elim
  | .bor _, h => h.elim
theorem SVs.back (T : Stp F F' H H' B) : ∀ {s : List Slot} {v : List V}, SVs K F'' H' H'' v s → SVs K F'' H H'' v s
  | [], [], _ => trivial
  | s :: ss, v :: vs, ⟨h1, h2, h3⟩ => ⟨h1.back T, SVs.back T h2, h3⟩
  | [], _ :: _, h => h.elim
  | _ :: _, [], h => h.elim
theorem SVs.reps : ∀ {ds : List PyData} {vs : List V}, SVs K F' H H' vs (ds.map Slot.dat) → Reps K F' H' vs ds
  | [], [], _ => .nil
  | d :: ds, v :: vs, ⟨h1, h2, _⟩ => .cons h1 (SVs.reps h2)
  | [], _ :: _, h => h.elim
  | _ :: _, [], h => h.elim
theorem SVs.own_new : ∀ {s : List Slot} {v : List V} {j : Nat} {es : List PyData}, SVs K F' H H' v s → s[j]? = some (.own es) → ∃ a, v[j]? = some (.ref a) ∧ H a = none
  | [], _, _, _, _, e => by simp at e
  | s :: ss, [], _, _, h, _ => h.elim
  | s :: ss, v :: vs, 0, es, ⟨h1, _, _⟩, e => by
    have q : s = .own es := Option.some.inj e
    rw [q] at h1
    obtain ⟨a, _, e1, e2, _⟩ := h1
    exact ⟨a, by rw [e1]; rfl, e2⟩
  | s :: ss, v :: vs, j + 1, es, ⟨_, h2, _⟩, e => SVs.own_new (j := j) h2 e

variable {X : Cx} {a b d e : Expr} {es : List Expr} {pos : Pos}
/-! ### names, constants -/
theorem x_name (i : Nat) [Enc α] {x : α} (hp : PE X e (tVar i)) (hg : Γ[i]? = some (.dat (enc x))) : PE X e (xE X.K cs Γ (rt x)) :=
  pe_imp hp fun σ H Q ⟨H0, F0, B, F, p, a, p', S, hm, q⟩ => by
    obtain ⟨rfl, rfl⟩ := rt_some hm
    obtain ⟨v, e, r⟩ := S.slot i _ hg
    exact ⟨v, e, q v H F S S.refl r⟩
theorem x_const [Enc α] {x : α} {v : V} (hp : PE X e (tC v)) (hr : ∀ K F H, Rep K F H v (enc x)) : PE X e (xE X.K cs Γ (rt x)) :=
  pe_imp hp fun σ H Q ⟨H0, F0, B, F, p, a, p', S, hm, q⟩ => by
    obtain ⟨rfl, rfl⟩ := rt_some hm
    exact q v H F S S.refl (hr _ _ _)
theorem x_int {i : Int} {j : Nat} : PE X (.Constant (.int i) j pos) (xE X.K cs Γ (rt i)) := x_const pe_int fun _ _ _ => .int i
theorem x_bl {i : Bool} {j : Nat} : PE X (.Constant (.bool i) j pos) (xE X.K cs Γ (rt i)) := x_const pe_bl fun _ _ _ => .bl i
theorem x_non {j : Nat} : PE X (.Constant .none j pos) (xE X.K cs Γ (rt ())) := x_const pe_non fun _ _ _ => .non
theorem x_str {i : Str} {j : Nat} : PE X (.Constant (.str i) j pos) (xE X.K cs Γ (rt i)) := x_const pe_str fun _ _ _ => .str i
/-- a module's constant, an int -/
theorem x_glob {x : Str} {i : Int} {t : Tok} (hg : Gl X x) (hm : X.mg x = some (.int i t)) (hd : (x == ("__debug__" : Str)) = false := by decide) : PE X (.Name x pos) (xE X.K cs Γ (rt i)) := x_const (pe_glob (v := .int i) hg hm ⟨_, rfl⟩ hd) fun _ _ _ => .int i
theorem x_globS {x : Str} {i : Str} {t : Tok} (hg : Gl X x) (hm : X.mg x = some (.str i t)) (hd : (x == ("__debug__" : Str)) = false := by decide) : PE X (.Name x pos) (xE X.K cs Γ (rt i)) := x_const (pe_glob (v := .str i) hg hm ⟨_, rfl⟩ hd) fun _ _ _ => .str i
/-- the result as another one with the same data -/
theorem x_as {s : α → Slot} {s' : β → Slot} {m : M P α} (f : α → β) (h : PE X e (xV X.K cs Γ s m)) (hs : ∀ x, s x = s' (f x)) : PE X e (xV X.K cs Γ s' (bd m fun x => rt (f x))) :=
  pe_imp h fun σ H Q ⟨H0, F0, B, F, p, a, p', S, hm, q⟩ => by
    obtain ⟨x, p1, h1, h2⟩ := bd_some hm
    obtain ⟨rfl, rfl⟩ := rt_some h2
    exact ⟨H0, F0, B, F, p, x, _, S, h1, fun v H' F' S' T r => q v H' F' S' T (by rw [← hs]; exact r)⟩
theorem x_any [Enc α] {m : M P α} (h : PE X e (xE X.K cs Γ m)) : PE X e (xE X.K cs Γ (bd m fun x => rt (enc x))) := x_as (s' := dE (α := PyData)) enc h fun _ => rfl
theorem x_some [Enc α] {m : M P α} (h : PE X e (xE X.K cs Γ m)) : PE X e (xE X.K cs Γ (bd m fun x => rt (some x))) := x_as (s' := dE) some h fun _ => rfl
theorem x_noneO [Enc α] {m : M P Unit} (h : PE X e (xE X.K cs Γ m)) : PE X e (xE X.K cs Γ (bd m fun _ => rt (none : Option α))) := x_as (s' := dE) (fun _ => none) h fun _ => rfl
/-- data seen as what it is by a partial look -/
theorem x_look [Enc α] [Enc β] {m : M P α} (f : α → Option β) (h : PE X e (xE X.K cs Γ m)) (hs : ∀ x y, f x = some y → enc x = enc y) : PE X e (xE X.K cs Γ (bd m fun x => ofO (f x))) :=
  pe_imp h fun σ H Q ⟨H0, F0, B, F, p, a, p', S, hm, q⟩ => by
    obtain ⟨x, p1, h1, h2⟩ := bd_some hm
    obtain ⟨h3, rfl⟩ := ofO_some h2
    exact ⟨H0, F0, B, F, p, x, _, S, h1, fun v H' F' S' T r => q v H' F' S' T (show Rep _ _ _ _ (enc a) from hs x a h3 ▸ r)⟩
def asInt : PyData → Option Int
  | .int i => some i
  | _ => none
def asStr : PyData → Option Str
  | .str i => some i
  | _ => none
def asBool : PyData → Option Bool
  | .bool i => some i
  | _ => none
def asList : PyData → Option (List PyData)
  | .list i => some i
  | _ => none
def asTup : PyData → Option (Tup PyData)
  | .tuple i => some ⟨i⟩
  | _ => none
def asGet {α : Type} : Option α → Option α := id
theorem map_id' (l : List PyData) : l.map (fun d => d) = l := by induction l with | nil => rfl | cons a l ih => rw [List.map_cons, ih]
theorem x_asInt {m : M P PyData} (h : PE X e (xE X.K cs Γ m)) : PE X e (xE X.K cs Γ (bd m fun x => ofO (asInt x))) := x_look asInt h fun x y q => by cases x <;> cases q; rfl
theorem x_asStr {m : M P PyData} (h : PE X e (xE X.K cs Γ m)) : PE X e (xE X.K cs Γ (bd m fun x => ofO (asStr x))) := x_look asStr h fun x y q => by cases x <;> cases q; rfl
theorem x_asBool {m : M P PyData} (h : PE X e (xE X.K cs Γ m)) : PE X e (xE X.K cs Γ (bd m fun x => ofO (asBool x))) := x_look asBool h fun x y q => by cases x <;> cases q; rfl
theorem x_asList {m : M P PyData} (h : PE X e (xE X.K cs Γ m)) : PE X e (xE X.K cs Γ (bd m fun x => ofO (asList x))) := x_look asList h fun x y q => by
  cases x <;> cases q
  show PyData.list y = PyData.list (y.map fun d => d)
  rw [map_id']
theorem x_asTup {m : M P PyData} (h : PE X e (xE X.K cs Γ m)) : PE X e (xE X.K cs Γ (bd m fun x => ofO (asTup x))) := x_look asTup h fun x y q => by
  cases x <;> cases q
  rename_i y
  show PyData.tuple y = PyData.tuple (y.map fun d => d)
  rw [map_id']
theorem x_get [Enc α] {m : M P (Option α)} (h : PE X e (xE X.K cs Γ m)) : PE X e (xE X.K cs Γ (bd m fun x => ofO x)) := x_look (fun x => x) h fun x y q => by rw [q]; rfl

/-! ### operators by their typed rules -/
/-- an operator that makes nothing: where C holds its value is g's -/
def OpT [Enc α] [Enc β] [Enc γ] (X : Cx) (f : Value → Value → Sem Value) (C : α → β → Bool) (g : α → β → γ) : Prop :=
  ∃ r, OpR X f r ∧ ∀ (F : AS) (H : Hp) (x y : V) (a : α) (b : β) (Q : VK), Rep X.K F H x (enc a) → Rep X.K F H y (enc b) → C a b = true → (∀ v, Rep X.K F H v (enc (g a b)) → Q v H) → r x y H Q
def yes2 : α → β → Bool := fun _ _ => true
theorem x_bin [Enc α] [Enc β] [Enc γ] {op : Operator} {C : α → β → Bool} {g : α → β → γ} {m1 : M P α} {m2 : M P β} (o : OpT X (binaryOp op) C g) (ha : PE X a (xE X.K cs Γ m1)) (hb : PE X b (xE X.K cs Γ m2)) :
    PE X (.BinOp a op b pos) (xE X.K cs Γ (bd m1 fun x => bd m2 fun y => grd (C x y) (rt (g x y)))) := by
  obtain ⟨r, ho, hr⟩ := o
  refine pe_imp (pe_op ho ha hb) fun σ H Q ⟨H0, F0, B, F, p, z, p', S, hm, q⟩ => ?_
  obtain ⟨x, p1, h1, hm⟩ := bd_some hm
  obtain ⟨y, p2, h2, hm⟩ := bd_some hm
  obtain ⟨hC, hm⟩ := grd_some hm
  obtain ⟨rfl, rfl⟩ := rt_some hm
  exact ⟨H0, F0, B, F, p, x, p1, S, h1, fun v H1 F1 S1 T1 R1 => ⟨H0, F0, B, F1, p1, y, _, S1, h2, fun w H2 F2 S2 T2 R2 =>
    hr F2 H2 v w x y Q (S1.rep T2 R1) R2 hC fun u hu => q u H2 F2 S2 (T1.trans T2) hu⟩⟩
theorem x_bin0 [Enc α] [Enc β] [Enc γ] {op : Operator} {g : α → β → γ} {m1 : M P α} {m2 : M P β} (o : OpT X (binaryOp op) yes2 g) (ha : PE X a (xE X.K cs Γ m1)) (hb : PE X b (xE X.K cs Γ m2)) :
    PE X (.BinOp a op b pos) (xE X.K cs Γ (bd m1 fun x => bd m2 fun y => rt (g x y))) := x_bin o ha hb
theorem x_cmp [Enc α] [Enc β] {op : CmpOp} {C : α → β → Bool} {g : α → β → Bool} {m1 : M P α} {m2 : M P β} (o : OpT X (compareOp op) C g) (ha : PE X a (xE X.K cs Γ m1)) (hb : PE X b (xE X.K cs Γ m2)) (hm : behindInMarks op b = false) :
    PE X (.Compare a [op] [b] pos) (xE X.K cs Γ (bd m1 fun x => bd m2 fun y => grd (C x y) (rt (g x y)))) := by
  obtain ⟨r, ho, hr⟩ := o
  refine pe_imp (pe_cmpR ho ha hb hm) fun σ H Q ⟨H0, F0, B, F, p, z, p', S, hm, q⟩ => ?_
  obtain ⟨x, p1, h1, hm⟩ := bd_some hm
  obtain ⟨y, p2, h2, hm⟩ := bd_some hm
  obtain ⟨hC, hm⟩ := grd_some hm
  obtain ⟨rfl, rfl⟩ := rt_some hm
  exact ⟨H0, F0, B, F, p, x, p1, S, h1, fun v H1 F1 S1 T1 R1 => ⟨H0, F0, B, F1, p1, y, _, S1, h2, fun w H2 F2 S2 T2 R2 =>
    hr F2 H2 v w x y Q (S1.rep T2 R1) R2 hC fun u hu => q u H2 F2 S2 (T1.trans T2) hu⟩⟩
theorem x_cmp0 [Enc α] [Enc β] {op : CmpOp} {g : α → β → Bool} {m1 : M P α} {m2 : M P β} (o : OpT X (compareOp op) yes2 g) (ha : PE X a (xE X.K cs Γ m1)) (hb : PE X b (xE X.K cs Γ m2)) (hm : behindInMarks op b = false) :
    PE X (.Compare a [op] [b] pos) (xE X.K cs Γ (bd m1 fun x => bd m2 fun y => rt (g x y))) := x_cmp o ha hb hm
theorem t_cmp [Enc α] [Enc β] {op : CmpOp} {C : α → β → Bool} {g : α → β → Bool} {m1 : M P α} {m2 : M P β} (o : OpT X (compareOp op) C g) (ha : PE X a (xE X.K cs Γ m1)) (hb : PE X b (xE X.K cs Γ m2)) (hm : behindInMarks op b = false) :
    PT X (.Compare a [op] [b] pos) (xT X.K cs Γ (bd m1 fun x => bd m2 fun y => grd (C x y) (rt (g x y)))) := by
  obtain ⟨r, ho, hr⟩ := o
  refine pt_imp (pt_cmpR ho ha hb hm) fun σ H Q ⟨H0, F0, B, F, p, z, p', S, hm, q⟩ => ?_
  obtain ⟨x, p1, h1, hm⟩ := bd_some hm
  obtain ⟨y, p2, h2, hm⟩ := bd_some hm
  obtain ⟨hC, hm⟩ := grd_some hm
  obtain ⟨rfl, rfl⟩ := rt_some hm
  exact ⟨H0, F0, B, F, p, x, p1, S, h1, fun v H1 F1 S1 T1 R1 => ⟨H0, F0, B, F1, p1, y, _, S1, h2, fun w H2 F2 S2 T2 R2 =>
    hr F2 H2 v w x y _ (S1.rep T2 R1) R2 hC fun u hu => ⟨_, hu.bl_eq, q H2 F2 S2 (T1.trans T2)⟩⟩⟩
theorem t_cmp0 [Enc α] [Enc β] {op : CmpOp} {g : α → β → Bool} {m1 : M P α} {m2 : M P β} (o : OpT X (compareOp op) yes2 g) (ha : PE X a (xE X.K cs Γ m1)) (hb : PE X b (xE X.K cs Γ m2)) (hm : behindInMarks op b = false) :
    PT X (.Compare a [op] [b] pos) (xT X.K cs Γ (bd m1 fun x => bd m2 fun y => rt (g x y))) := t_cmp o ha hb hm
/-- a < b < c -/
theorem x_chain [Enc α] [Enc β] [Enc γ] {op op' : CmpOp} {g : α → β → Bool} {g' : β → γ → Bool} {m1 : M P α} {m2 : M P β} {m3 : M P γ} (o : OpT X (compareOp op) yes2 g) (o' : OpT X (compareOp op') yes2 g')
    (ha : PE X a (xE X.K cs Γ m1)) (hb : PE X b (xE X.K cs Γ m2)) (hd : PE X d (xE X.K cs Γ m3)) (hm : lastMarks [op, op'] [b, d] = false := by with_unfolding_all rfl) :
    PE X (.Compare a [op, op'] [b, d] pos) (xE X.K cs Γ (bd m1 fun x => bd m2 fun y => if g x y = true then bd m3 fun z => rt (g' y z) else rt false)) := by
  obtain ⟨r, ho, hr⟩ := o
  obtain ⟨r', ho', hr'⟩ := o'
  refine pe_imp (pe_chain ho ho' ha hb hd hm) fun σ H Q ⟨H0, F0, B, F, p, z, p', S, hm, q⟩ => ?_
  obtain ⟨x, p1, h1, hm⟩ := bd_some hm
  obtain ⟨y, p2, h2, hm⟩ := bd_some hm
  refine ⟨H0, F0, B, F, p, x, p1, S, h1, fun v H1 F1 S1 T1 R1 => ⟨H0, F0, B, F1, p1, y, p2, S1, h2, fun w H2 F2 S2 T2 R2 =>
    hr F2 H2 v w x y _ (S1.rep T2 R1) R2 rfl fun u hu => ⟨_, hu.bl_eq, ?_⟩⟩⟩
  by_cases hg : g x y = true
  · rw [if_pos hg] at hm ⊢
    obtain ⟨k, p3, h3, hm⟩ := bd_some hm
    obtain ⟨rfl, rfl⟩ := rt_some hm
    exact ⟨H0, F0, B, F2, p2, k, _, S2, h3, fun u3 H3 F3 S3 T3 R3 => hr' F3 H3 w u3 y k Q (S2.rep T3 R2) R3 rfl fun u4 h4 => q u4 H3 F3 S3 ((T1.trans T2).trans T3) h4⟩
  · rw [if_neg hg] at hm ⊢
    obtain ⟨rfl, rfl⟩ := rt_some hm
    exact q _ H2 F2 S2 (T1.trans T2) (.bl _)
theorem t_chain [Enc α] [Enc β] [Enc γ] {op op' : CmpOp} {g : α → β → Bool} {g' : β → γ → Bool} {m1 : M P α} {m2 : M P β} {m3 : M P γ} (o : OpT X (compareOp op) yes2 g) (o' : OpT X (compareOp op') yes2 g')
    (ha : PE X a (xE X.K cs Γ m1)) (hb : PE X b (xE X.K cs Γ m2)) (hd : PE X d (xE X.K cs Γ m3)) (hm : lastMarks [op, op'] [b, d] = false := by with_unfolding_all rfl) :
    PT X (.Compare a [op, op'] [b, d] pos) (xT X.K cs Γ (bd m1 fun x => bd m2 fun y => if g x y = true then bd m3 fun z => rt (g' y z) else rt false)) := by
  obtain ⟨r, ho, hr⟩ := o
  obtain ⟨r', ho', hr'⟩ := o'
  refine pt_imp (pt_chain ho ho' ha hb hd hm) fun σ H Q ⟨H0, F0, B, F, p, z, p', S, hm, q⟩ => ?_
  obtain ⟨x, p1, h1, hm⟩ := bd_some hm
  obtain ⟨y, p2, h2, hm⟩ := bd_some hm
  refine ⟨H0, F0, B, F, p, x, p1, S, h1, fun v H1 F1 S1 T1 R1 => ⟨H0, F0, B, F1, p1, y, p2, S1, h2, fun w H2 F2 S2 T2 R2 =>
    hr F2 H2 v w x y _ (S1.rep T2 R1) R2 rfl fun u hu => ⟨_, hu.bl_eq, ?_⟩⟩⟩
  by_cases hg : g x y = true
  · rw [if_pos hg] at hm ⊢
    obtain ⟨k, p3, h3, hm⟩ := bd_some hm
    obtain ⟨rfl, rfl⟩ := rt_some hm
    exact ⟨H0, F0, B, F2, p2, k, _, S2, h3, fun u3 H3 F3 S3 T3 R3 => hr' F3 H3 w u3 y k _ (S2.rep T3 R2) R3 rfl fun u4 h4 => ⟨_, h4.bl_eq, q H3 F3 S3 ((T1.trans T2).trans T3)⟩⟩
  · rw [if_neg hg] at hm ⊢
    obtain ⟨rfl, rfl⟩ := rt_some hm
    exact ⟨_, rfl, q H2 F2 S2 (T1.trans T2)⟩

/-! ### the operators -/
theorem o_int {f : Value → Value → Sem Value} {g : Int → Int → Int} (h : OpR X f (rI0 fun i j => .int (g i j))) : OpT X f yes2 g :=
  ⟨_, h, fun F H x y a b Q ra rb _ q => ⟨a, b, ra.int_eq, rb.int_eq, q _ (.int _)⟩⟩
theorem o_intB {f : Value → Value → Sem Value} {g : Int → Int → Bool} (h : OpR X f (rI0 fun i j => .bl (g i j))) : OpT X f yes2 g :=
  ⟨_, h, fun F H x y a b Q ra rb _ q => ⟨a, b, ra.int_eq, rb.int_eq, q _ (.bl _)⟩⟩
theorem o_intC {f : Value → Value → Sem Value} {C : Int → Int → Prop} {D : Int → Int → Bool} {g : Int → Int → Int} (h : OpR X f (rI C fun i j => .int (g i j))) (hC : ∀ i j, D i j = true → C i j) : OpT X f D g :=
  ⟨_, h, fun F H x y a b Q ra rb c q => ⟨a, b, ra.int_eq, rb.int_eq, hC _ _ c, q _ (.int _)⟩⟩
theorem o_add : OpT X (binaryOp .Add) yes2 (fun i j : Int => i + j) := o_int op_add
theorem o_sub : OpT X (binaryOp .Sub) yes2 (fun i j : Int => i - j) := o_int op_sub
def okMul (i j : Int) : Bool := decide (i.natAbs < 18446744073709551616) || decide (j.natAbs < 18446744073709551616)
def okDiv (i j : Int) : Bool := decide (0 < j) && decide (j < 1073741824)
def okMod (i j : Int) : Bool := decide (0 < j)
def okPow (i j : Int) : Bool := decide (0 ≤ j) && decide (j ≤ 1000000) && decide (i.natAbs < 18446744073709551616)
theorem o_mul : OpT X (binaryOp .Mult) okMul (fun i j : Int => i * j) := o_intC op_mul fun i j h => by
  unfold okMul at h
  rw [Bool.or_eq_true] at h
  rcases h with h | h
  · have := of_decide_eq_true h
    exact .inl (by omega)
  · have := of_decide_eq_true h
    exact .inr (by omega)
theorem o_div : OpT X (binaryOp .FloorDiv) okDiv (fun i j : Int => i / j) := o_intC op_fdiv fun i j h => by
  unfold okDiv at h
  rw [Bool.and_eq_true] at h
  exact ⟨of_decide_eq_true h.1, of_decide_eq_true h.2⟩
theorem o_mod : OpT X (binaryOp .Mod) okMod (fun i j : Int => i % j) := o_intC op_mod fun i j h => of_decide_eq_true h
theorem o_pow : OpT X (binaryOp .Pow) okPow (fun i j : Int => i ^ j.toNat) := o_intC op_pow fun i j h => by
  unfold okPow at h
  rw [Bool.and_eq_true, Bool.and_eq_true] at h
  exact ⟨of_decide_eq_true h.1.1, of_decide_eq_true h.1.2, of_decide_eq_true h.2⟩
theorem o_lt : OpT X (compareOp .Lt) yes2 (fun i j : Int => decide (i < j)) := o_intB op_lt
theorem o_le : OpT X (compareOp .LtE) yes2 (fun i j : Int => decide (i ≤ j)) := o_intB op_le
theorem o_gt : OpT X (compareOp .Gt) yes2 (fun i j : Int => decide (j < i)) := o_intB op_gt
theorem o_ge : OpT X (compareOp .GtE) yes2 (fun i j : Int => decide (j ≤ i)) := o_intB op_ge
/-- == of data of a kind -/
theorem layAll [Enc α] (h : ∀ a : α, (enc a).canLay0 = true) : ∀ l : List α, PyData.canLayAll0 (l.map enc) = true
  | [] => by simp [PyData.canLayAll0]
  | a :: l => by simp [PyData.canLayAll0, h a, layAll h l]
class EncEq (α : Type) [Enc α] [DecidableEq α] where
  dp : Nat
  lay : ∀ a : α, (enc a).canLay0 = true
  dpt : ∀ a : α, (enc a).depth ≤ dp
  eqv : ∀ a b : α, PyData.eqv (enc a) (enc b) = decide (a = b)
theorem lay_of {d : PyData} (h : SeqAt.shaped d = true) : d.canLay0 = true := by
  have h : (d.canLay0 && decide (d.depth ≤ 64)) = true := h
  rw [Bool.and_eq_true] at h
  exact h.1
theorem shaped_of {d : PyData} {n : Nat} (h1 : d.canLay0 = true) (h2 : d.depth ≤ n) (h3 : n ≤ 64) : SeqAt.shaped d = true := by
  show (d.canLay0 && decide (d.depth ≤ 64)) = true
  rw [Bool.and_eq_true]
  exact ⟨h1, decide_eq_true (by omega)⟩
theorem o_eq [Enc α] [DecidableEq α] [EncEq α] (hu : X.A.units + 64 < cLine) (hd : EncEq.dp α ≤ 64 := by decide) : OpT X (compareOp .Eq) yes2 (fun i j : α => decide (i = j)) :=
  ⟨_, op_eqD hu, fun F H x y a b Q ra rb _ q => ⟨_, _, ra.dp (EncEq.lay a), rb.dp (EncEq.lay b), shaped_of (EncEq.lay a) (EncEq.dpt a) hd, shaped_of (EncEq.lay b) (EncEq.dpt b) hd, by
    rw [EncEq.eqv]; exact q _ (.bl _)⟩⟩
theorem o_ne [Enc α] [DecidableEq α] [EncEq α] (hu : X.A.units + 64 < cLine) (hd : EncEq.dp α ≤ 64 := by decide) : OpT X (compareOp .NotEq) yes2 (fun i j : α => !decide (i = j)) :=
  ⟨_, op_neD hu, fun F H x y a b Q ra rb _ q => ⟨_, _, ra.dp (EncEq.lay a), rb.dp (EncEq.lay b), shaped_of (EncEq.lay a) (EncEq.dpt a) hd, shaped_of (EncEq.lay b) (EncEq.dpt b) hd, by
    rw [EncEq.eqv]; exact q _ (.bl _)⟩⟩
/-- == of any two data -/
def okEqD (a b : PyData) : Bool := SeqAt.shaped a && SeqAt.shaped b
theorem o_eqD [Enc α] [Enc β] (hu : X.A.units + 64 < cLine) : OpT X (compareOp .Eq) (fun (a : α) (b : β) => okEqD (enc a) (enc b)) (fun (i : α) (j : β) => PyData.eqv (enc i) (enc j)) :=
  ⟨_, op_eqD hu, fun F H x y a b Q ra rb c q => by
    unfold okEqD at c
    rw [Bool.and_eq_true] at c
    exact ⟨_, _, ra.dp (lay_of c.1), rb.dp (lay_of c.2), c.1, c.2, q _ (.bl _)⟩⟩
theorem o_neD [Enc α] [Enc β] (hu : X.A.units + 64 < cLine) : OpT X (compareOp .NotEq) (fun (a : α) (b : β) => okEqD (enc a) (enc b)) (fun (i : α) (j : β) => !PyData.eqv (enc i) (enc j)) :=
  ⟨_, op_neD hu, fun F H x y a b Q ra rb c q => by
    unfold okEqD at c
    rw [Bool.and_eq_true] at c
    exact ⟨_, _, ra.dp (lay_of c.1), rb.dp (lay_of c.2), c.1, c.2, q _ (.bl _)⟩⟩
/-- x in xs -/
def isIn [DecidableEq α] (a : α) (l : List α) : Bool := l.any fun z => decide (z = a)
theorem depthAll_le [Enc α] {n : Nat} (h : ∀ a : α, (enc a).depth ≤ n) : ∀ l : List α, PyData.depthAll (l.map enc) ≤ n
  | [] => by simp [PyData.depthAll]
  | a :: l => by
    have h1 := h a
    have h2 := depthAll_le h l
    simp only [List.map_cons, PyData.depthAll]
    omega
theorem any_enc [Enc α] [DecidableEq α] [EncEq α] (a : α) : ∀ l : List α, (l.map enc).any (fun z => PyData.eqv z (enc a)) = isIn a l
  | [] => rfl
  | b :: l => by
    show (PyData.eqv (enc b) (enc a) || (l.map enc).any fun z => PyData.eqv z (enc a)) = (decide (b = a) || isIn a l)
    rw [any_enc a l, EncEq.eqv]
theorem o_in [Enc α] [DecidableEq α] [EncEq α] (hu : X.A.units + 65 < cLine) (hd : EncEq.dp α ≤ 60 := by decide) : OpT X (compareOp .In) yes2 (fun (i : α) (j : List α) => isIn i j) :=
  ⟨_, op_inD hu, fun F H x y a b Q ra rb _ q => ⟨_, _, ra.dp (EncEq.lay a), rb.dp (by show PyData.canLay0 (.list (b.map enc)) = true; simp only [PyData.canLay0]; exact layAll EncEq.lay b), shaped_of (EncEq.lay a) (EncEq.dpt a) (by omega), by
    refine shaped_of (n := EncEq.dp α + 1) (by show PyData.canLay0 (.list (b.map enc)) = true; simp only [PyData.canLay0]; exact layAll EncEq.lay b) ?_ (by omega)
    have := depthAll_le (EncEq.dpt (α := α)) b
    simp only [PyData.depth]
    omega, by rw [any_enc]; exact q _ (.bl _)⟩⟩
theorem o_notIn [Enc α] [DecidableEq α] [EncEq α] (hu : X.A.units + 65 < cLine) (hd : EncEq.dp α ≤ 60 := by decide) : OpT X (compareOp .NotIn) yes2 (fun (i : α) (j : List α) => !isIn i j) :=
  ⟨_, op_notInD hu, fun F H x y a b Q ra rb _ q => ⟨_, _, ra.dp (EncEq.lay a), rb.dp (by show PyData.canLay0 (.list (b.map enc)) = true; simp only [PyData.canLay0]; exact layAll EncEq.lay b), shaped_of (EncEq.lay a) (EncEq.dpt a) (by omega), by
    refine shaped_of (n := EncEq.dp α + 1) (by show PyData.canLay0 (.list (b.map enc)) = true; simp only [PyData.canLay0]; exact layAll EncEq.lay b) ?_ (by omega)
    have := depthAll_le (EncEq.dpt (α := α)) b
    simp only [PyData.depth]
    omega, by rw [any_enc]; exact q _ (.bl _)⟩⟩
end
section
variable {α β γ : Type}
instance eqInt : EncEq Int := ⟨0, fun _ => rfl, fun _ => by simp [enc, PyData.depth], fun a b => by
  show (a == b) = _
  exact Bool.beq_eq_decide_eq a b⟩
instance eqBool : EncEq Bool := ⟨0, fun _ => rfl, fun _ => by simp [enc, PyData.depth], fun a b => by
  show (a == b) = _
  exact Bool.beq_eq_decide_eq a b⟩
theorem eqvAll_enc [Enc α] [DecidableEq α] [EncEq α] : ∀ l k : List α, PyData.eqvAll (l.map enc) (k.map enc) = decide (l = k)
  | [], [] => by simp [PyData.eqvAll]
  | [], _ :: _ => by simp [PyData.eqvAll]
  | _ :: _, [] => by simp [PyData.eqvAll]
  | a :: l, b :: k => by
    simp only [List.map_cons, PyData.eqvAll, EncEq.eqv, eqvAll_enc l k]
    by_cases h1 : a = b
    · by_cases h2 : l = k <;> simp [h1, h2]
    · simp [h1]
instance eqList [Enc α] [DecidableEq α] [EncEq α] : EncEq (List α) := ⟨EncEq.dp α + 1, fun l => by
    show PyData.canLay0 (.list (l.map enc)) = true
    simp only [PyData.canLay0]
    exact layAll EncEq.lay l, fun l => by
    have := depthAll_le (EncEq.dpt (α := α)) l
    show PyData.depth (.list (l.map enc)) ≤ _
    simp only [PyData.depth]
    omega, fun a b => by
    show PyData.eqv (.list (a.map enc)) (.list (b.map enc)) = _
    simp only [PyData.eqv]
    exact eqvAll_enc a b⟩
instance eqTup [Enc α] [DecidableEq α] [EncEq α] : EncEq (Tup α) := ⟨EncEq.dp α + 1, fun l => by
    show PyData.canLay0 (.tuple (l.l.map enc)) = true
    simp only [PyData.canLay0]
    exact layAll EncEq.lay l.l, fun l => by
    have := depthAll_le (EncEq.dpt (α := α)) l.l
    show PyData.depth (.tuple (l.l.map enc)) ≤ _
    simp only [PyData.depth]
    omega, fun a b => by
    show PyData.eqv (.tuple (a.l.map enc)) (.tuple (b.l.map enc)) = _
    simp only [PyData.eqv]
    rw [eqvAll_enc]
    obtain ⟨a⟩ := a
    obtain ⟨b⟩ := b
    simp⟩
instance eqPair [Enc α] [DecidableEq α] [EncEq α] [Enc β] [DecidableEq β] [EncEq β] : EncEq (α × β) := ⟨max (EncEq.dp α) (EncEq.dp β) + 1, fun p => by
    show PyData.canLay0 (.tuple [enc p.1, enc p.2]) = true
    simp [PyData.canLay0, PyData.canLayAll0, EncEq.lay], fun p => by
    have h1 := EncEq.dpt p.1
    have h2 := EncEq.dpt p.2
    show PyData.depth (.tuple [enc p.1, enc p.2]) ≤ _
    simp only [PyData.depth, PyData.depthAll]
    omega, fun a b => by
    show PyData.eqv (.tuple [enc a.1, enc a.2]) (.tuple [enc b.1, enc b.2]) = _
    simp only [PyData.eqv, PyData.eqvAll, EncEq.eqv]
    obtain ⟨a1, a2⟩ := a
    obtain ⟨b1, b2⟩ := b
    by_cases h1 : a1 = b1 <;> by_cases h2 : a2 = b2 <;> simp [h1, h2]⟩
instance eqT3 [Enc α] [DecidableEq α] [EncEq α] [Enc β] [DecidableEq β] [EncEq β] [Enc γ] [DecidableEq γ] [EncEq γ] : EncEq (T3 α β γ) := ⟨max (EncEq.dp α) (max (EncEq.dp β) (EncEq.dp γ)) + 1, fun p => by
    show PyData.canLay0 (.tuple [enc p.a, enc p.b, enc p.c]) = true
    simp [PyData.canLay0, PyData.canLayAll0, EncEq.lay], fun p => by
    have h1 := EncEq.dpt p.a
    have h2 := EncEq.dpt p.b
    have h3 := EncEq.dpt p.c
    show PyData.depth (.tuple [enc p.a, enc p.b, enc p.c]) ≤ _
    simp only [PyData.depth, PyData.depthAll]
    omega, fun a b => by
    show PyData.eqv (.tuple [enc a.a, enc a.b, enc a.c]) (.tuple [enc b.a, enc b.b, enc b.c]) = _
    simp only [PyData.eqv, PyData.eqvAll, EncEq.eqv]
    obtain ⟨a1, a2, a3⟩ := a
    obtain ⟨b1, b2, b3⟩ := b
    by_cases h1 : a1 = b1 <;> by_cases h2 : a2 = b2 <;> by_cases h3 : a3 = b3 <;> simp [h1, h2, h3]⟩
end
end XL

/-! XL3: truth, displays, subscripts, built-in calls. -/
namespace XL
open PySem PySem.Spec L2
open PyProof.Rows hiding St
open Enc (enc)

section
variable {P α β γ δ W W' : Type} {cs : P → List (List Int)} {Γ : List Slot}
variable {X : Cx} {a b d e : Expr} {es rest : List Expr} {pos : Pos}
/-! ### truth -/
theorem t_val {m : M P Bool} (h : PE X e (xE X.K cs Γ m)) (he : ∀ whole, isTrue e X.env whole = (do let v ← whole; standAt e.pos; holding [v] (truthy v)) := by intro _; rfl) : PT X e (xT X.K cs Γ m) :=
  pt_imp (pt_val h he) fun σ H Q ⟨H0, F0, B, F, p, a, p', S, hm, q⟩ => ⟨H0, F0, B, F, p, a, p', S, hm, fun v H' F' S' T r => ⟨_, Rep.bl_eq r, q H' F' S' T⟩⟩
theorem t_not {m : M P Bool} (h : PT X a (xT X.K cs Γ m)) : PT X (.UnaryOp .Not a pos) (xT X.K cs Γ (bd m fun b => rt (!b))) :=
  pt_imp (pt_not h) fun σ H Q ⟨H0, F0, B, F, p, a, p', S, hm, q⟩ => by
    obtain ⟨x, p1, h1, h2⟩ := bd_some hm
    obtain ⟨rfl, rfl⟩ := rt_some h2
    exact ⟨H0, F0, B, F, p, x, _, S, h1, q⟩
theorem x_not {m : M P Bool} (h : PE X a (xE X.K cs Γ m)) : PE X (.UnaryOp .Not a pos) (xE X.K cs Γ (bd m fun b => rt (!b))) :=
  pe_imp (pe_not h) fun σ H Q ⟨H0, F0, B, F, p, a, p', S, hm, q⟩ => by
    obtain ⟨x, p1, h1, h2⟩ := bd_some hm
    obtain ⟨rfl, rfl⟩ := rt_some h2
    exact ⟨H0, F0, B, F, p, x, _, S, h1, fun v H' F' S' T r => ⟨_, Rep.bl_eq r, q _ H' F' S' T (.bl _)⟩⟩
theorem w_and1 {m : M P Bool} (h : PT X a (xT X.K cs Γ m)) : PW X (.BoolOp .And [a] pos) (xT X.K cs Γ m) := pw_and1 h
theorem w_or1 {m : M P Bool} (h : PT X a (xT X.K cs Γ m)) : PW X (.BoolOp .Or [a] pos) (xT X.K cs Γ m) := pw_or1 h
theorem w_and {m1 m2 : M P Bool} (ha : PT X a (xT X.K cs Γ m1)) (hb : PW X (.BoolOp .And (b :: rest) pos) (xT X.K cs Γ m2)) : PW X (.BoolOp .And (a :: b :: rest) pos) (xT X.K cs Γ (bd m1 fun x => if x = true then m2 else rt false)) :=
  pw_imp (pw_and ha hb) fun σ H Q ⟨H0, F0, B, F, p, z, p', S, hm, q⟩ => by
    obtain ⟨x, p1, h1, h2⟩ := bd_some hm
    refine ⟨H0, F0, B, F, p, x, p1, S, h1, fun H1 F1 S1 T1 => ?_⟩
    by_cases hx : x = true
    · rw [if_pos hx] at h2 ⊢
      exact ⟨H0, F0, B, F1, p1, z, p', S1, h2, fun H2 F2 S2 T2 => q H2 F2 S2 (T1.trans T2)⟩
    · rw [if_neg hx] at h2 ⊢
      obtain ⟨rfl, rfl⟩ := rt_some h2
      exact q H1 F1 S1 T1
theorem w_or {m1 m2 : M P Bool} (ha : PT X a (xT X.K cs Γ m1)) (hb : PW X (.BoolOp .Or (b :: rest) pos) (xT X.K cs Γ m2)) : PW X (.BoolOp .Or (a :: b :: rest) pos) (xT X.K cs Γ (bd m1 fun x => if x = true then rt true else m2)) :=
  pw_imp (pw_or ha hb) fun σ H Q ⟨H0, F0, B, F, p, z, p', S, hm, q⟩ => by
    obtain ⟨x, p1, h1, h2⟩ := bd_some hm
    refine ⟨H0, F0, B, F, p, x, p1, S, h1, fun H1 F1 S1 T1 => ?_⟩
    by_cases hx : x = true
    · rw [if_pos hx] at h2 ⊢
      obtain ⟨rfl, rfl⟩ := rt_some h2
      exact q H1 F1 S1 T1
    · rw [if_neg hx] at h2 ⊢
      exact ⟨H0, F0, B, F1, p1, z, p', S1, h2, fun H2 F2 S2 T2 => q H2 F2 S2 (T1.trans T2)⟩
theorem x_one {op : BoolOp} {m : M P Bool} (h : PE X a (xE X.K cs Γ m)) : PE X (.BoolOp op [a] pos) (xE X.K cs Γ m) := pe_one h
theorem x_and {m1 m2 : M P Bool} (ha : PE X a (xE X.K cs Γ m1)) (hb : PE X (.BoolOp .And (b :: rest) pos) (xE X.K cs Γ m2)) : PE X (.BoolOp .And (a :: b :: rest) pos) (xE X.K cs Γ (bd m1 fun x => if x = true then m2 else rt false)) :=
  pe_imp (pe_and ha hb) fun σ H Q ⟨H0, F0, B, F, p, z, p', S, hm, q⟩ => by
    obtain ⟨x, p1, h1, h2⟩ := bd_some hm
    refine ⟨H0, F0, B, F, p, x, p1, S, h1, fun v H1 F1 S1 T1 r => ⟨_, Rep.bl_eq r, ?_⟩⟩
    by_cases hx : x = true
    · rw [if_pos hx] at h2 ⊢
      exact ⟨H0, F0, B, F1, p1, z, p', S1, h2, fun v H2 F2 S2 T2 r => q v H2 F2 S2 (T1.trans T2) r⟩
    · rw [if_neg hx] at h2 ⊢
      obtain ⟨rfl, rfl⟩ := rt_some h2
      exact q _ H1 F1 S1 T1 (.bl _)
theorem x_or {m1 m2 : M P Bool} (ha : PE X a (xE X.K cs Γ m1)) (hb : PE X (.BoolOp .Or (b :: rest) pos) (xE X.K cs Γ m2)) : PE X (.BoolOp .Or (a :: b :: rest) pos) (xE X.K cs Γ (bd m1 fun x => if x = true then rt true else m2)) :=
  pe_imp (pe_or ha hb) fun σ H Q ⟨H0, F0, B, F, p, z, p', S, hm, q⟩ => by
    obtain ⟨x, p1, h1, h2⟩ := bd_some hm
    refine ⟨H0, F0, B, F, p, x, p1, S, h1, fun v H1 F1 S1 T1 r => ⟨_, Rep.bl_eq r, ?_⟩⟩
    by_cases hx : x = true
    · rw [if_pos hx] at h2 ⊢
      obtain ⟨rfl, rfl⟩ := rt_some h2
      exact q _ H1 F1 S1 T1 (.bl _)
    · rw [if_neg hx] at h2 ⊢
      exact ⟨H0, F0, B, F1, p1, z, p', S1, h2, fun v H2 F2 S2 T2 r => q v H2 F2 S2 (T1.trans T2) r⟩
theorem x_if {s : α → Slot} {mc : M P Bool} {m1 m2 : M P α} {c : Expr} (hc : PT X c (xT X.K cs Γ mc)) (ha : PE X a (xV X.K cs Γ s m1)) (hb : PE X b (xV X.K cs Γ s m2)) :
    PE X (.IfExp c a b pos) (xV X.K cs Γ s (bd mc fun x => if x = true then m1 else m2)) :=
  pe_imp (pe_ifExp hc ha hb) fun σ H Q ⟨H0, F0, B, F, p, z, p', S, hm, q⟩ => by
    obtain ⟨x, p1, h1, h2⟩ := bd_some hm
    refine ⟨H0, F0, B, F, p, x, p1, S, h1, fun H1 F1 S1 T1 => ?_⟩
    by_cases hx : x = true
    · rw [if_pos hx] at h2 ⊢
      exact ⟨H0, F0, B, F1, p1, z, p', S1, h2, fun v H2 F2 S2 T2 r => q v H2 F2 S2 (T1.trans T2) (r.back T1)⟩
    · rw [if_neg hx] at h2 ⊢
      exact ⟨H0, F0, B, F1, p1, z, p', S1, h2, fun v H2 F2 S2 T2 r => q v H2 F2 S2 (T1.trans T2) (r.back T1)⟩
theorem x_neg {m : M P Int} (h : PE X a (xE X.K cs Γ m)) : PE X (.UnaryOp .USub a pos) (xE X.K cs Γ (bd m fun x => rt (-x))) :=
  pe_imp (pe_un un_neg h) fun σ H Q ⟨H0, F0, B, F, p, a, p', S, hm, q⟩ => by
    obtain ⟨x, p1, h1, h2⟩ := bd_some hm
    obtain ⟨rfl, rfl⟩ := rt_some h2
    exact ⟨H0, F0, B, F, p, x, _, S, h1, fun v H' F' S' T r => ⟨x, Rep.int_eq r, q _ H' F' S' T (.int _)⟩⟩
/-- x is None -/
def isN : PyData → Bool
  | .none => true
  | _ => false
theorem isN_rep {K : PySem.W.Frag} {F : AS} {H : Hp} {v : V} {d : PyData} (r : Rep K F H v d) : decide (v = V.non) = isN d := by
  cases r <;> simp [isN]
theorem x_isNone [Enc α] {m : M P α} {j : Nat} {p' : Pos} (h : PE X a (xE X.K cs Γ m)) : PE X (.Compare a [.Is] [.Constant .none j p'] pos) (xE X.K cs Γ (bd m fun x => rt (isN (enc x)))) := by
  refine pe_imp (pe_cmp (pc_isN h) rfl) fun σ H Q ⟨H0, F0, B, F, p, a, p', S, hm, q⟩ => ?_
  obtain ⟨x, p1, h1, h2⟩ := bd_some hm
  obtain ⟨rfl, rfl⟩ := rt_some h2
  refine ⟨H0, F0, B, F, p, x, _, S, h1, fun v H' F' S' T r => ?_⟩
  have e := isN_rep (show Rep X.K F' H' v (enc x) from r)
  rw [← e] at q
  exact q _ H' F' S' T (.bl _)
theorem x_notNone [Enc α] {m : M P α} {j : Nat} {p' : Pos} (h : PE X a (xE X.K cs Γ m)) : PE X (.Compare a [.IsNot] [.Constant .none j p'] pos) (xE X.K cs Γ (bd m fun x => rt (!isN (enc x)))) := by
  refine pe_imp (pe_cmp (pc_notN h) rfl) fun σ H Q ⟨H0, F0, B, F, p, a, p', S, hm, q⟩ => ?_
  obtain ⟨x, p1, h1, h2⟩ := bd_some hm
  obtain ⟨rfl, rfl⟩ := rt_some h2
  refine ⟨H0, F0, B, F, p, x, _, S, h1, fun v H' F' S' T r => ?_⟩
  have e := isN_rep (show Rep X.K F' H' v (enc x) from r)
  rw [← e] at q
  exact q _ H' F' S' T (.bl _)
theorem t_isNone [Enc α] {m : M P α} {j : Nat} {p' : Pos} (h : PE X a (xE X.K cs Γ m)) : PT X (.Compare a [.Is] [.Constant .none j p'] pos) (xT X.K cs Γ (bd m fun x => rt (isN (enc x)))) := by
  refine pt_imp (pt_cmp (pc_isN h) rfl) fun σ H Q ⟨H0, F0, B, F, p, a, p', S, hm, q⟩ => ?_
  obtain ⟨x, p1, h1, h2⟩ := bd_some hm
  obtain ⟨rfl, rfl⟩ := rt_some h2
  refine ⟨H0, F0, B, F, p, x, _, S, h1, fun v H' F' S' T r => ?_⟩
  have e := isN_rep (show Rep X.K F' H' v (enc x) from r)
  rw [← e] at q
  exact ⟨_, rfl, q H' F' S' T⟩
theorem t_notNone [Enc α] {m : M P α} {j : Nat} {p' : Pos} (h : PE X a (xE X.K cs Γ m)) : PT X (.Compare a [.IsNot] [.Constant .none j p'] pos) (xT X.K cs Γ (bd m fun x => rt (!isN (enc x)))) := by
  refine pt_imp (pt_cmp (pc_notN h) rfl) fun σ H Q ⟨H0, F0, B, F, p, a, p', S, hm, q⟩ => ?_
  obtain ⟨x, p1, h1, h2⟩ := bd_some hm
  obtain ⟨rfl, rfl⟩ := rt_some h2
  refine ⟨H0, F0, B, F, p, x, _, S, h1, fun v H' F' S' T r => ?_⟩
  have e := isN_rep (show Rep X.K F' H' v (enc x) from r)
  rw [← e] at q
  exact ⟨_, rfl, q H' F' S' T⟩
/-- is, is not of bools -/
theorem o_isB : OpT X (compareOp .Is) yes2 (fun a b : Bool => decide (a = b)) := ⟨_, op_isBl, fun F H x y a b Q ra rb _ q => ⟨a, b, ra.bl_eq, rb.bl_eq, q _ (.bl _)⟩⟩
theorem o_isNotB : OpT X (compareOp .IsNot) yes2 (fun a b : Bool => !decide (a = b)) := ⟨_, op_notBl, fun F H x y a b Q ra rb _ q => ⟨a, b, ra.bl_eq, rb.bl_eq, q _ (.bl _)⟩⟩

/-! ### argument lists, displays -/
theorem a_nil : PA X [] (xA X.K cs Γ (fun _ : Unit => []) (rt ())) :=
  pa_imp pa_nil fun σ H Q ⟨H0, F0, B, F, p, a, p', S, hm, q⟩ => by
    obtain ⟨rfl, rfl⟩ := rt_some hm
    exact q [] H F S S.refl trivial
theorem svs_cons {K : PySem.W.Frag} {H0 H H1 H2 : Hp} {F0 F F1 F2 : AS} {B : List Addr} {c c2 : List (List Int)} {σ : L2.St} {v : V} {vs : List V} {s : Slot} {ss : List Slot} (S : SR K H0 F0 B c Γ σ H F) (S1 : SR K H0 F0 B c2 Γ σ H1 F1) (T1 : Stp F F1 H H1 B) (T2 : Stp F1 F2 H1 H2 B)
    (r : SV K F1 H H1 v s) (rs : SVs K F2 H1 H2 vs ss) : SVs K F2 H H2 (v :: vs) (s :: ss) := by
  refine ⟨r.keep S1 (fun b hb => S.trkB hb) T2, rs.back T1, fun ds e j es hj he => ?_⟩
  subst e
  obtain ⟨x, _, e1, _, e2, _⟩ := r
  obtain ⟨y, e3, e4⟩ := rs.own_new hj
  rw [e3, e1] at he
  cases he
  rw [e4] at e2
  cases e2
theorem a_cons {s : α → Slot} {ss : W → List Slot} {m1 : M P α} {m2 : M P W} (ha : PE X e (xV X.K cs Γ s m1)) (hb : PA X es (xA X.K cs Γ ss m2)) (hs : starEach (e :: es) X.env = (false, eval e X.env) :: starEach es X.env := by rfl) :
    PA X (e :: es) (xA X.K cs Γ (fun w : α × W => s w.1 :: ss w.2) (bd m1 fun x => bd m2 fun y => rt (x, y))) :=
  pa_imp (pa_cons ha hb hs) fun σ H Q ⟨H0, F0, B, F, p, z, p', S, hm, q⟩ => by
    obtain ⟨x, p1, h1, hm⟩ := bd_some hm
    obtain ⟨y, p2, h2, hm⟩ := bd_some hm
    obtain ⟨rfl, rfl⟩ := rt_some hm
    exact ⟨H0, F0, B, F, p, x, p1, S, h1, fun v H1 F1 S1 T1 R1 => ⟨H0, F0, B, F1, p1, y, _, S1, h2, fun vs H2 F2 S2 T2 R2 =>
      q (v :: vs) H2 F2 S2 (T1.trans T2) (svs_cons S S1 T1 T2 R1 R2)⟩⟩
theorem k_nil : PK X [] (xA X.K cs Γ (fun _ : Unit => []) (rt ())) :=
  pk_imp pk_nil fun σ H Q ⟨H0, F0, B, F, p, a, p', S, hm, q⟩ => by
    obtain ⟨rfl, rfl⟩ := rt_some hm
    exact q [] H F S S.refl trivial
theorem k_cons {s : α → Slot} {ss : W → List Slot} {m1 : M P α} {m2 : M P W} {kws : List Keyword} {nm : Option Str} {kpos : Pos} (ha : PE X e (xV X.K cs Γ s m1)) (hb : PK X kws (xA X.K cs Γ ss m2)) :
    PK X (⟨nm, e, kpos⟩ :: kws) (xA X.K cs Γ (fun w : α × W => s w.1 :: ss w.2) (bd m1 fun x => bd m2 fun y => rt (x, y))) :=
  pk_imp (pk_cons ha hb) fun σ H Q ⟨H0, F0, B, F, p, z, p', S, hm, q⟩ => by
    obtain ⟨x, p1, h1, hm⟩ := bd_some hm
    obtain ⟨y, p2, h2, hm⟩ := bd_some hm
    obtain ⟨rfl, rfl⟩ := rt_some hm
    exact ⟨H0, F0, B, F, p, x, p1, S, h1, fun v H1 F1 S1 T1 R1 => ⟨H0, F0, B, F1, p1, y, _, S1, h2, fun vs H2 F2 S2 T2 R2 =>
      q (v :: vs) H2 F2 S2 (T1.trans T2) (svs_cons S S1 T1 T2 R1 R2)⟩⟩
/-- items of a display, all of one kind -/
theorem l_nil [Enc α] : PA X [] (xA X.K cs Γ (fun l : List α => l.map dE) (rt [])) :=
  pa_imp pa_nil fun σ H Q ⟨H0, F0, B, F, p, a, p', S, hm, q⟩ => by
    obtain ⟨rfl, rfl⟩ := rt_some hm
    exact q [] H F S S.refl trivial
theorem l_cons [Enc α] {m1 : M P α} {m2 : M P (List α)} (ha : PE X e (xE X.K cs Γ m1)) (hb : PA X es (xA X.K cs Γ (fun l : List α => l.map dE) m2)) (hs : starEach (e :: es) X.env = (false, eval e X.env) :: starEach es X.env := by rfl) :
    PA X (e :: es) (xA X.K cs Γ (fun l : List α => l.map dE) (bd m1 fun x => bd m2 fun y => rt (x :: y))) :=
  pa_imp (pa_cons ha hb hs) fun σ H Q ⟨H0, F0, B, F, p, z, p', S, hm, q⟩ => by
    obtain ⟨x, p1, h1, hm⟩ := bd_some hm
    obtain ⟨y, p2, h2, hm⟩ := bd_some hm
    obtain ⟨rfl, rfl⟩ := rt_some hm
    exact ⟨H0, F0, B, F, p, x, p1, S, h1, fun v H1 F1 S1 T1 R1 => ⟨H0, F0, B, F1, p1, y, _, S1, h2, fun vs H2 F2 S2 T2 R2 =>
      q (v :: vs) H2 F2 S2 (T1.trans T2) (svs_cons S S1 T1 T2 R1 R2)⟩⟩
end

/-! ### new objects -/
section
variable {K : PySem.W.Frag} {Γ : List Slot} {H0 H H' : Hp} {F0 F F' : AS} {B : List Addr} {c : List (List Int)} {σ : L2.St} {p : Addr} {vs : List V} {ds : List PyData}
/-- a new list of its own -/
theorem own_new (S : SR K H0 F0 B c Γ σ H F) (hp : H p = none) (r : Reps K F H vs ds) :
    SR K H0 F0 B c Γ σ (upd H p (.lst vs)) F ∧ Stp F F H (upd H p (.lst vs)) B ∧ SV K F H (upd H p (.lst vs)) (.ref p) (.own ds) := by
  have T : Stp F F H (upd H p (.lst vs)) B := upd_stp0 hp S.dom
  refine ⟨S.step T fun b hb => ?_, T, p, vs, rfl, hp, upd_same, S.reps T r, fun z => ?_⟩
  · obtain ⟨o, e⟩ := S.trkB hb
    exact upd_ne (ne_of_none e hp)
  · obtain ⟨o, e⟩ := S.dom p z
    rw [hp] at e; cases e
/-- a new tuple -/
theorem tup_new (S : SR K H0 F0 B c Γ σ H F) (hp : H p = none) (r : Reps K F H vs ds) :
    SR K H0 F0 B c Γ σ (upd H p (.tup vs)) (addA F p) ∧ Stp F (addA F p) H (upd H p (.tup vs)) B ∧ SV K (addA F p) H (upd H p (.tup vs)) (.ref p) (.dat (.tuple ds)) := by
  have T : Stp F (addA F p) H (upd H p (.tup vs)) B := upd_stp hp S.dom
  refine ⟨S.step T fun b hb => ?_, T, .tup (.inr rfl) upd_same (S.reps T r)⟩
  obtain ⟨o, e⟩ := S.trkB hb
  exact upd_ne (ne_of_none e hp)
/-- a list of its own becomes data -/
theorem frz_new (S : SR K H0 F0 B c Γ σ H F) {c' : List (List Int)} (S' : SR K H0 F0 B c' Γ σ H' F') (T : Stp F F' H H' B) {v : V} (r : SV K F' H H' v (.own ds)) :
    ∃ F'', SR K H0 F0 B c' Γ σ H' F'' ∧ Stp F F'' H H' B ∧ SV K F'' H H' v (.dat (.list ds)) := by
  obtain ⟨a, vs, rfl, hn, ha, rs, nf⟩ := r
  have nb : a ∉ B := fun z => by
    obtain ⟨o, e⟩ := S.trkB z
    rw [hn] at e; cases e
  refine ⟨addA F' a, ⟨⟨fun b h => .inl (S'.stp.mono b h), S'.stp.same, S'.stp.brw, fun b h => ?_, fun b h => ?_⟩, fun b hb h => ?_, S'.inB, S'.bnd, S'.bor, fun i s h => ?_, S'.dis, S'.len⟩, ⟨fun b h => .inl (T.mono b h), T.same, T.brw, fun b h => ?_, fun b h => ?_⟩, ?_⟩
  · rcases h with h | h
    · exact S'.stp.new b h
    · subst h; exact .inr (S.stp.back hn)
  · rcases h with h | h
    · exact S'.dom b h
    · subst h; exact ⟨_, ha⟩
  · rcases h with h | h
    · exact S'.nB b hb h
    · subst h; exact nb hb
  · have q := S'.slot i s h
    have q0 := S.slot i s h
    cases s with
    | un => trivial
    | dat d =>
      obtain ⟨v, e, r⟩ := q
      exact ⟨v, e, r.mono (fun b h => .inl h) fun _ _ => rfl⟩
    | own es =>
      obtain ⟨a', us, e, ha', r, nf', n0⟩ := q
      obtain ⟨a2, us2, e2, ha2, _, _, _⟩ := q0
      rw [e] at e2
      cases e2
      refine ⟨a', us, e, ha', r.mono (fun b h => .inl h) (fun _ _ => rfl), fun z => ?_, n0⟩
      rcases z with z | z
      · exact nf' z
      · subst z; rw [hn] at ha2; cases ha2
    | bor j => exact q
  · rcases h with h | h
    · exact T.new b h
    · subst h; exact .inr hn
  · rcases h with h | h
    · exact S'.dom b h
    · subst h; exact ⟨_, ha⟩
  · exact .lst (.inr rfl) ha (rs.mono (fun b h => .inl h) fun _ _ => rfl)
end

section
variable {P α β γ δ W W' : Type} {cs : P → List (List Int)} {Γ : List Slot}
variable {X : Cx} {a b d e : Expr} {es rest : List Expr} {pos : Pos}
theorem len_line {n : Nat} (h : n < 1000) : n ≤ sizeLine := Nat.le_trans (Nat.le_of_lt h) (by decide)
/-- a list's size as the model bounds it -/
def okLen (n : Nat) : Bool := decide (n < 16777216)
theorem okLen_lt {n : Nat} (h : okLen n = true) : n < sizeLine := by
  have := of_decide_eq_true h
  rw [sizeLine_eq]
  exact this
theorem map_dE [Enc α] (l : List α) : l.map dE = (l.map enc).map Slot.dat := by rw [List.map_map]; rfl
theorem x_lst [Enc α] {m : M P (List α)} (h : PA X es (xA X.K cs Γ (fun l : List α => l.map dE) m)) : PE X (.List es pos) (xO X.K cs Γ (bd m fun l => grd (okLen l.length) (rt l))) :=
  pe_imp (pe_lst h) fun σ H Q ⟨H0, F0, B, F, p, z, p', S, hm, q⟩ => by
    obtain ⟨x, p1, h1, hm⟩ := bd_some hm
    obtain ⟨hl, hm⟩ := grd_some hm
    obtain ⟨rfl, rfl⟩ := rt_some hm
    refine ⟨H0, F0, B, F, p, x, _, S, h1, fun vs H' F' S' T r => ?_⟩
    have r : SVs X.K F' H H' vs (x.map dE) := r
    rw [map_dE] at r
    have rr := r.reps
    have e := rr.len
    rw [List.length_map] at e
    refine ⟨by rw [e]; exact Nat.le_of_lt (okLen_lt hl), fun a ha => ?_⟩
    obtain ⟨S2, T2, r2⟩ := own_new S' ha rr
    exact q _ _ _ S2 (T.trans T2) (r2.back T)
/-- [] -/
theorem x_lst0 [Enc α] : PE X (.List [] pos) (xO X.K cs Γ (rt ([] : List α))) := x_lst (P := P) (cs := cs) (Γ := Γ) (pos := pos) (l_nil (α := α))
/-- a list of its own as data -/
theorem x_dat [Enc α] {m : M P (List α)} (h : PE X e (xO X.K cs Γ m)) : PE X e (xE X.K cs Γ m) :=
  pe_imp h fun σ H Q ⟨H0, F0, B, F, p, z, p', S, hm, q⟩ => ⟨H0, F0, B, F, p, z, p', S, hm, fun v H' F' S' T r => by
    obtain ⟨F'', S2, T2, r2⟩ := frz_new S S' T r
    exact q v H' F'' S2 T2 r2⟩
theorem x_tupG {ss : W → List Slot} (f : W → List PyData) (g : W → α) [Enc α] (hss : ∀ w, ss w = (f w).map Slot.dat) (hg : ∀ w, enc (g w) = .tuple (f w)) (hl : ∀ w, (f w).length < 1000) {m : M P W} (h : PA X es (xA X.K cs Γ ss m)) {k : Nat} :
    PE X (.Tuple es k pos) (xE X.K cs Γ (bd m fun w => rt (g w))) :=
  pe_imp (pe_tup h) fun σ H Q ⟨H0, F0, B, F, p, z, p', S, hm, q⟩ => by
    obtain ⟨x, p1, h1, hm⟩ := bd_some hm
    obtain ⟨rfl, rfl⟩ := rt_some hm
    refine ⟨H0, F0, B, F, p, x, _, S, h1, fun vs H' F' S' T r => ?_⟩
    rw [hss] at r
    have rr := r.reps
    have e := rr.len
    refine ⟨by rw [e]; exact len_line (hl x), fun a ha => ?_⟩
    obtain ⟨S2, T2, r2⟩ := tup_new S' ha rr
    refine q _ _ _ S2 (T.trans T2) ?_
    show SV _ _ _ _ _ (.dat (enc (g x)))
    rw [hg]
    exact r2
theorem x_tup2 [Enc α] [Enc β] {m : M P (α × β × Unit)} {k : Nat} (h : PA X es (xA X.K cs Γ (fun w : α × β × Unit => [dE w.1, dE w.2.1]) m)) : PE X (.Tuple es k pos) (xE X.K cs Γ (bd m fun w => rt (w.1, w.2.1))) :=
  x_tupG (fun w : α × β × Unit => [enc w.1, enc w.2.1]) (fun w : α × β × Unit => (w.1, w.2.1)) (fun _ => rfl) (fun _ => rfl) (fun _ => by show 2 < 1000; decide) h
theorem x_tup3 [Enc α] [Enc β] [Enc γ] {m : M P (α × β × γ × Unit)} {k : Nat} (h : PA X es (xA X.K cs Γ (fun w : α × β × γ × Unit => [dE w.1, dE w.2.1, dE w.2.2.1]) m)) : PE X (.Tuple es k pos) (xE X.K cs Γ (bd m fun w => rt (T3.mk w.1 w.2.1 w.2.2.1))) :=
  x_tupG (fun w : α × β × γ × Unit => [enc w.1, enc w.2.1, enc w.2.2.1]) (fun w : α × β × γ × Unit => T3.mk w.1 w.2.1 w.2.2.1) (fun _ => rfl) (fun _ => rfl) (fun _ => by show 3 < 1000; decide) h
theorem x_tup4 [Enc α] [Enc β] [Enc γ] [Enc δ] {m : M P (α × β × γ × δ × Unit)} {k : Nat} (h : PA X es (xA X.K cs Γ (fun w : α × β × γ × δ × Unit => [dE w.1, dE w.2.1, dE w.2.2.1, dE w.2.2.2.1]) m)) : PE X (.Tuple es k pos) (xE X.K cs Γ (bd m fun w => rt (T4.mk w.1 w.2.1 w.2.2.1 w.2.2.2.1))) :=
  x_tupG (fun w : α × β × γ × δ × Unit => [enc w.1, enc w.2.1, enc w.2.2.1, enc w.2.2.2.1]) (fun w : α × β × γ × δ × Unit => T4.mk w.1 w.2.1 w.2.2.1 w.2.2.2.1) (fun _ => rfl) (fun _ => rfl) (fun _ => by show 4 < 1000; decide) h
/-- a written tuple of one kind -/
theorem x_tupL [Enc α] {m : M P (List α)} {k : Nat} (h : PA X es (xA X.K cs Γ (fun l : List α => l.map dE) m)) : PE X (.Tuple es k pos) (xE X.K cs Γ (bd m fun l => grd (okLen l.length) (rt (Tup.mk l)))) :=
  pe_imp (pe_tup h) fun σ H Q ⟨H0, F0, B, F, p, z, p', S, hm, q⟩ => by
    obtain ⟨x, p1, h1, hm⟩ := bd_some hm
    obtain ⟨hl, hm⟩ := grd_some hm
    obtain ⟨rfl, rfl⟩ := rt_some hm
    refine ⟨H0, F0, B, F, p, x, _, S, h1, fun vs H' F' S' T r => ?_⟩
    have r : SVs X.K F' H H' vs (x.map dE) := r
    rw [map_dE] at r
    have rr := r.reps
    have e := rr.len
    rw [List.length_map] at e
    refine ⟨by rw [e]; exact Nat.le_of_lt (okLen_lt hl), fun a ha => ?_⟩
    obtain ⟨S2, T2, r2⟩ := tup_new S' ha rr
    exact q _ _ _ S2 (T.trans T2) r2

/-! ### subscripts -/
theorem ixR_atI {K : PySem.W.Frag} {F : AS} {H : Hp} {vs : List V} {ds : List PyData} {i : Int} {d : PyData} (r : Reps K F H vs ds) (h : atI ds i = some d) : ∃ v, atI vs i = some v ∧ Rep K F H v d := by
  unfold atI at h ⊢
  rw [r.len]
  cases e : ixN ds.length i with
  | none => rw [e] at h; cases h
  | some j =>
    rw [e] at h
    exact r.get h
theorem atI_map [Enc α] {l : List α} {i : Int} {x : α} (h : atI l i = some x) : atI (l.map enc) i = some (enc x) := by
  unfold atI at h ⊢
  rw [List.length_map]
  cases e : ixN l.length i with
  | none => rw [e] at h; cases h
  | some j =>
    rw [e] at h
    have h : l[j]? = some x := h
    show (l.map enc)[j]? = some (enc x)
    rw [List.getElem?_map, h]
    rfl
/-- a subscript by data: where f tells the item -/
theorem x_ixG [Enc α] [Enc β] {f : α → Int → Option β} {m1 : M P α} {m2 : M P Int} (ha : PE X a (xE X.K cs Γ m1)) (hb : PE X b (xE X.K cs Γ m2)) (hs : PlainIx b)
    (hf : ∀ x i y, f x i = some y → (∃ ds, (enc x = .list ds ∨ enc x = .tuple ds ∨ enc x = .dict (ds.map fun d => (d, .none))) ∧ atI ds i = some (enc y))) :
    PE X (.Subscript a b pos) (xE X.K cs Γ (bd m1 fun x => bd m2 fun i => ofO (f x i))) :=
  pe_imp (pe_ix ix_seq ha hb hs) fun σ H Q ⟨H0, F0, B, F, p, z, p', S, hm, q⟩ => by
    obtain ⟨x, p1, h1, hm⟩ := bd_some hm
    obtain ⟨i, p2, h2, hm⟩ := bd_some hm
    obtain ⟨h3, rfl⟩ := ofO_some hm
    refine ⟨H0, F0, B, F, p, x, p1, S, h1, fun v H1 F1 S1 T1 R1 => ⟨H0, F0, B, F1, p1, i, _, S1, h2, fun w H2 F2 S2 T2 R2 => ?_⟩⟩
    have R1' : Rep X.K F2 H2 v (enc x) := S1.rep T2 R1
    have ew : w = .int i := Rep.int_eq R2
    subst ew
    obtain ⟨ds, hd | hd | hd, hi⟩ := hf x i z h3
    · rw [hd] at R1'
      cases R1' with
      | lst g1 g2 g3 =>
        obtain ⟨u, hu, ru⟩ := ixR_atI g3 hi
        exact .inl ⟨_, _, i, u, rfl, rfl, SqL.of g2, hu, q u H2 F2 S2 (T1.trans T2) ru⟩
    · rw [hd] at R1'
      cases R1' with
      | tup g1 g2 g3 =>
        obtain ⟨u, hu, ru⟩ := ixR_atI g3 hi
        exact .inr (.inl ⟨_, _, i, u, rfl, rfl, SqT.of g2, hu, q u H2 F2 S2 (T1.trans T2) ru⟩)
    · rw [hd] at R1'
      generalize e : PyData.dict (ds.map fun d => (d, PyData.none)) = dd at R1'
      cases R1' with
      | @scr a xs es g1 g2 g3 =>
        have e2 : ds = es := scr_inj (by injection e)
        subst e2
        obtain ⟨u, hu, ru⟩ := ixR_atI g3 hi
        exact .inl ⟨_, _, i, u, rfl, rfl, g2, hu, q u H2 F2 S2 (T1.trans T2) ru⟩
      | _ => cases e
theorem x_ix [Enc α] {m1 : M P (List α)} {m2 : M P Int} (ha : PE X a (xE X.K cs Γ m1)) (hb : PE X b (xE X.K cs Γ m2)) (hs : PlainIx b) : PE X (.Subscript a b pos) (xE X.K cs Γ (bd m1 fun x => bd m2 fun i => ofO (atI x i))) :=
  x_ixG ha hb hs fun x i y h => ⟨x.map enc, .inl rfl, atI_map h⟩
theorem x_ixT [Enc α] {m1 : M P (Tup α)} {m2 : M P Int} (ha : PE X a (xE X.K cs Γ m1)) (hb : PE X b (xE X.K cs Γ m2)) (hs : PlainIx b) : PE X (.Subscript a b pos) (xE X.K cs Γ (bd m1 fun x => bd m2 fun i => ofO (atI x.l i))) :=
  x_ixG ha hb hs fun x i y h => ⟨x.l.map enc, .inr (.inl rfl), atI_map h⟩
def ixD (d : PyData) (i : Int) : Option PyData := match d with
  | .list ds => atI ds i
  | .tuple ds => atI ds i
  | _ => none
theorem x_ixD {m1 : M P PyData} {m2 : M P Int} (ha : PE X a (xE X.K cs Γ m1)) (hb : PE X b (xE X.K cs Γ m2)) (hs : PlainIx b) : PE X (.Subscript a b pos) (xE X.K cs Γ (bd m1 fun x => bd m2 fun i => ofO (ixD x i))) :=
  x_ixG ha hb hs fun x i y h => by
    cases x with
    | list ds => exact ⟨ds, .inl rfl, h⟩
    | tuple ds => exact ⟨ds, .inr (.inl rfl), h⟩
    | _ => cases h
/-- the script -/
structure Scr where
  l : List Int
instance encScr : Enc Scr := ⟨fun s => .dict ((s.l.map enc).map fun d => (d, .none))⟩
theorem x_ixS {m1 : M P Scr} {m2 : M P Int} (ha : PE X a (xE X.K cs Γ m1)) (hb : PE X b (xE X.K cs Γ m2)) (hs : PlainIx b) : PE X (.Subscript a b pos) (xE X.K cs Γ (bd m1 fun x => bd m2 fun i => ofO (atI x.l i))) :=
  x_ixG ha hb hs fun x i y h => ⟨x.l.map enc, .inr (.inr rfl), atI_map h⟩
/-- a tuple's place -/
theorem x_place [Enc α] [Enc β] {i : Int} {j : Nat} {p' : Pos} {m1 : M P α} (g : α → β) (ds : α → List PyData) (ha : PE X a (xE X.K cs Γ m1)) (h1 : ∀ x, enc x = .tuple (ds x)) (h2 : ∀ x, atI (ds x) i = some (enc (g x))) :
    PE X (.Subscript a (.Constant (.int i) j p') pos) (xE X.K cs Γ (bd m1 fun x => rt (g x))) :=
by
  have e : (bd m1 fun x => bd (rt i) fun k => ofO (if k = i then some (g x) else none)) = bd m1 fun x => rt (g x) := by
    congr 1
    funext x
    show ofO (if i = i then some (g x) else none) = rt (g x)
    rw [if_pos rfl]
    rfl
  rw [← e]
  refine x_ixG (f := fun x k => if k = i then some (g x) else none) ha x_int (fun _ _ => rfl) fun x k y h => ⟨ds x, .inr (.inl (h1 x)), ?_⟩
  by_cases hk : k = i
  · rw [if_pos hk] at h
    rw [hk, h2]
    exact congrArg some (congrArg enc (Option.some.inj h))
  · rw [if_neg hk] at h
    cases h
theorem x_fst [Enc α] [Enc β] {p' : Pos} {j : Nat} {m : M P (α × β)} (h : PE X a (xE X.K cs Γ m)) : PE X (.Subscript a (.Constant (.int 0) j p') pos) (xE X.K cs Γ (bd m fun x => rt x.1)) :=
  x_place (fun x : α × β => x.1) (fun x => [enc x.1, enc x.2]) h (fun _ => rfl) fun _ => rfl
theorem x_snd [Enc α] [Enc β] {p' : Pos} {j : Nat} {m : M P (α × β)} (h : PE X a (xE X.K cs Γ m)) : PE X (.Subscript a (.Constant (.int 1) j p') pos) (xE X.K cs Γ (bd m fun x => rt x.2)) :=
  x_place (fun x : α × β => x.2) (fun x => [enc x.1, enc x.2]) h (fun _ => rfl) fun _ => rfl
theorem x_31 [Enc α] [Enc β] [Enc γ] {p' : Pos} {j : Nat} {m : M P (T3 α β γ)} (h : PE X a (xE X.K cs Γ m)) : PE X (.Subscript a (.Constant (.int 0) j p') pos) (xE X.K cs Γ (bd m fun x => rt x.a)) :=
  x_place (fun x : T3 α β γ => x.a) (fun x => [enc x.a, enc x.b, enc x.c]) h (fun _ => rfl) fun _ => rfl
theorem x_32 [Enc α] [Enc β] [Enc γ] {p' : Pos} {j : Nat} {m : M P (T3 α β γ)} (h : PE X a (xE X.K cs Γ m)) : PE X (.Subscript a (.Constant (.int 1) j p') pos) (xE X.K cs Γ (bd m fun x => rt x.b)) :=
  x_place (fun x : T3 α β γ => x.b) (fun x => [enc x.a, enc x.b, enc x.c]) h (fun _ => rfl) fun _ => rfl
theorem x_33 [Enc α] [Enc β] [Enc γ] {p' : Pos} {j : Nat} {m : M P (T3 α β γ)} (h : PE X a (xE X.K cs Γ m)) : PE X (.Subscript a (.Constant (.int 2) j p') pos) (xE X.K cs Γ (bd m fun x => rt x.c)) :=
  x_place (fun x : T3 α β γ => x.c) (fun x => [enc x.a, enc x.b, enc x.c]) h (fun _ => rfl) fun _ => rfl
end
end XL

/-! XL4: calls of built-ins and of defs. -/
namespace XL
open PySem PySem.Spec L2
open PyProof.Rows hiding St
open Enc (enc)

section
variable {P α β γ δ W W' : Type} {cs : P → List (List Int)} {Γ : List Slot}
variable {X : Cx} {a b d e : Expr} {es rest : List Expr} {p pos : Pos} {x : Str}
/-! ### built-ins of one, of two arguments -/
def Cal1 [Enc α] [Enc β] (X : Cx) (f : Value) (C : α → Bool) (g : α → β) : Prop :=
  ∃ r, CallR X f r ∧ ∀ (F : AS) (H : Hp) (v : V) (a : α) (Q : VK), Rep X.K F H v (enc a) → C a = true → (∀ w, Rep X.K F H w (enc (g a)) → Q w H) → r [v] H Q
def Cal2 [Enc α] [Enc β] [Enc γ] (X : Cx) (f : Value) (C : α → β → Bool) (g : α → β → γ) : Prop :=
  ∃ r, CallR X f r ∧ ∀ (F : AS) (H : Hp) (v u : V) (a : α) (b : β) (Q : VK), Rep X.K F H v (enc a) → Rep X.K F H u (enc b) → C a b = true → (∀ w, Rep X.K F H w (enc (g a b)) → Q w H) → r [v, u] H Q
/-- .. that make a list -/
def CalO [Enc α] [Enc β] (X : Cx) (f : Value) (C : α → Bool) (g : α → List β) : Prop :=
  ∃ r, CallR X f r ∧ ∀ (F : AS) (H : Hp) (v : V) (a : α) (Q : VK), Rep X.K F H v (enc a) → C a = true → (∀ vs l, H l = none → Reps X.K F H vs ((g a).map enc) → Q (.ref l) (upd H l (.lst vs))) → r [v] H Q
/-- .. a tuple -/
def CalT [Enc α] [Enc β] (X : Cx) (f : Value) (C : α → Bool) (g : α → Tup β) : Prop :=
  ∃ r, CallR X f r ∧ ∀ (F : AS) (H : Hp) (v : V) (a : α) (Q : VK), Rep X.K F H v (enc a) → C a = true → (∀ vs l, H l = none → Reps X.K F H vs ((g a).l.map enc) → Q (.ref l) (upd H l (.tup vs))) → r [v] H Q
theorem svs1 {K : PySem.W.Frag} {F' : AS} {H H' : Hp} {vs : List V} {s : Slot} (h : SVs K F' H H' vs [s]) : ∃ v, vs = [v] ∧ SV K F' H H' v s := by
  match vs, h with
  | [v], ⟨h1, _, _⟩ => exact ⟨v, rfl, h1⟩
  | _ :: _ :: _, ⟨_, h2, _⟩ => exact h2.elim
theorem svs2 {K : PySem.W.Frag} {F' : AS} {H H' : Hp} {vs : List V} {s t : Slot} (h : SVs K F' H H' vs [s, t]) : ∃ v u, vs = [v, u] ∧ SV K F' H H' v s ∧ SV K F' H H' u t := by
  match vs, h with
  | [v, u], ⟨h1, ⟨h2, _, _⟩, _⟩ => exact ⟨v, u, rfl, h1, h2⟩
  | [_], ⟨_, h2, _⟩ => exact h2.elim
  | _ :: _ :: _ :: _, ⟨_, ⟨_, h2, _⟩, _⟩ => exact h2.elim
abbrev ar1 (m : M P α) : M P (α × Unit) := bd m fun x => bd (rt ()) fun y => rt (x, y)
theorem ar1_some {m : M P α} {q q' : P} {r : α × Unit} (h : ar1 m q = some (r, q')) : m q = some (r.1, q') := by
  obtain ⟨y, p1, h1, h⟩ := bd_some h
  obtain ⟨z, p2, h2, h⟩ := bd_some h
  obtain ⟨rfl, rfl⟩ := rt_some h2
  obtain ⟨rfl, rfl⟩ := rt_some h
  exact h1
theorem c_1 [Enc α] [Enc β] {C : α → Bool} {g : α → β} {f : Value} {m : M P α} (o : Cal1 X f C g) (hc : ∀ {r t}, CallR X f r → PA X [e] t → PE X (.Call (.Name x p) [e] [] pos) (tCB r t)) (ha : PE X e (xE X.K cs Γ m)) (hs : starEach [e] X.env = (false, eval e X.env) :: starEach [] X.env := by rfl) :
    PE X (.Call (.Name x p) [e] [] pos) (xE X.K cs Γ (bd m fun a => grd (C a) (rt (g a)))) := by
  obtain ⟨r, ho, hr⟩ := o
  refine pe_imp (hc ho (a_cons ha a_nil hs)) fun σ H Q ⟨H0, F0, B, F, p, z, p', S, hm, q⟩ => ?_
  obtain ⟨y, p1, h1, hm⟩ := bd_some hm
  obtain ⟨hC, hm⟩ := grd_some hm
  obtain ⟨rfl, rfl⟩ := rt_some hm
  refine ⟨H0, F0, B, F, p, (y, ()), p1, S, by rw [bd_eq h1]; rfl, fun vs H' F' S' T R => ?_⟩
  obtain ⟨v, rfl, R1⟩ := svs1 R
  exact hr F' H' v y Q R1 hC fun w hw => q w H' F' S' T hw
theorem c_2 [Enc α] [Enc β] [Enc γ] {C : α → β → Bool} {g : α → β → γ} {f : Value} {m1 : M P α} {m2 : M P β} (o : Cal2 X f C g) (hc : ∀ {r t}, CallR X f r → PA X [a, b] t → PE X (.Call (.Name x p) [a, b] [] pos) (tCB r t)) (ha : PE X a (xE X.K cs Γ m1)) (hb : PE X b (xE X.K cs Γ m2))
    (hs : starEach [a, b] X.env = (false, eval a X.env) :: starEach [b] X.env := by rfl) (hs2 : starEach [b] X.env = (false, eval b X.env) :: starEach [] X.env := by rfl) :
    PE X (.Call (.Name x p) [a, b] [] pos) (xE X.K cs Γ (bd m1 fun x => bd m2 fun y => grd (C x y) (rt (g x y)))) := by
  obtain ⟨r, ho, hr⟩ := o
  refine pe_imp (hc ho (a_cons ha (a_cons hb a_nil hs2) hs)) fun σ H Q ⟨H0, F0, B, F, p, z, p', S, hm, q⟩ => ?_
  obtain ⟨y, p1, h1, hm⟩ := bd_some hm
  obtain ⟨u, p2, h2, hm⟩ := bd_some hm
  obtain ⟨hC, hm⟩ := grd_some hm
  obtain ⟨rfl, rfl⟩ := rt_some hm
  refine ⟨H0, F0, B, F, p, (y, u, ()), p2, S, by rw [bd_eq h1, bd_eq (q := p2) (a := (u, ())) (by rw [bd_eq h2]; rfl)]; rfl, fun vs H' F' S' T R => ?_⟩
  obtain ⟨v, w, rfl, R1, R2⟩ := svs2 R
  exact hr F' H' v w y u Q R1 R2 hC fun w hw => q w H' F' S' T hw
theorem c_O [Enc α] [Enc β] {C : α → Bool} {g : α → List β} {f : Value} {m : M P α} (o : CalO X f C g) (hc : ∀ {r t}, CallR X f r → PA X [e] t → PE X (.Call (.Name x p) [e] [] pos) (tCB r t)) (ha : PE X e (xE X.K cs Γ m)) (hs : starEach [e] X.env = (false, eval e X.env) :: starEach [] X.env := by rfl) :
    PE X (.Call (.Name x p) [e] [] pos) (xO X.K cs Γ (bd m fun a => grd (C a) (rt (g a)))) := by
  obtain ⟨r, ho, hr⟩ := o
  refine pe_imp (hc ho (a_cons ha a_nil hs)) fun σ H Q ⟨H0, F0, B, F, p, z, p', S, hm, q⟩ => ?_
  obtain ⟨y, p1, h1, hm⟩ := bd_some hm
  obtain ⟨hC, hm⟩ := grd_some hm
  obtain ⟨rfl, rfl⟩ := rt_some hm
  refine ⟨H0, F0, B, F, p, (y, ()), p1, S, by rw [bd_eq h1]; rfl, fun vs H' F' S' T R => ?_⟩
  obtain ⟨v, rfl, R1⟩ := svs1 R
  refine hr F' H' v y Q R1 hC fun vs l hl hv => ?_
  obtain ⟨S2, T2, r2⟩ := own_new S' hl hv
  exact q _ _ _ S2 (T.trans T2) (r2.back T)
theorem c_T [Enc α] [Enc β] {C : α → Bool} {g : α → Tup β} {f : Value} {m : M P α} (o : CalT X f C g) (hc : ∀ {r t}, CallR X f r → PA X [e] t → PE X (.Call (.Name x p) [e] [] pos) (tCB r t)) (ha : PE X e (xE X.K cs Γ m)) (hs : starEach [e] X.env = (false, eval e X.env) :: starEach [] X.env := by rfl) :
    PE X (.Call (.Name x p) [e] [] pos) (xE X.K cs Γ (bd m fun a => grd (C a) (rt (g a)))) := by
  obtain ⟨r, ho, hr⟩ := o
  refine pe_imp (hc ho (a_cons ha a_nil hs)) fun σ H Q ⟨H0, F0, B, F, p, z, p', S, hm, q⟩ => ?_
  obtain ⟨y, p1, h1, hm⟩ := bd_some hm
  obtain ⟨hC, hm⟩ := grd_some hm
  obtain ⟨rfl, rfl⟩ := rt_some hm
  refine ⟨H0, F0, B, F, p, (y, ()), p1, S, by rw [bd_eq h1]; rfl, fun vs H' F' S' T R => ?_⟩
  obtain ⟨v, rfl, R1⟩ := svs1 R
  refine hr F' H' v y Q R1 hC fun vs l hl hv => ?_
  obtain ⟨S2, T2, r2⟩ := tup_new S' hl hv
  exact q _ _ _ S2 (T.trans T2) (r2.back T)
/-! ### which they are -/
def yes1 : α → Bool := fun _ => true
theorem k_abs : Cal1 X (.builtin "abs") yes1 (fun i : Int => if i < 0 then -i else i) := ⟨_, call_abs, fun F H v a Q r _ q => ⟨a, by rw [Rep.int_eq r], q _ (.int _)⟩⟩
theorem k_max2 (hc : X.calm = true) : Cal2 X (.builtin "max") yes2 (fun i j : Int => if j > i then j else i) := ⟨_, call_max2 hc, fun F H v u a b Q r1 r2 _ q => ⟨a, b, by rw [Rep.int_eq r1, Rep.int_eq r2], q _ (.int _)⟩⟩
theorem k_min2 (hc : X.calm = true) : Cal2 X (.builtin "min") yes2 (fun i j : Int => if j < i then j else i) := ⟨_, call_min2 hc, fun F H v u a b Q r1 r2 _ q => ⟨a, b, by rw [Rep.int_eq r1, Rep.int_eq r2], q _ (.int _)⟩⟩
theorem k_int : Cal1 X (.type "int") yes1 (fun i : Int => i) := ⟨_, call_int1, fun F H v a Q r _ q => .inl ⟨a, by rw [Rep.int_eq r], q _ (.int _)⟩⟩
theorem k_intB : Cal1 X (.type "int") yes1 (fun i : Bool => if i then (1 : Int) else 0) := ⟨_, call_int1, fun F H v a Q r _ q => .inr ⟨a, by rw [Rep.bl_eq r], q _ (.int _)⟩⟩
theorem lst_of [Enc α] {K : PySem.W.Frag} {F : AS} {H : Hp} {v : V} {l : List α} (r : Rep K F H v (enc l)) : ∃ a vs, v = .ref a ∧ H a = some (.lst vs) ∧ Reps K F H vs (l.map enc) := by
  cases r with
  | lst h1 h2 h3 => exact ⟨_, _, rfl, h2, h3⟩
theorem tup_of [Enc α] {K : PySem.W.Frag} {F : AS} {H : Hp} {v : V} {l : Tup α} (r : Rep K F H v (enc l)) : ∃ a vs, v = .ref a ∧ H a = some (.tup vs) ∧ Reps K F H vs (l.l.map enc) := by
  cases r with
  | tup h1 h2 h3 => exact ⟨_, _, rfl, h2, h3⟩
theorem scr_of {K : PySem.W.Frag} {F : AS} {H : Hp} {v : V} {l : Scr} (r : Rep K F H v (enc l)) : ∃ a, v = .ref a ∧ SqL K H a (l.l.map V.int) := by
  generalize e : enc l = d at r
  cases r with
  | @scr a xs ds h1 h2 h3 =>
    have e2 : l.l.map enc = ds := scr_inj (by injection e)
    subst e2
    have e3 : xs = l.l.map V.int := Reps.to_ints h3
    exact ⟨a, rfl, e3 ▸ h2⟩
  | _ => cases e
theorem k_len [Enc α] : Cal1 X (.builtin "len") yes1 (fun l : List α => (l.length : Int)) := ⟨_, call_len_seq, fun F H v a Q r _ q => by
  obtain ⟨p, vs, rfl, h, rs⟩ := lst_of r
  refine ⟨p, vs, rfl, .inl (SqL.of h), ?_⟩
  rw [rs.len, List.length_map]
  exact q _ (.int _)⟩
theorem k_lenT [Enc α] : Cal1 X (.builtin "len") yes1 (fun l : Tup α => (l.l.length : Int)) := ⟨_, call_len_seq, fun F H v a Q r _ q => by
  obtain ⟨p, vs, rfl, h, rs⟩ := tup_of r
  refine ⟨p, vs, rfl, .inr (SqT.of h), ?_⟩
  rw [rs.len, List.length_map]
  exact q _ (.int _)⟩
theorem k_lenS : Cal1 X (.builtin "len") yes1 (fun l : Scr => (l.l.length : Int)) := ⟨_, call_len_seq, fun F H v a Q r _ q => by
  obtain ⟨p, rfl, h⟩ := scr_of r
  refine ⟨p, _, rfl, .inl h, ?_⟩
  rw [List.length_map]
  exact q _ (.int _)⟩
/-- len of data that is a list or a tuple -/
def lenD : PyData → Option Int
  | .list l => some l.length
  | .tuple l => some l.length
  | _ => none
theorem k_lenD : Cal1 X (.builtin "len") (fun d : PyData => (lenD d).isSome) (fun d => (lenD d).getD 0) := ⟨_, call_len_seq, fun F H v a Q r c q => by
  cases r with
  | lst h1 h2 h3 =>
    refine ⟨_, _, rfl, .inl (SqL.of h2), ?_⟩
    rw [h3.len]
    exact q _ (.int _)
  | tup h1 h2 h3 =>
    refine ⟨_, _, rfl, .inr (SqT.of h2), ?_⟩
    rw [h3.len]
    exact q _ (.int _)
  | _ => cases c⟩
theorem k_sum (hc : X.calm = true) : Cal1 X (.builtin "sum") yes1 (fun l : List Int => l.sum) := ⟨_, cr_sum hc, fun F H v a Q r _ q => by
  obtain ⟨p, vs, rfl, h, rs⟩ := lst_of r
  have e : vs = a.map V.int := Reps.to_ints rs
  subst e
  exact ⟨p, a, rfl, SqL.of h, q _ (.int _)⟩⟩
theorem k_all (hc : X.calm = true) : Cal1 X (.builtin "all") yes1 (fun l : List Bool => l.all fun b => b) := ⟨_, cr_all hc, fun F H v a Q r _ q => by
  obtain ⟨p, vs, rfl, h, rs⟩ := lst_of r
  have e : vs = a.map V.bl := Reps.to_bools rs
  subst e
  exact ⟨p, a, rfl, SqL.of h, q _ (.bl _)⟩⟩
theorem k_any (hc : X.calm = true) : Cal1 X (.builtin "any") yes1 (fun l : List Bool => l.any fun b => b) := ⟨_, cr_any hc, fun F H v a Q r _ q => by
  obtain ⟨p, vs, rfl, h, rs⟩ := lst_of r
  have e : vs = a.map V.bl := Reps.to_bools rs
  subst e
  exact ⟨p, a, rfl, SqL.of h, q _ (.bl _)⟩⟩
theorem k_list [Enc α] : CalO X (.type "list") yes1 (fun l : List α => l) := ⟨_, call_list_of, fun F H v a Q r _ q => by
  obtain ⟨p, vs, rfl, h, rs⟩ := lst_of r
  exact ⟨p, vs, rfl, .inl (SqL.of h), fun l hl => q vs l hl rs⟩⟩
theorem k_listT [Enc α] : CalO X (.type "list") yes1 (fun l : Tup α => l.l) := ⟨_, call_list_of, fun F H v a Q r _ q => by
  obtain ⟨p, vs, rfl, h, rs⟩ := tup_of r
  exact ⟨p, vs, rfl, .inr (SqT.of h), fun l hl => q vs l hl rs⟩⟩
theorem k_tuple [Enc α] : CalT X (.type "tuple") yes1 (fun l : List α => Tup.mk l) := ⟨_, call_tuple_of, fun F H v a Q r _ q => by
  obtain ⟨p, vs, rfl, h, rs⟩ := lst_of r
  exact ⟨p, vs, rfl, .inl ⟨SqL.of h, fun l hl => q vs l hl rs⟩⟩⟩
/-! ### sorted of ints: one sorted list -/
def ins1 (a : Int) : List Int → List Int
  | [] => [a]
  | b :: l => if a ≤ b then a :: b :: l else b :: ins1 a l
def srt : List Int → List Int
  | [] => []
  | a :: l => ins1 a (srt l)
theorem ins1_perm (a : Int) : ∀ l : List Int, (ins1 a l).Perm (a :: l)
  | [] => .refl _
  | b :: l => by
    unfold ins1
    by_cases h : a ≤ b
    · rw [if_pos h]
    · rw [if_neg h]
      exact ((ins1_perm a l).cons b).trans (.swap a b l)
theorem srt_perm : ∀ l : List Int, (srt l).Perm l
  | [] => .refl _
  | a :: l => (ins1_perm a (srt l)).trans ((srt_perm l).cons a)
theorem ins1_pw (a : Int) : ∀ {l : List Int}, l.Pairwise (· ≤ ·) → (ins1 a l).Pairwise (· ≤ ·)
  | [], _ => by simp [ins1]
  | b :: l, h => by
    unfold ins1
    rw [List.pairwise_cons] at h
    by_cases c : a ≤ b
    · rw [if_pos c, List.pairwise_cons, List.pairwise_cons]
      refine ⟨fun z hz => ?_, h⟩
      rcases List.mem_cons.mp hz with e | e
      · rw [e]; exact c
      · have := h.1 z e; omega
    · rw [if_neg c, List.pairwise_cons]
      refine ⟨fun z hz => ?_, ins1_pw a h.2⟩
      rcases List.mem_cons.mp ((ins1_perm a l).mem_iff.mp hz) with e | e
      · rw [e]; omega
      · exact h.1 z e
theorem srt_pw : ∀ l : List Int, (srt l).Pairwise (· ≤ ·)
  | [] => .nil
  | a :: l => ins1_pw a (srt_pw l)
theorem sorted_one : ∀ {l k : List Int}, l.Perm k → l.Pairwise (· ≤ ·) → k.Pairwise (· ≤ ·) → l = k
  | [], k, h, _, _ => (List.Perm.nil_eq h).symm ▸ rfl
  | a :: l, [], h, _, _ => by have := h.length_eq; simp at this
  | a :: l, b :: k, h, h1, h2 => by
    rw [List.pairwise_cons] at h1 h2
    have e : a = b := by
      have m1 : a ∈ b :: k := h.mem_iff.mp List.mem_cons_self
      have m2 : b ∈ a :: l := h.mem_iff.mpr List.mem_cons_self
      rcases List.mem_cons.mp m1 with e | e
      · exact e
      · rcases List.mem_cons.mp m2 with f | f
        · exact f.symm
        · have x1 := h1.1 b f
          have x2 := h2.1 a e
          omega
    subst e
    rw [sorted_one ((List.perm_cons a).mp h) h1.2 h2.2]
theorem k_sorted : CalO X (.builtin "sorted") yes1 (fun l : List Int => srt l) := ⟨_, cr_sortedI, fun F H v a Q r _ q => by
  obtain ⟨p, vs, rfl, h, rs⟩ := lst_of r
  have e : vs = a.map V.int := Reps.to_ints rs
  subst e
  refine ⟨p, a, rfl, SqL.of h, fun ns l h1 h2 hl => ?_⟩
  have e : ns = srt a := sorted_one (h1.trans (srt_perm a).symm) h2 (srt_pw a)
  subst e
  exact q _ l hl Reps.ints⟩
/-! ### repr -/
def okShow (d : PyData) : Bool := d.canLay0 && d.showable && decide (d.depth ≤ 60) && decide (d.shown.length ≤ 16777216)
theorem call_reprD (hg : X.A.guards = some []) (hu : X.A.units + 100 < cLine) : CallR X (.builtin "repr") (fun xs H Q => ∃ x d, xs = [x] ∧ Dp X.K H x d ∧ okShow d = true ∧ Q (.str d.shown) H) := by
  intro pins s σ H xs us Q I rxs h
  obtain ⟨x, d, rfl, hd, hc, q⟩ := h
  obtain ⟨u, rfl, ru⟩ := vals1 rxs
  unfold okShow at hc
  rw [Bool.and_eq_true, Bool.and_eq_true, Bool.and_eq_true] at hc
  obtain ⟨⟨⟨hlay, hshow⟩, hdep⟩, hlen⟩ := hc
  have hdep := of_decide_eq_true hdep
  have hlen : d.shown.length ≤ sizeLine := by rw [sizeLine_eq]; exact of_decide_eq_true hlen
  obtain ⟨as, rd⟩ := Dp.reads I d x u hd ru
  have fin : ∀ (h' : Heap) (w : Tok) (tk : Nat), (∀ b o, s.heap.get? b = some o → h'.get? b = some o) → EP X pins σ Q (.str d.shown w) { s with heap := h', toks := tk } := fun h' w tk hk =>
    ⟨.str d.shown, H, I.kept (t' := tk) hk, ⟨_, rfl⟩, q⟩
  have ref : ∀ p, u = .ref p → wpAny (model X.prog X.w) X.A (call (.builtin "repr") [u]) (EP X pins σ Q) X.xe s := by
    intro p e
    subst e
    exact repr_of_reads' rd hshow (fun z => by rw [PyData.hasDict_of_canLay d hlay] at z; cases z) hg (by omega) (fun _ _ z => z) (fun h' w tk hk => fin h' w tk hk) hlen
  cases hd with
  | non =>
    cases ru
    exact PySem.P.repr_of_none ⟨.str _, H, I.tok _, ⟨_, rfl⟩, by simpa [PyData.shown] using q⟩
  | bl b =>
    cases ru
    exact PySem.P.repr_of_bool ⟨.str _, H, I.tok _, ⟨_, rfl⟩, by simpa [PyData.shown] using q⟩
  | int i =>
    obtain ⟨t, rfl⟩ := ru
    exact PySem.P.repr_of_int (by simpa [PyData.showable] using hshow) ⟨.str _, H, I.tok _, ⟨_, rfl⟩, by simpa [PyData.shown] using q⟩
  | str y =>
    obtain ⟨t, rfl⟩ := ru
    exact PySem.P.repr_of_str ⟨.str _, H, I.tok _, ⟨_, rfl⟩, by simpa [PyData.shown] using q⟩ (by simpa [PyData.shown] using hlen)
  | lst _ _ => exact ref _ ru
  | tup _ _ => exact ref _ ru
theorem k_repr [Enc α] (hg : X.A.guards = some []) (hu : X.A.units + 100 < cLine) : Cal1 X (.builtin "repr") (fun a : α => okShow (enc a)) (fun a : α => (enc a).shown) := ⟨_, call_reprD hg hu, fun F H v a Q r c q => by
  have hl : (enc a).canLay0 = true := by
    have c := c
    unfold okShow at c
    rw [Bool.and_eq_true, Bool.and_eq_true, Bool.and_eq_true] at c
    exact c.1.1.1
  exact ⟨v, enc a, rfl, Rep.dp r hl, c, q _ (.str _)⟩⟩
/-- texts compared -/
theorem o_eqS : OpT X (compareOp .Eq) yes2 (fun a b : Str => decide (a = b)) := ⟨_, op_eq, fun F H x y a b Q ra rb _ q => by
  rw [Rep.str_eq ra, Rep.str_eq rb]
  refine ⟨rfl, ?_⟩
  have e : decide (V.str a = V.str b) = decide (a = b) := by
    by_cases h : a = b
    · rw [h]; simp
    · rw [decide_eq_false h, decide_eq_false (fun z => h (V.str.inj z))]
  rw [e]
  exact q _ (.bl _)⟩
theorem o_neS : OpT X (compareOp .NotEq) yes2 (fun a b : Str => !decide (a = b)) := ⟨_, op_ne, fun F H x y a b Q ra rb _ q => by
  rw [Rep.str_eq ra, Rep.str_eq rb]
  refine ⟨rfl, ?_⟩
  have e : decide (V.str a = V.str b) = decide (a = b) := by
    by_cases h : a = b
    · rw [h]; simp
    · rw [decide_eq_false h, decide_eq_false (fun z => h (V.str.inj z))]
  rw [e]
  exact q _ (.bl _)⟩
/-! ### isinstance -/
def isT (t : String) : PyData → Bool
  | .none => false
  | .bool _ => t == "bool" || t == "int"
  | .int _ => t == "int"
  | .str _ => t == "str"
  | .list _ => t == "list"
  | .tuple _ => t == "tuple"
  | .dict _ => false
def tyOf : PyData → String
  | .none => "NoneType"
  | .bool _ => "bool"
  | .int _ => "int"
  | .str _ => "str"
  | .list _ => "list"
  | .tuple _ => "tuple"
  | .dict _ => "dict"
theorem tyX_of {K : PySem.W.Frag} {F : AS} {H : Hp} {v : V} {d : PyData} (r : Rep K F H v d) (h : d.canLay0 = true) : TyX K H v (.type (tyOf d)) := by
  cases r with
  | non => exact .base .non
  | bl b => exact .base (.bl b)
  | int b => exact .base (.int b)
  | str b => exact .base (.str b)
  | lst h1 h2 h3 => exact .base (.lst h2)
  | tup h1 h2 h3 => exact .base (.tup h2)
  | scr h1 h2 h3 => simp [PyData.canLay0] at h
end
end XL

/-! XL5: isinstance, calls of defs, lists for a while as data. -/
namespace XL
open PySem PySem.Spec L2
open PyProof.Rows hiding St
open Enc (enc)

section
variable {P P1 α β γ δ W W' : Type} {cs : P → List (List Int)} {cs1 : P1 → List (List Int)} {Γ : List Slot}
variable {X : Cx} {a b d e : Expr} {es rest : List Expr} {p pos p2 : Pos} {x : Str}
/-! ### isinstance(x, T), x data -/
theorem x_isi [Enc α] {m : M P α} {T : Str} {tn : String} (ha : PE X e (xE X.K cs Γ m)) (hg : Gl X "isinstance") (hm : X.mg "isinstance" = none) (hgT : Gl X T) (hmT : X.mg T = none) (hvT : bootBuiltins T = some (.type tn))
    (hk : ∀ d : PyData, d.canLay0 = true → PySem.W.kitOne X.K (.type (tyOf d)) (.type tn) = some (isT tn d)) (hn : T ≠ "__name__" := by decide) (hd : (T == ("__debug__" : Str)) = false := by decide)
    (hs : starEach [e, .Name T p2] X.env = (false, eval e X.env) :: starEach [.Name T p2] X.env := by rfl) (hs2 : starEach [.Name T p2] X.env = (false, eval (.Name T p2) X.env) :: starEach [] X.env := by rfl) :
    PE X (.Call (.Name "isinstance" p) [e, .Name T p2] [] pos) (xE X.K cs Γ (bd m fun a => grd (enc a).canLay0 (rt (isT tn (enc a))))) := by
  refine pe_imp (pe_callB call_isi hg hm boot_isinstance (pa_cons ha (pa_cons (pe_bltn (v := .ty tn) hgT hmT hvT rfl hn hd) pa_nil hs2) hs) (by decide) (by decide) hs (by rfl)) fun σ H Q ⟨H0, F0, B, F, p, z, p', S, hm, q⟩ => ?_
  obtain ⟨y, p1, h1, hm⟩ := bd_some hm
  obtain ⟨hC, hm⟩ := grd_some hm
  obtain ⟨rfl, rfl⟩ := rt_some hm
  exact ⟨H0, F0, B, F, p, y, p1, S, h1, fun v H' F' S' T R => ⟨v, .ty tn, _, _, _, rfl, .ty tn, tyX_of R hC, hk _ hC, q _ H' F' S' T (.bl _)⟩⟩
theorem kitInt {K : PySem.W.Frag} : ∀ d : PyData, d.canLay0 = true → PySem.W.kitOne K (.type (tyOf d)) (.type "int") = some (isT "int" d)
  | .none, _ => by
    show PySem.W.kitOne K (.type "NoneType") (.type "int") = some false
    exact kit_ty (by decide +kernel)
  | .bool _, _ => by
    show PySem.W.kitOne K (.type "bool") (.type "int") = some (("int" : String) == "bool" || ("int" : String) == "int")
    exact kit_ty (by decide +kernel)
  | .int _, _ => by
    show PySem.W.kitOne K (.type "int") (.type "int") = some (("int" : String) == "int")
    exact kit_ty (by decide +kernel)
  | .str _, _ => by
    show PySem.W.kitOne K (.type "str") (.type "int") = some (("int" : String) == "str")
    exact kit_ty (by decide +kernel)
  | .list _, _ => by
    show PySem.W.kitOne K (.type "list") (.type "int") = some (("int" : String) == "list")
    exact kit_ty (by decide +kernel)
  | .tuple _, _ => by
    show PySem.W.kitOne K (.type "tuple") (.type "int") = some (("int" : String) == "tuple")
    exact kit_ty (by decide +kernel)
  | .dict _, h => by simp [PyData.canLay0] at h
theorem kitBool {K : PySem.W.Frag} : ∀ d : PyData, d.canLay0 = true → PySem.W.kitOne K (.type (tyOf d)) (.type "bool") = some (isT "bool" d)
  | .none, _ => by
    show PySem.W.kitOne K (.type "NoneType") (.type "bool") = some false
    exact kit_ty (by decide +kernel)
  | .bool _, _ => by
    show PySem.W.kitOne K (.type "bool") (.type "bool") = some (("bool" : String) == "bool" || ("bool" : String) == "int")
    exact kit_ty (by decide +kernel)
  | .int _, _ => by
    show PySem.W.kitOne K (.type "int") (.type "bool") = some (("bool" : String) == "int")
    exact kit_ty (by decide +kernel)
  | .str _, _ => by
    show PySem.W.kitOne K (.type "str") (.type "bool") = some (("bool" : String) == "str")
    exact kit_ty (by decide +kernel)
  | .list _, _ => by
    show PySem.W.kitOne K (.type "list") (.type "bool") = some (("bool" : String) == "list")
    exact kit_ty (by decide +kernel)
  | .tuple _, _ => by
    show PySem.W.kitOne K (.type "tuple") (.type "bool") = some (("bool" : String) == "tuple")
    exact kit_ty (by decide +kernel)
  | .dict _, h => by simp [PyData.canLay0] at h
theorem kitStr {K : PySem.W.Frag} : ∀ d : PyData, d.canLay0 = true → PySem.W.kitOne K (.type (tyOf d)) (.type "str") = some (isT "str" d)
  | .none, _ => by
    show PySem.W.kitOne K (.type "NoneType") (.type "str") = some false
    exact kit_ty (by decide +kernel)
  | .bool _, _ => by
    show PySem.W.kitOne K (.type "bool") (.type "str") = some (("str" : String) == "bool" || ("str" : String) == "int")
    exact kit_ty (by decide +kernel)
  | .int _, _ => by
    show PySem.W.kitOne K (.type "int") (.type "str") = some (("str" : String) == "int")
    exact kit_ty (by decide +kernel)
  | .str _, _ => by
    show PySem.W.kitOne K (.type "str") (.type "str") = some (("str" : String) == "str")
    exact kit_ty (by decide +kernel)
  | .list _, _ => by
    show PySem.W.kitOne K (.type "list") (.type "str") = some (("str" : String) == "list")
    exact kit_ty (by decide +kernel)
  | .tuple _, _ => by
    show PySem.W.kitOne K (.type "tuple") (.type "str") = some (("str" : String) == "tuple")
    exact kit_ty (by decide +kernel)
  | .dict _, h => by simp [PyData.canLay0] at h
theorem kitList {K : PySem.W.Frag} : ∀ d : PyData, d.canLay0 = true → PySem.W.kitOne K (.type (tyOf d)) (.type "list") = some (isT "list" d)
  | .none, _ => by
    show PySem.W.kitOne K (.type "NoneType") (.type "list") = some false
    exact kit_ty (by decide +kernel)
  | .bool _, _ => by
    show PySem.W.kitOne K (.type "bool") (.type "list") = some (("list" : String) == "bool" || ("list" : String) == "int")
    exact kit_ty (by decide +kernel)
  | .int _, _ => by
    show PySem.W.kitOne K (.type "int") (.type "list") = some (("list" : String) == "int")
    exact kit_ty (by decide +kernel)
  | .str _, _ => by
    show PySem.W.kitOne K (.type "str") (.type "list") = some (("list" : String) == "str")
    exact kit_ty (by decide +kernel)
  | .list _, _ => by
    show PySem.W.kitOne K (.type "list") (.type "list") = some (("list" : String) == "list")
    exact kit_ty (by decide +kernel)
  | .tuple _, _ => by
    show PySem.W.kitOne K (.type "tuple") (.type "list") = some (("list" : String) == "tuple")
    exact kit_ty (by decide +kernel)
  | .dict _, h => by simp [PyData.canLay0] at h
theorem kitTuple {K : PySem.W.Frag} : ∀ d : PyData, d.canLay0 = true → PySem.W.kitOne K (.type (tyOf d)) (.type "tuple") = some (isT "tuple" d)
  | .none, _ => by
    show PySem.W.kitOne K (.type "NoneType") (.type "tuple") = some false
    exact kit_ty (by decide +kernel)
  | .bool _, _ => by
    show PySem.W.kitOne K (.type "bool") (.type "tuple") = some (("tuple" : String) == "bool" || ("tuple" : String) == "int")
    exact kit_ty (by decide +kernel)
  | .int _, _ => by
    show PySem.W.kitOne K (.type "int") (.type "tuple") = some (("tuple" : String) == "int")
    exact kit_ty (by decide +kernel)
  | .str _, _ => by
    show PySem.W.kitOne K (.type "str") (.type "tuple") = some (("tuple" : String) == "str")
    exact kit_ty (by decide +kernel)
  | .list _, _ => by
    show PySem.W.kitOne K (.type "list") (.type "tuple") = some (("tuple" : String) == "list")
    exact kit_ty (by decide +kernel)
  | .tuple _, _ => by
    show PySem.W.kitOne K (.type "tuple") (.type "tuple") = some (("tuple" : String) == "tuple")
    exact kit_ty (by decide +kernel)
  | .dict _, h => by simp [PyData.canLay0] at h
theorem x_isInt [Enc α] {m : M P α} (ha : PE X e (xE X.K cs Γ m)) (hg : Gl X "isinstance") (hm : X.mg "isinstance" = none) (hgT : Gl X "int") (hmT : X.mg "int" = none)
    (hs : starEach [e, .Name "int" p2] X.env = (false, eval e X.env) :: starEach [.Name "int" p2] X.env := by rfl) (hs2 : starEach [.Name "int" p2] X.env = (false, eval (.Name "int" p2) X.env) :: starEach [] X.env := by rfl) :
    PE X (.Call (.Name "isinstance" p) [e, .Name "int" p2] [] pos) (xE X.K cs Γ (bd m fun a => grd (enc a).canLay0 (rt (isT "int" (enc a))))) := x_isi ha hg hm hgT hmT boot_int kitInt (by decide) (by decide) hs hs2
theorem x_isBool [Enc α] {m : M P α} (ha : PE X e (xE X.K cs Γ m)) (hg : Gl X "isinstance") (hm : X.mg "isinstance" = none) (hgT : Gl X "bool") (hmT : X.mg "bool" = none)
    (hs : starEach [e, .Name "bool" p2] X.env = (false, eval e X.env) :: starEach [.Name "bool" p2] X.env := by rfl) (hs2 : starEach [.Name "bool" p2] X.env = (false, eval (.Name "bool" p2) X.env) :: starEach [] X.env := by rfl) :
    PE X (.Call (.Name "isinstance" p) [e, .Name "bool" p2] [] pos) (xE X.K cs Γ (bd m fun a => grd (enc a).canLay0 (rt (isT "bool" (enc a))))) := x_isi ha hg hm hgT hmT boot_bool kitBool (by decide) (by decide) hs hs2
theorem x_isStr [Enc α] {m : M P α} (ha : PE X e (xE X.K cs Γ m)) (hg : Gl X "isinstance") (hm : X.mg "isinstance" = none) (hgT : Gl X "str") (hmT : X.mg "str" = none)
    (hs : starEach [e, .Name "str" p2] X.env = (false, eval e X.env) :: starEach [.Name "str" p2] X.env := by rfl) (hs2 : starEach [.Name "str" p2] X.env = (false, eval (.Name "str" p2) X.env) :: starEach [] X.env := by rfl) :
    PE X (.Call (.Name "isinstance" p) [e, .Name "str" p2] [] pos) (xE X.K cs Γ (bd m fun a => grd (enc a).canLay0 (rt (isT "str" (enc a))))) := x_isi ha hg hm hgT hmT boot_str kitStr (by decide) (by decide) hs hs2
theorem x_isList [Enc α] {m : M P α} (ha : PE X e (xE X.K cs Γ m)) (hg : Gl X "isinstance") (hm : X.mg "isinstance" = none) (hgT : Gl X "list") (hmT : X.mg "list" = none)
    (hs : starEach [e, .Name "list" p2] X.env = (false, eval e X.env) :: starEach [.Name "list" p2] X.env := by rfl) (hs2 : starEach [.Name "list" p2] X.env = (false, eval (.Name "list" p2) X.env) :: starEach [] X.env := by rfl) :
    PE X (.Call (.Name "isinstance" p) [e, .Name "list" p2] [] pos) (xE X.K cs Γ (bd m fun a => grd (enc a).canLay0 (rt (isT "list" (enc a))))) := x_isi ha hg hm hgT hmT boot_list kitList (by decide) (by decide) hs hs2
theorem x_isTuple [Enc α] {m : M P α} (ha : PE X e (xE X.K cs Γ m)) (hg : Gl X "isinstance") (hm : X.mg "isinstance" = none) (hgT : Gl X "tuple") (hmT : X.mg "tuple" = none)
    (hs : starEach [e, .Name "tuple" p2] X.env = (false, eval e X.env) :: starEach [.Name "tuple" p2] X.env := by rfl) (hs2 : starEach [.Name "tuple" p2] X.env = (false, eval (.Name "tuple" p2) X.env) :: starEach [] X.env := by rfl) :
    PE X (.Call (.Name "isinstance" p) [e, .Name "tuple" p2] [] pos) (xE X.K cs Γ (bd m fun a => grd (enc a).canLay0 (rt (isT "tuple" (enc a))))) := x_isi ha hg hm hgT hmT boot_tuple kitTuple (by decide) (by decide) hs hs2
/-- isinstance(x, (list, tuple)) -/
theorem x_isLT [Enc α] {m : M P α} {k : Nat} {q1 q2 : Pos} (ha : PE X e (xE X.K cs Γ m)) (hg : Gl X "isinstance") (hm : X.mg "isinstance" = none) (hg1 : Gl X "list") (hm1 : X.mg "list" = none) (hg2 : Gl X "tuple") (hm2 : X.mg "tuple" = none)
    (hs : starEach [e, .Tuple [.Name "list" q1, .Name "tuple" q2] k p2] X.env = (false, eval e X.env) :: starEach [.Tuple [.Name "list" q1, .Name "tuple" q2] k p2] X.env := by rfl) (hs2 : starEach [.Tuple [.Name "list" q1, .Name "tuple" q2] k p2] X.env = (false, eval (.Tuple [.Name "list" q1, .Name "tuple" q2] k p2) X.env) :: starEach [] X.env := by rfl)
    (hs3 : starEach [.Name "list" q1, .Name "tuple" q2] X.env = (false, eval (.Name "list" q1) X.env) :: starEach [.Name "tuple" q2] X.env := by rfl) (hs4 : starEach [.Name "tuple" q2] X.env = (false, eval (.Name "tuple" q2) X.env) :: starEach [] X.env := by rfl) :
    PE X (.Call (.Name "isinstance" p) [e, .Tuple [.Name "list" q1, .Name "tuple" q2] k p2] [] pos) (xE X.K cs Γ (bd m fun a => grd (enc a).canLay0 (rt (isT "list" (enc a) || isT "tuple" (enc a))))) := by
  refine pe_imp (pe_callB call_isiT hg hm boot_isinstance (pa_cons ha (pa_cons (pe_tup (pa_cons (pe_bltn (v := .ty "list") hg1 hm1 boot_list rfl) (pa_cons (pe_bltn (v := .ty "tuple") hg2 hm2 boot_tuple rfl) pa_nil hs4) hs3)) pa_nil hs2) hs) (by decide) (by decide) hs (by rfl)) fun σ H Q ⟨H0, F0, B, F, p, z, p', S, hm, q⟩ => ?_
  obtain ⟨y, p1, h1, hm⟩ := bd_some hm
  obtain ⟨hC, hm⟩ := grd_some hm
  obtain ⟨rfl, rfl⟩ := rt_some hm
  refine ⟨H0, F0, B, F, p, y, p1, S, h1, fun v H' F' S' T R => ⟨by show 2 ≤ sizeLine; decide, fun t ht => ?_⟩⟩
  have T2 : Stp F' F' H' (upd H' t (.tup [.ty "list", .ty "tuple"])) B := upd_stp0 ht S'.dom
  have S2 := S'.step T2 fun b hb => by
    obtain ⟨o, eo⟩ := S'.trkB hb
    exact upd_ne (ne_of_none eo ht)
  have R2 : Rep X.K F' (upd H' t (.tup [.ty "list", .ty "tuple"])) v (enc y) := S'.rep T2 R
  refine ⟨v, t, _, _, [.type "list", .type "tuple"], _, rfl, upd_same, .cons (.ty _) (.cons (.ty _) .nil), tyX_of R2 hC, ?_, q _ _ _ S2 (T.trans T2) (.bl _)⟩
  have h1 := kitList (K := X.K) _ hC
  have h2 := kitTuple (K := X.K) _ hC
  unfold PySem.W.kitAny
  rw [h1]
  cases isT "list" (enc y) with
  | true => rfl
  | false =>
    show PySem.W.kitAny X.K (.type (tyOf (enc y))) [.type "tuple"] = _
    unfold PySem.W.kitAny
    rw [h2]
    cases isT "tuple" (enc y) <;> rfl

/-! ### a list of its own as data -/
end
section
variable {K : PySem.W.Frag} {Γ : List Slot} {H0 H H' : Hp} {F0 F F' : AS} {B : List Addr} {c c' : List (List Int)} {σ : L2.St} {ds : List PyData} {i : Nat} {a : Addr}
theorem set_get {α : Type} {l : List α} {i j : Nat} {x y : α} (h : (l.set i x)[j]? = some y) : (j = i ∧ y = x) ∨ (j ≠ i ∧ l[j]? = some y) := by
  by_cases e : i = j
  · subst e
    have hl : i < l.length := by
      have := (List.getElem?_eq_some_iff.mp h).1
      rwa [List.length_set] at this
    rw [List.getElem?_set_self hl] at h
    exact .inl ⟨rfl, (Option.some.inj h).symm⟩
  · rw [List.getElem?_set_ne e] at h
    exact .inr ⟨fun z => e z.symm, h⟩
theorem SR.frz (S : SR K H0 F0 B c Γ σ H F) (hi : Γ[i]? = some (.own ds)) : ∃ a vs, σ[i]? = some (some (.ref a)) ∧ H a = some (.lst vs) ∧ ¬ F a ∧ SR K H0 F0 B c (Γ.set i (.dat (.list ds))) σ H (addA F a) := by
  obtain ⟨a, vs, e, ha, r, nf, n0⟩ := S.slot i _ hi
  have nb : a ∉ B := fun z => by
    obtain ⟨o, q⟩ := S.inB a z
    rw [n0] at q; cases q
  refine ⟨a, vs, e, ha, nf, ⟨⟨fun b h => .inl (S.stp.mono b h), S.stp.same, S.stp.brw, fun b h => ?_, fun b h => ?_⟩, fun b hb h => ?_, S.inB, S.bnd, S.bor, fun j s h => ?_, fun j k es es' b hj hk h1 h2 => ?_, by rw [List.length_set]; exact S.len⟩⟩
  · rcases h with h | h
    · exact S.stp.new b h
    · subst h; exact .inr n0
  · rcases h with h | h
    · exact S.dom b h
    · subst h; exact ⟨_, ha⟩
  · rcases h with h | h
    · exact S.nB b hb h
    · subst h; exact nb hb
  · rcases set_get h with ⟨rfl, rfl⟩ | ⟨hj, h⟩
    · exact ⟨.ref a, e, .lst (.inr rfl) ha (r.mono (fun b h => .inl h) fun _ _ => rfl)⟩
    · have q := S.slot j s h
      cases s with
      | un => trivial
      | dat d =>
        obtain ⟨v, e, r⟩ := q
        exact ⟨v, e, r.mono (fun b h => .inl h) fun _ _ => rfl⟩
      | own es =>
        obtain ⟨a', us, e', ha', r', nf', n0'⟩ := q
        refine ⟨a', us, e', ha', r'.mono (fun b h => .inl h) (fun _ _ => rfl), fun z => ?_, n0'⟩
        rcases z with z | z
        · exact nf' z
        · subst z
          exact hj (S.dis j i es ds _ h hi e' e)
      | bor k => exact q
  · rcases set_get hj with ⟨_, z⟩ | ⟨_, hj⟩
    · cases z
    · rcases set_get hk with ⟨_, z⟩ | ⟨_, hk⟩
      · cases z
      · exact S.dis j k es es' b hj hk h1 h2
theorem SR.unfrz (S : SR K H0 F0 B c Γ σ H F) {Γ' : List Slot} {σ' : L2.St} {F1 : AS} (S1 : SR K H0 F0 B c' Γ' σ' H' F1) (T1 : Stp (addA F a) F1 H H' B) : SR K H0 F0 B c' Γ σ H' F ∧ Stp F F H H' B := by
  have T : Stp F F H H' B := ⟨fun _ h => h, T1.same, T1.brw, fun _ h => .inl h, fun b h => by
    obtain ⟨o, e⟩ := S.dom b h
    exact ⟨o, T1.same b o e fun z => S.nB b z h⟩⟩
  exact ⟨S.step' T S1.bor, T⟩
end
section
variable {P P1 α β γ δ W W' : Type} {cs : P → List (List Int)} {cs1 : P1 → List (List Int)} {Γ : List Slot}
variable {X : Cx} {a b d e : Expr} {es rest : List Expr} {p pos p2 : Pos} {x : Str}
/-- for a while a list of its own stands as data: what comes of it holds no reference -/
theorem x_frz (i : Nat) {ds : List PyData} [Enc α] [Scal α] {m : M P α} (hi : Γ[i]? = some (.own ds)) (h : PE X e (xE X.K cs (Γ.set i (.dat (.list ds))) m)) : PE X e (xE X.K cs Γ m) :=
  pe_imp h fun σ H Q ⟨H0, F0, B, F, p, z, p', S, hm, q⟩ => by
    obtain ⟨a, vs, e1, ha, nf, S1⟩ := S.frz hi
    refine ⟨H0, F0, B, addA F a, p, z, p', S1, hm, fun v H' F' S' T r => ?_⟩
    obtain ⟨S2, T2⟩ := S.unfrz S' T
    exact q v H' F S2 T2 (Scal.free (α := α) r)
theorem x_frzO (i : Nat) {ds : List PyData} [Enc α] [Scal α] {m : M P (List α)} (hi : Γ[i]? = some (.own ds)) (h : PE X e (xO X.K cs (Γ.set i (.dat (.list ds))) m)) : PE X e (xO X.K cs Γ m) :=
  pe_imp h fun σ H Q ⟨H0, F0, B, F, p, z, p', S, hm, q⟩ => by
    obtain ⟨a, vs, e1, ha, nf, S1⟩ := S.frz hi
    refine ⟨H0, F0, B, addA F a, p, z, p', S1, hm, fun v H' F' S' T r => ?_⟩
    obtain ⟨S2, T2⟩ := S.unfrz S' T
    obtain ⟨b, us, e2, hn, hb, rs, nfb⟩ := r
    exact q v H' F S2 T2 ⟨b, us, e2, hn, hb, scal_list rs, fun z => nfb (T.mono b (.inl z))⟩
theorem t_frz (i : Nat) {ds : List PyData} {m : M P Bool} (hi : Γ[i]? = some (.own ds)) (h : PT X e (xT X.K cs (Γ.set i (.dat (.list ds))) m)) : PT X e (xT X.K cs Γ m) :=
  pt_imp h fun σ H Q ⟨H0, F0, B, F, p, z, p', S, hm, q⟩ => by
    obtain ⟨a, vs, e1, ha, nf, S1⟩ := S.frz hi
    refine ⟨H0, F0, B, addA F a, p, z, p', S1, hm, fun H' F' S' T => ?_⟩
    obtain ⟨S2, T2⟩ := S.unfrz S' T
    exact q H' F S2 T2

/-! ### what a def promises -/
def BorOk (H : Hp) (B : List Addr) (c : List (List Int)) : Prop := ∀ (j : Nat) (a : Addr), B[j]? = some a → ∃ ns : List Int, c[j]? = some ns ∧ H a = some (.lst (ns.map V.int))
def spM (K : PySem.W.Frag) (cs : P → List (List Int)) (ea : W → List PyData) (s : β → Slot) (f : W → M P β) : Sp := fun vs H Q _ =>
  ∃ (F : AS) (B : List Addr) (p : P) (w : W) (r : β) (p' : P) (us : List V), vs = B.map V.ref ++ us ∧ B.length = (cs p).length ∧ B.Nodup ∧ (∀ b, F b → ∃ o, H b = some o) ∧ (∀ b ∈ B, ¬ F b) ∧ BorOk H B (cs p) ∧ Reps K F H us (ea w) ∧ f w p = some (r, p') ∧
    ∀ v H' F', Stp F F' H H' B → BorOk H' B (cs p') → SV K F' H H' v (s r) → Q v H'
abbrev cs0 : Unit → List (List Int) := fun _ => []
abbrev spF (K : PySem.W.Frag) (ea : W → List PyData) (s : β → Slot) (f : W → Option β) : Sp := spM K cs0 ea s fun w => ofO (f w)
def liftU (m : M Unit α) : M P α := fun p => match m () with
  | none => none
  | some (a, _) => some (a, p)
variable {CX : CXT} {k : Nat} {f : Addr} {fd : FuncData} {ps : List Str}
/-- behind a call whose arguments are data -/
theorem call_pure {s : β → Slot} {ea : W → List PyData} {g : W → Option β} {H0 H H1 : Hp} {F0 F F1 : AS} {B : List Addr} {c : List (List Int)} {σ : L2.St} {K : PySem.W.Frag} {vs : List V} {w : W} {r : β} {Q : VK} {E : XK} (S1 : SR K H0 F0 B c Γ σ H1 F1) (T1 : Stp F F1 H H1 B) (rv : Reps K F1 H1 vs (ea w)) (hg : g w = some r)
    (q : ∀ v H' F', SR K H0 F0 B c Γ σ H' F' → Stp F F' H H' B → SV K F' H H' v (s r) → Q v H') : spF K ea s g vs H1 Q E := by
  refine ⟨F1, [], (), w, r, (), vs, rfl, rfl, .nil, S1.dom, fun b hb => (nomatch hb), fun j a h => by simp at h, rv, by show ofO (g w) () = _; rw [hg]; rfl, fun v H' F' T _ r2 => ?_⟩
  have nil : ∀ b : Addr, b ∉ ([] : List Addr) := fun b h => nomatch h
  have T' : Stp F1 F' H1 H' B := ⟨T.mono, fun b o h _ => T.same b o h (nil b), fun b _ ⟨o, h⟩ => ⟨o, T.same b o h (nil b)⟩, T.new, T.dom⟩
  refine q v H' F' (S1.step T' fun b hb => ?_) (T1.trans T') (r2.back T1)
  obtain ⟨o, e⟩ := S1.trkB hb
  rw [e]
  exact T.same b o e (nil b)
/-- f(e, ..), data to data -/
theorem x_call {s : β → Slot} {ss : W → List Slot} {ea : W → List PyData} {g : W → Option β} {m : M P W} (G : FnG X.prog X.w X.K X.mg X.base CX0 k f fd ps (spF X.K ea s g)) (room : Room k X.A) (gd : X.A.guards = some []) (glob : Gl X x) (at_ : X.mg x = some (.ref f)) (kept : PySem.W.keepIn X.K (.ref f) = true)
    (bnd : Binds X.K fd ps []) (ha : PA X (e :: es) (xA X.K cs Γ ss m)) (hss : ∀ w, ss w = (ea w).map Slot.dat := by intro _; rfl) (nodbg : (x == ("__debug__" : Str)) = false := by decide)
    (st1 : starEach (e :: es) X.env = (false, eval e X.env) :: starEach es X.env := by rfl) (st2 : (backTo pos (starEach es X.env)).any (·.1) = false := by rfl) :
    PE X (.Call (.Name x p) (e :: es) [] pos) (xV X.K cs Γ s (bd m fun w => ofO (g w))) :=
  pe_imp (g_call G room gd glob at_ kept bnd .nil pass0 ha nodbg st1 st2) fun σ H Q ⟨H0, F0, B, F, p, z, p', S, hm, q⟩ => by
    obtain ⟨w, p1, h1, hm⟩ := bd_some hm
    obtain ⟨h2, rfl⟩ := ofO_some hm
    refine ⟨H0, F0, B, F, p, w, _, S, h1, fun vs H1 F1 S1 T1 R => ?_⟩
    rw [hss] at R
    rw [List.append_nil]
    exact call_pure S1 T1 R.reps h2 q
/-- f() -/
theorem x_call0 {s : β → Slot} {g : Unit → Option β} (G : FnG X.prog X.w X.K X.mg X.base CX0 k f fd [] (spF X.K (fun _ : Unit => []) s g)) (room : Room k X.A) (gd : X.A.guards = some []) (glob : Gl X x) (at_ : X.mg x = some (.ref f)) (kept : PySem.W.keepIn X.K (.ref f) = true)
    (bnd : Binds X.K fd [] []) (nodbg : (x == ("__debug__" : Str)) = false := by decide) :
    PE X (.Call (.Name x p) [] [] pos) (xV X.K cs Γ s (ofO (g ()))) :=
  pe_imp (g_call0 G room gd glob at_ kept bnd .nil pass0 nodbg) fun σ H Q ⟨H0, F0, B, F, p, z, p', S, hm, q⟩ => by
    obtain ⟨h2, rfl⟩ := ofO_some hm
    exact call_pure (vs := []) (E := E0) S S.refl .nil h2 q
/-- the keywords' values in the parameters' order: ix tells for each parameter which keyword -/
def pickK {α : Type} (ix : List Nat) (zs : List α) : List α := ix.filterMap fun i => zs[i]?
theorem pickK_vals (ix : List Nat) {zs : List V} {ws : List Value} (h : Vals zs ws) : Vals (pickK ix zs) (pickK ix ws) := by
  induction ix with
  | nil => exact .nil
  | cons i ix ih =>
    unfold pickK at ih ⊢
    rw [List.filterMap_cons, List.filterMap_cons]
    cases e : zs[i]? with
    | none => rw [h.none_of e]; exact ih
    | some z =>
      obtain ⟨u, hu, ru⟩ := h.get e
      rw [hu]
      exact .cons ru ih
theorem pickK_reps (ix : List Nat) {K : PySem.W.Frag} {F : AS} {H : Hp} {zs : List V} {ws : List PyData} (h : Reps K F H zs ws) : Reps K F H (pickK ix zs) (pickK ix ws) := by
  induction ix with
  | nil => exact .nil
  | cons i ix ih =>
    unfold pickK at ih ⊢
    rw [List.filterMap_cons, List.filterMap_cons]
    cases e : zs[i]? with
    | none =>
      have e2 : ws[i]? = none := by
        rw [List.getElem?_eq_none_iff] at e ⊢
        rw [← h.len]; exact e
      rw [e2]; exact ih
    | some z =>
      obtain ⟨u, hu, ru⟩ := h.getv e
      rw [hu]
      exact .cons ru ih
theorem kb_mk {K : PySem.W.Frag} {fd : FuncData} {ps ks : List Str} (ix : List Nat) (h : ∀ (s : Shared) (ws : List Value), ws.length = ks.length → BindsTo s fd ⟨[], ks.zip ws⟩ (ps.zip (pickK ix ws))) : KBn K fd ps 0 ks (fun _ ws => pickK ix ws) (fun _ ws => pickK ix ws) :=
  ⟨fun s us ws _ h1 h2 => (match us, h1 with | [], _ => h s ws h2), fun _ r => pickK_vals ix r⟩
theorem kbp_mk {K : PySem.W.Frag} {fd : FuncData} {ps ks : List Str} (n : Nat) (ix : List Nat) (h : ∀ (s : Shared) (us ws : List Value), us.length = n → ws.length = ks.length → BindsTo s fd ⟨us, ks.zip ws⟩ (ps.zip (us ++ pickK ix ws))) : KBn K fd ps n ks (fun us ws => us ++ pickK ix ws) (fun us ws => us ++ pickK ix ws) :=
  ⟨fun s us ws _ h1 h2 => h s us ws h1 h2, fun r r2 => r.append (pickK_vals ix r2)⟩
theorem svs_len {K : PySem.W.Frag} {F' : AS} {H H' : Hp} : ∀ {vs : List V} {s : List Slot}, SVs K F' H H' vs s → vs.length = s.length
  | [], [], _ => rfl
  | _ :: _, _ :: _, ⟨_, h, _⟩ => congrArg (· + 1) (svs_len h)
  | [], _ :: _, h => h.elim
  | _ :: _, [], h => h.elim
theorem x_callK {s : β → Slot} {ks : List Str} {kws : List Keyword} {ss : W → List Slot} {ek : W → List PyData} {ea : W' → List PyData} (ix : List Nat) (perm : W → W') {g : W' → Option β} {m : M P W} (G : FnG X.prog X.w X.K X.mg X.base CX0 k f fd ps (spF X.K ea s g)) (room : Room k X.A) (gd : X.A.guards = some []) (glob : Gl X x) (at_ : X.mg x = some (.ref f)) (kept : PySem.W.keepIn X.K (.ref f) = true)
    (bnd : KBn X.K fd ps 0 ks (fun _ ws => pickK ix ws) (fun _ ws => pickK ix ws)) (ha : PK X kws (xA X.K cs Γ ss m)) (hss : ∀ w, ss w = (ek w).map Slot.dat) (hlen : ∀ w, (ek w).length = ks.length) (hp : ∀ w, pickK ix (ek w) = ea (perm w))
    (some_ : (backToKw pos (keywordEach kws X.env)).all (·.1.isSome) = true := by rfl) (names : (backToKw pos (keywordEach kws X.env)).filterMap (·.1) = ks := by rfl)
    (nodbg : (x == ("__debug__" : Str)) = false := by decide) (plain : ((backTo pos (starEach [] X.env)).any (·.1) || (backToKw pos (keywordEach kws X.env)).any (·.1.isNone)) = false := by rfl) :
    PE X (.Call (.Name x p) [] kws pos) (xV X.K cs Γ s (bd m fun w => ofO (g (perm w)))) :=
  pe_imp (g_callK G room gd glob at_ kept bnd pass0 ha some_ names nodbg plain) fun σ H Q ⟨H0, F0, B, F, p, z, p', S, hm, q⟩ => by
    obtain ⟨w, p1, h1, hm⟩ := bd_some hm
    obtain ⟨h2, rfl⟩ := ofO_some hm
    refine ⟨H0, F0, B, F, p, w, _, S, h1, fun vs H1 F1 S1 T1 R => ?_⟩
    have l := svs_len R
    rw [hss] at R l
    refine ⟨⟨rfl, by rw [l, List.length_map, hlen]⟩, ?_⟩
    have r2 := pickK_reps ix R.reps
    rw [hp] at r2
    exact call_pure S1 T1 r2 h2 q
end
end XL

/-! XL6: statements. -/
namespace XL
open PySem PySem.Spec L2
open PyProof.Rows hiding St
open Enc (enc)

/-! ### slots stored -/
section
variable {K : PySem.W.Frag} {Γ : List Slot} {H0 H H' : Hp} {F0 F F' : AS} {B : List Addr} {c c' : List (List Int)} {σ : L2.St} {ds : List PyData} {i : Nat} {a : Addr}
/-- a value as it may be stored now -/
def Now (K : PySem.W.Frag) (H0 H : Hp) (F : AS) (Γ : List Slot) (σ : L2.St) (v : V) : Slot → Prop
  | .dat d => Rep K F H v d
  | .own ds => (∃ a vs, v = .ref a ∧ H a = some (.lst vs) ∧ Reps K F H vs ds ∧ ¬ F a ∧ H0 a = none) ∧ ∀ (j : Nat) (es : List PyData), Γ[j]? = some (.own es) → σ[j]? ≠ some (some v)
  | .un => True
  | .bor _ => False
theorem SR.set1 {v : V} {s : Slot} (S : SR K H0 F0 B c Γ σ H F) (n : Now K H0 H F Γ σ v s) (hi : (Γ[i]?).isSome = true) : SR K H0 F0 B c (Γ.set i s) (σ.set i (some v)) H F := by
  have hl : i < Γ.length := by
    cases e : Γ[i]? with
    | none => rw [e] at hi; cases hi
    | some x => exact (List.getElem?_eq_some_iff.mp e).1
  have hσ : i < σ.length := S.len ▸ hl
  refine ⟨S.stp, S.nB, S.inB, S.bnd, S.bor, fun j t h => ?_, fun j k es es' b hj hk h1 h2 => ?_, by rw [List.length_set, List.length_set]; exact S.len⟩
  · rcases set_get h with ⟨rfl, rfl⟩ | ⟨hj, h⟩
    · rw [List.getElem?_set_self hσ]
      cases t with
      | un => trivial
      | dat d => exact ⟨v, rfl, n⟩
      | own ds =>
        obtain ⟨⟨a, vs, rfl, r⟩, _⟩ := n
        exact ⟨a, vs, rfl, r⟩
      | bor j => exact n.elim
    · rw [List.getElem?_set_ne (fun z => hj z.symm)]
      exact S.slot j t h
  · rcases set_get hj with ⟨rfl, e1⟩ | ⟨nj, hj'⟩
    · rcases set_get hk with ⟨rfl, e2⟩ | ⟨nk, hk'⟩
      · rfl
      · subst e1
        rw [List.getElem?_set_self hσ] at h1
        rw [List.getElem?_set_ne (fun z => nk z.symm)] at h2
        obtain ⟨_, q⟩ := n
        have e3 : some v = some (V.ref b) := Option.some.inj h1
        rw [Option.some.inj e3] at q
        exact absurd h2 (q k es' hk')
    · rcases set_get hk with ⟨rfl, e2⟩ | ⟨nk, hk'⟩
      · subst e2
        rw [List.getElem?_set_self hσ] at h2
        rw [List.getElem?_set_ne (fun z => nj z.symm)] at h1
        obtain ⟨_, q⟩ := n
        have e3 : some v = some (V.ref b) := Option.some.inj h2
        rw [Option.some.inj e3] at q
        exact absurd h1 (q j es hj')
      · rw [List.getElem?_set_ne (fun z => nj z.symm)] at h1
        rw [List.getElem?_set_ne (fun z => nk z.symm)] at h2
        exact S.dis j k es es' b hj' hk' h1 h2
theorem SV.now {Γ2 : List Slot} {v : V} {s : Slot} (S : SR K H0 F0 B c Γ σ H F) (r : SV K F' H H' v s) : Now K H0 H' F' Γ σ v s := by
  cases s with
  | dat d => exact r
  | own ds =>
    obtain ⟨a, vs, rfl, hn, ha, rs, nf⟩ := r
    refine ⟨⟨a, vs, rfl, ha, rs, nf, S.stp.back hn⟩, fun j es hj e => ?_⟩
    obtain ⟨a', us, e', ha', _⟩ := S.slot j _ hj
    rw [e] at e'
    cases e'
    rw [hn] at ha'
    cases ha'
  | un => exact r.elim
  | bor _ => exact r.elim
def setL {α : Type} (l : List α) : List Nat → List α → List α
  | [] => fun _ => l
  | i :: is => fun xs => match xs with
    | [] => l
    | x :: xs => setL (l.set i x) is xs
theorem setL_some {α : Type} : ∀ {is : List Nat} {l : List α} {xs : List α} {j : Nat}, (l[j]?).isSome = true → ((setL l is xs)[j]?).isSome = true
  | [], _, _, _, h => h
  | _ :: _, _, [], _, h => h
  | i :: is, l, x :: xs, j, h => setL_some (is := is) (l := l.set i x) (xs := xs) (j := j) (by
      by_cases e : i = j
      · subst e
        cases q : l[i]? with
        | none => rw [q] at h; cases h
        | some y => rw [List.getElem?_set_self (List.getElem?_eq_some_iff.mp q).1]; rfl
      · rw [List.getElem?_set_ne e]; exact h)
theorem SR.setAll (hg : ∀ (v : V) (s : Slot), SV K F' H H' v s → True) : ∀ {is : List Nat} {vs : List V} {ss : List Slot} {Γ : List Slot} {σ : L2.St}, SR K H0 F0 B c' Γ σ H' F' → SVs K F' H H' vs ss → (∀ a, H a = none → H0 a = none) →
    (∀ (j : Nat) (s : Slot) (k : Nat) (es : List PyData) (ds : List PyData) (v : V), ss[j]? = some (.own ds) → vs[j]? = some v → Γ[k]? = some (.own es) → σ[k]? ≠ some (some v)) → (∀ i ∈ is, (Γ[i]?).isSome = true) → SR K H0 F0 B c' (setL Γ is ss) (setL σ is (vs.map some)) H' F'
  | [], vs, ss, Γ, σ, S, _, _, _, _ => S
  | i :: is, [], [], Γ, σ, S, _, _, _, _ => S
  | i :: is, v :: vs, s :: ss, Γ, σ, S, ⟨h1, h2, h3⟩, hn, hd, hi => by
    have hi0 := hi i List.mem_cons_self
    have n : Now K H0 H' F' Γ σ v s := by
      cases s with
      | dat d => exact h1
      | own ds =>
        obtain ⟨a, us, rfl, e1, e2, e3, e4⟩ := h1
        exact ⟨⟨a, us, rfl, e2, e3, e4, hn a e1⟩, fun j es hj => hd 0 .un j es ds _ rfl rfl hj⟩
      | un => exact h1.elim
      | bor _ => exact h1.elim
    have hσ : i < σ.length := by
      rw [← S.len]
      cases e : Γ[i]? with
      | none => rw [e] at hi0; cases hi0
      | some x => exact (List.getElem?_eq_some_iff.mp e).1
    refine SR.setAll hg (is := is) (S.set1 n hi0) h2 hn (fun j t k es ds u hj hu hk => ?_) fun j hj => ?_
    · rcases set_get hk with ⟨rfl, e⟩ | ⟨nk, hk⟩
      · rw [List.getElem?_set_self hσ]
        intro z
        have e2 : v = u := Option.some.inj (Option.some.inj z)
        exact h3 es e.symm j ds hj (e2 ▸ hu)
      · rw [List.getElem?_set_ne (fun z => nk z.symm)]
        exact hd (j + 1) t k es ds u hj hu hk
    · have q := hi j (List.mem_cons_of_mem _ hj)
      exact setL_some (is := [i]) (xs := [s]) q
  | _ :: _, [], _ :: _, _, _, _, h, _, _, _ => h.elim
  | _ :: _, _ :: _, [], _, _, _, h, _, _, _ => h.elim
end

theorem reps_svs {K : PySem.W.Frag} {F : AS} {H H' : Hp} : ∀ {vs : List V} {ds : List PyData}, Reps K F H' vs ds → SVs K F H H' vs (ds.map Slot.dat)
  | _, _, .nil => trivial
  | _, _, .cons h1 h2 => ⟨h1, reps_svs h2, fun _ e => nomatch e⟩
/-! ### readings of statements -/
def Agr (F F' : AS) (H H' : Hp) : Prop := (∀ b, F b → F' b) ∧ ∀ b, F b → H' b = H b
theorem Agr.refl {F : AS} {H : Hp} : Agr F F H H := ⟨fun _ h => h, fun _ _ => rfl⟩
theorem Agr.trans {F F1 F2 : AS} {H H1 H2 : Hp} (a : Agr F F1 H H1) (b : Agr F1 F2 H1 H2) : Agr F F2 H H2 := ⟨fun c h => b.1 c (a.1 c h), fun c h => (b.2 c (a.1 c h)).trans (a.2 c h)⟩
section
variable {P α β γ W W' R : Type}
def xN (K : PySem.W.Frag) (cs : P → List (List Int)) (Γ : List Slot) (Γ' : W → List Slot) (m : M P W) : TS := fun D σ H =>
  ∃ (H0 : Hp) (F0 : AS) (B : List Addr) (F : AS) (p : P) (w : W) (p' : P), SR K H0 F0 B (cs p) Γ σ H F ∧ m p = some (w, p') ∧
    ∀ σ' H' F', SR K H0 F0 B (cs p') (Γ' w) σ' H' F' → Agr F F' H H' → D.nx σ' H'
def xR (K : PySem.W.Frag) (cs : P → List (List Int)) (Γ : List Slot) (s : R → Slot) (m : M P R) : TS := fun D σ H =>
  ∃ (H0 : Hp) (F0 : AS) (B : List Addr) (F : AS) (p : P) (r : R) (p' : P), SR K H0 F0 B (cs p) Γ σ H F ∧ m p = some (r, p') ∧
    ∀ v H' F', SR K H0 F0 B (cs p') [] [] H' F' → SV K F' H0 H' v (s r) → D.rt v H'
def xB (K : PySem.W.Frag) (cs : P → List (List Int)) (Γ : List Slot) (Γ' : W → List Slot) (s : R → Slot) (m : M P (W ⊕ R)) : TS := fun D σ H =>
  ∃ (H0 : Hp) (F0 : AS) (B : List Addr) (F : AS) (p : P) (z : W ⊕ R) (p' : P), SR K H0 F0 B (cs p) Γ σ H F ∧ m p = some (z, p') ∧
    (∀ w, z = .inl w → ∀ σ' H' F', SR K H0 F0 B (cs p') (Γ' w) σ' H' F' → Agr F F' H H' → D.nx σ' H') ∧
    ∀ r, z = .inr r → ∀ v H' F', SR K H0 F0 B (cs p') [] [] H' F' → SV K F' H0 H' v (s r) → D.rt v H'
end
section
variable {K : PySem.W.Frag} {Γ Δ : List Slot} {H0 H H' : Hp} {F0 F F' : AS} {B : List Addr} {c c' : List (List Int)} {σ : L2.St}
theorem SR.toAgr (S : SR K H0 F0 B c Γ σ H F) (T : Stp F F' H H' B) : Agr F F' H H' := ⟨T.mono, S.agr T⟩
/-- slots forgotten -/
inductive LeG : List Slot → List Slot → Prop
  | nil : LeG [] []
  | keep {s : Slot} {Γ Δ : List Slot} : LeG Γ Δ → LeG (s :: Γ) (s :: Δ)
  | drop {s : Slot} {Γ Δ : List Slot} : LeG Γ Δ → LeG (s :: Γ) (.un :: Δ)
theorem LeG.refl : ∀ {Γ : List Slot}, LeG Γ Γ
  | [] => .nil
  | _ :: _ => .keep LeG.refl
theorem LeG.len : ∀ {Γ Δ : List Slot}, LeG Γ Δ → Γ.length = Δ.length
  | _, _, .nil => rfl
  | _, _, .keep h => congrArg (· + 1) h.len
  | _, _, .drop h => congrArg (· + 1) h.len
theorem LeG.get : ∀ {Γ Δ : List Slot} {i : Nat} {s : Slot}, LeG Γ Δ → Δ[i]? = some s → s = .un ∨ Γ[i]? = some s
  | _, _, _, _, .nil, h => by simp at h
  | _, _, 0, _, .keep _, h => .inr h
  | _, _, 0, _, .drop _, h => .inl (Option.some.inj h).symm
  | _, _, i + 1, _, .keep g, h => LeG.get (i := i) g h
  | _, _, i + 1, _, .drop g, h => LeG.get (i := i) g h
theorem SR.le (S : SR K H0 F0 B c Γ σ H F) (h : LeG Γ Δ) : SR K H0 F0 B c Δ σ H F :=
  ⟨S.stp, S.nB, S.inB, S.bnd, S.bor, fun i s hi => by
    rcases h.get hi with rfl | q
    · trivial
    · exact S.slot i s q, fun i j ds es a hi hj h1 h2 => by
    rcases h.get hi with z | q
    · cases z
    · rcases h.get hj with z | q'
      · cases z
      · exact S.dis i j ds es a q q' h1 h2, by rw [← h.len]; exact S.len⟩
theorem SR.bare (S : SR K H0 F0 B c Γ σ H F) : SR K H0 F0 B c [] [] H F :=
  ⟨S.stp, S.nB, S.inB, S.bnd, S.bor, fun i s hi => by simp at hi, fun i j ds es a hi => by simp at hi, rfl⟩
end

section
variable {P α β γ W W' W2 R : Type} {cs : P → List (List Int)} {Γ Δ : List Slot}
variable {X : Cx} {a b d e : Expr} {es rest : List Expr} {p pos p2 : Pos} {x : Str} {st : Stmt} {sts body els : List Stmt}
/-! ### blocks -/
theorem pss_ex {ι : Type} {t : ι → TS} (h : ∀ i, PSs X sts (t i)) : PSs X sts (fun D σ H => ∃ i, t i D σ H) := ⟨fun pins s σ H D I ⟨i, q⟩ => (h i).run pins s σ H D I q⟩
theorem ps_ex {ι : Type} {t : ι → TS} (h : ∀ i, PS X st (t i)) : PS X st (fun D σ H => ∃ i, t i D σ H) := ⟨fun pins s σ H D I ⟨i, q⟩ => (h i).run pins s σ H D I q⟩
theorem pe_ex {ι : Type} {t : ι → TE} (h : ∀ i, PE X e (t i)) : PE X e (fun σ H Q => ∃ i, t i σ H Q) := ⟨fun pins s σ H Q I ⟨i, q⟩ => (h i).run pins s σ H Q I q⟩
theorem pt_ex {ι : Type} {t : ι → TT} (h : ∀ i, PT X e (t i)) : PT X e (fun σ H Q => ∃ i, t i σ H Q) := ⟨fun pins s σ H Q I ⟨i, q⟩ => (h i).run pins s σ H Q I q⟩
/-- the end of a block -/
theorem b_nil {Γ' : W → List Slot} (w : W) (h : LeG Γ (Γ' w)) : PSs X [] (xN X.K cs Γ Γ' (rt w)) :=
  pss_imp pss_nil fun D σ H ⟨H0, F0, B, F, p, z, p', S, hm, q⟩ => by
    obtain ⟨rfl, rfl⟩ := rt_some hm
    exact q σ H F (S.le h) Agr.refl
theorem b_nilB {Γ' : W → List Slot} {s : R → Slot} (w : W) (h : LeG Γ (Γ' w)) : PSs X [] (xB X.K cs Γ Γ' s (rt (.inl w))) :=
  pss_imp pss_nil fun D σ H ⟨H0, F0, B, F, p, z, p', S, hm, q, _⟩ => by
    obtain ⟨rfl, rfl⟩ := rt_some hm
    exact q w rfl σ H F (S.le h) Agr.refl
theorem b_seqN {Γ1 : W → List Slot} {Γ2 : W2 → List Slot} {m1 : M P W} {m2 : W → M P W2} (h1 : PS X st (xN X.K cs Γ Γ1 m1)) (h2 : ∀ w, PSs X sts (xN X.K cs (Γ1 w) Γ2 (m2 w))) : PSs X (st :: sts) (xN X.K cs Γ Γ2 (bd m1 m2)) :=
  pss_imp (pss_cons h1 (pss_ex h2)) fun D σ H ⟨H0, F0, B, F, p, z, p', S, hm, q⟩ => by
    obtain ⟨w, p1, e1, hm⟩ := bd_some hm
    exact ⟨H0, F0, B, F, p, w, p1, S, e1, fun σ' H' F' S' A => ⟨w, H0, F0, B, F', p1, z, p', S', hm, fun σ2 H2 F2 S2 A2 => q σ2 H2 F2 S2 (A.trans A2)⟩⟩
theorem b_seqR {Γ1 : W → List Slot} {s : R → Slot} {m1 : M P W} {m2 : W → M P R} (h1 : PS X st (xN X.K cs Γ Γ1 m1)) (h2 : ∀ w, PSs X sts (xR X.K cs (Γ1 w) s (m2 w))) : PSs X (st :: sts) (xR X.K cs Γ s (bd m1 m2)) :=
  pss_imp (pss_cons h1 (pss_ex h2)) fun D σ H ⟨H0, F0, B, F, p, z, p', S, hm, q⟩ => by
    obtain ⟨w, p1, e1, hm⟩ := bd_some hm
    exact ⟨H0, F0, B, F, p, w, p1, S, e1, fun σ' H' F' S' A => ⟨w, H0, F0, B, F', p1, z, p', S', hm, q⟩⟩
theorem b_seqB {Γ1 : W → List Slot} {Γ2 : W2 → List Slot} {s : R → Slot} {m1 : M P W} {m2 : W → M P (W2 ⊕ R)} (h1 : PS X st (xN X.K cs Γ Γ1 m1)) (h2 : ∀ w, PSs X sts (xB X.K cs (Γ1 w) Γ2 s (m2 w))) : PSs X (st :: sts) (xB X.K cs Γ Γ2 s (bd m1 m2)) :=
  pss_imp (pss_cons h1 (pss_ex h2)) fun D σ H ⟨H0, F0, B, F, p, z, p', S, hm, q, q2⟩ => by
    obtain ⟨w, p1, e1, hm⟩ := bd_some hm
    exact ⟨H0, F0, B, F, p, w, p1, S, e1, fun σ' H' F' S' A => ⟨w, H0, F0, B, F', p1, z, p', S', hm, fun w2 e σ2 H2 F2 S2 A2 => q w2 e σ2 H2 F2 S2 (A.trans A2), q2⟩⟩
/-- a list of its own becomes data from here on -/
theorem b_frzR (i : Nat) {ds : List PyData} {s : R → Slot} {m : M P R} (hi : Γ[i]? = some (.own ds)) (h : PSs X sts (xR X.K cs (Γ.set i (.dat (.list ds))) s m)) : PSs X sts (xR X.K cs Γ s m) :=
  pss_imp h fun D σ H ⟨H0, F0, B, F, p, z, p', S, hm, q⟩ => by
    obtain ⟨a, vs, e1, ha, nf, S1⟩ := S.frz hi
    exact ⟨H0, F0, B, _, p, z, p', S1, hm, q⟩
theorem agr_add {F F' : AS} {H H' : Hp} {a : Addr} (h : Agr (addA F a) F' H H') : Agr F F' H H' := ⟨fun b z => h.1 b (.inl z), fun b z => h.2 b (.inl z)⟩
theorem b_frzN (i : Nat) {ds : List PyData} {Γ' : W → List Slot} {m : M P W} (hi : Γ[i]? = some (.own ds)) (h : PSs X sts (xN X.K cs (Γ.set i (.dat (.list ds))) Γ' m)) : PSs X sts (xN X.K cs Γ Γ' m) :=
  pss_imp h fun D σ H ⟨H0, F0, B, F, p, z, p', S, hm, q⟩ => by
    obtain ⟨a, vs, e1, ha, nf, S1⟩ := S.frz hi
    exact ⟨H0, F0, B, _, p, z, p', S1, hm, fun σ' H' F' S' A => q σ' H' F' S' (agr_add A)⟩
theorem b_frzB (i : Nat) {ds : List PyData} {Γ' : W → List Slot} {s : R → Slot} {m : M P (W ⊕ R)} (hi : Γ[i]? = some (.own ds)) (h : PSs X sts (xB X.K cs (Γ.set i (.dat (.list ds))) Γ' s m)) : PSs X sts (xB X.K cs Γ Γ' s m) :=
  pss_imp h fun D σ H ⟨H0, F0, B, F, p, z, p', S, hm, q, q2⟩ => by
    obtain ⟨a, vs, e1, ha, nf, S1⟩ := S.frz hi
    exact ⟨H0, F0, B, _, p, z, p', S1, hm, fun w e σ' H' F' S' A => q w e σ' H' F' S' (agr_add A), q2⟩
/-! ### return -/
theorem SV.ret {K : PySem.W.Frag} {H0 H H' : Hp} {F0 F F' : AS} {B : List Addr} {c : List (List Int)} {σ : L2.St} {v : V} {s : Slot} (S : SR K H0 F0 B c Γ σ H F) (r : SV K F' H H' v s) : SV K F' H0 H' v s := r.back S.stp
theorem s_ret {s : R → Slot} {m : M P R} (h : PE X e (xV X.K cs Γ s m)) : PS X (.Return (some e) pos) (xR X.K cs Γ s m) :=
  ps_imp (ps_ret h) fun D σ H ⟨H0, F0, B, F, p, z, p', S, hm, q⟩ => ⟨H0, F0, B, F, p, z, p', S, hm, fun v H' F' S' T r => q v H' F' S'.bare (SV.ret S r)⟩
/-- return x, x a list of its own -/
theorem s_retOwn (i : Nat) [Enc α] {l : List α} {x : Str} (hp : PE X (.Name x p2) (tVar i)) (hi : Γ[i]? = some (.own (l.map enc))) : PS X (.Return (some (.Name x p2)) pos) (xR X.K cs Γ (dO (α := α)) (rt l)) :=
  ps_imp (ps_ret hp) fun D σ H ⟨H0, F0, B, F, p, z, p', S, hm, q⟩ => by
    obtain ⟨rfl, rfl⟩ := rt_some hm
    obtain ⟨a, vs, e, ha, r, nf, n0⟩ := S.slot i _ hi
    exact ⟨_, e, q _ H F S.bare ⟨a, vs, rfl, n0, ha, r, nf⟩⟩
theorem b_ret {s : R → Slot} {m : M P R} (h : PS X st (xR X.K cs Γ s m)) : PSs X [st] (xR X.K cs Γ s m) := pss_one h
theorem b_retB {Γ' : W → List Slot} {s : R → Slot} {m : M P R} (h : PS X st (xR X.K cs Γ s m)) : PSs X [st] (xB X.K cs Γ Γ' s (bd m fun r => rt (.inr r))) :=
  pss_imp (pss_one h) fun D σ H ⟨H0, F0, B, F, p, z, p', S, hm, q, q2⟩ => by
    obtain ⟨r, p1, e1, hm⟩ := bd_some hm
    obtain ⟨rfl, rfl⟩ := rt_some hm
    exact ⟨H0, F0, B, F, p, r, p1, S, e1, q2 r rfl⟩
/-! ### if -/
theorem s_ifN {Γ' : W → List Slot} {mc : M P Bool} {m1 m2 : M P W} (hc : PT X e (xT X.K cs Γ mc)) (h1 : PSs X body (xN X.K cs Γ Γ' m1)) (h2 : PSs X els (xN X.K cs Γ Γ' m2)) : PS X (.If e body els pos) (xN X.K cs Γ Γ' (bd mc fun b => if b = true then m1 else m2)) :=
  ps_imp (ps_if hc h1 h2) fun D σ H ⟨H0, F0, B, F, p, z, p', S, hm, q⟩ => by
    obtain ⟨b, p1, e1, hm⟩ := bd_some hm
    refine ⟨H0, F0, B, F, p, b, p1, S, e1, fun H1 F1 S1 T1 => ?_⟩
    by_cases hb : b = true
    · rw [if_pos hb] at hm ⊢
      exact ⟨H0, F0, B, F1, p1, z, p', S1, hm, fun σ2 H2 F2 S2 A2 => q σ2 H2 F2 S2 ((S.toAgr T1).trans A2)⟩
    · rw [if_neg hb] at hm ⊢
      exact ⟨H0, F0, B, F1, p1, z, p', S1, hm, fun σ2 H2 F2 S2 A2 => q σ2 H2 F2 S2 ((S.toAgr T1).trans A2)⟩
theorem s_ifR {s : R → Slot} {mc : M P Bool} {m1 m2 : M P R} (hc : PT X e (xT X.K cs Γ mc)) (h1 : PSs X body (xR X.K cs Γ s m1)) (h2 : PSs X els (xR X.K cs Γ s m2)) : PS X (.If e body els pos) (xR X.K cs Γ s (bd mc fun b => if b = true then m1 else m2)) :=
  ps_imp (ps_if hc h1 h2) fun D σ H ⟨H0, F0, B, F, p, z, p', S, hm, q⟩ => by
    obtain ⟨b, p1, e1, hm⟩ := bd_some hm
    refine ⟨H0, F0, B, F, p, b, p1, S, e1, fun H1 F1 S1 T1 => ?_⟩
    by_cases hb : b = true
    · rw [if_pos hb] at hm ⊢
      exact ⟨H0, F0, B, F1, p1, z, p', S1, hm, q⟩
    · rw [if_neg hb] at hm ⊢
      exact ⟨H0, F0, B, F1, p1, z, p', S1, hm, q⟩
/-- if ..: return ..; and on -/
theorem b_ifret {s : R → Slot} {mc : M P Bool} {m1 m2 : M P R} (hc : PT X e (xT X.K cs Γ mc)) (h1 : PSs X body (xR X.K cs Γ s m1)) (h2 : PSs X sts (xR X.K cs Γ s m2)) : PSs X (.If e body [] pos :: sts) (xR X.K cs Γ s (bd mc fun b => if b = true then m1 else m2)) :=
  pss_imp (pss_cons (ps_if hc h1 pss_nil) h2) fun D σ H ⟨H0, F0, B, F, p, z, p', S, hm, q⟩ => by
    obtain ⟨b, p1, e1, hm⟩ := bd_some hm
    refine ⟨H0, F0, B, F, p, b, p1, S, e1, fun H1 F1 S1 T1 => ?_⟩
    by_cases hb : b = true
    · rw [if_pos hb] at hm ⊢
      exact ⟨H0, F0, B, F1, p1, z, p', S1, hm, q⟩
    · rw [if_neg hb] at hm ⊢
      exact ⟨H0, F0, B, F1, p1, z, p', S1, hm, q⟩
theorem b_ifretB {Γ' : W → List Slot} {s : R → Slot} {mc : M P Bool} {m1 : M P R} {m2 : M P (W ⊕ R)} (hc : PT X e (xT X.K cs Γ mc)) (h1 : PSs X body (xR X.K cs Γ s m1)) (h2 : PSs X sts (xB X.K cs Γ Γ' s m2)) :
    PSs X (.If e body [] pos :: sts) (xB X.K cs Γ Γ' s (bd mc fun b => if b = true then bd m1 fun r => rt (.inr r) else m2)) :=
  pss_imp (pss_cons (ps_if hc h1 pss_nil) h2) fun D σ H ⟨H0, F0, B, F, p, z, p', S, hm, q, q2⟩ => by
    obtain ⟨b, p1, e1, hm⟩ := bd_some hm
    refine ⟨H0, F0, B, F, p, b, p1, S, e1, fun H1 F1 S1 T1 => ?_⟩
    by_cases hb : b = true
    · rw [if_pos hb] at hm ⊢
      obtain ⟨r, p2, e2, hm⟩ := bd_some hm
      obtain ⟨rfl, rfl⟩ := rt_some hm
      exact ⟨H0, F0, B, F1, p1, r, p2, S1, e2, q2 r rfl⟩
    · rw [if_neg hb] at hm ⊢
      exact ⟨H0, F0, B, F1, p1, z, p', S1, hm, fun w e σ2 H2 F2 S2 A2 => q w e σ2 H2 F2 S2 ((S.toAgr T1).trans A2), q2⟩
/-- if ..: raise .., never so here; and on -/
theorem b_raise {s : R → Slot} {mc : M P Bool} {m2 : M P R} (hc : PT X e (xT X.K cs Γ mc)) (h2 : PSs X sts (xR X.K cs Γ s m2)) : PSs X (.If e body [] pos :: sts) (xR X.K cs Γ s (bd mc fun b => grd (!b) m2)) :=
  pss_imp (pss_cons (ps_if hc pss_never pss_nil) h2) fun D σ H ⟨H0, F0, B, F, p, z, p', S, hm, q⟩ => by
    obtain ⟨b, p1, e1, hm⟩ := bd_some hm
    obtain ⟨hb, hm⟩ := grd_some hm
    refine ⟨H0, F0, B, F, p, b, p1, S, e1, fun H1 F1 S1 T1 => ?_⟩
    have hb : b = false := by simpa using hb
    subst hb
    exact ⟨H0, F0, B, F1, p1, z, p', S1, hm, q⟩
theorem s_raise {Γ' : List Slot} {mc : M P Bool} (hc : PT X e (xT X.K cs Γ mc)) : PS X (.If e body [] pos) (xN X.K cs Γ (fun _ : Unit => Γ) (bd mc fun b => grd (!b) (rt ()))) :=
  ps_imp (ps_if hc pss_never pss_nil) fun D σ H ⟨H0, F0, B, F, p, z, p', S, hm, q⟩ => by
    obtain ⟨b, p1, e1, hm⟩ := bd_some hm
    obtain ⟨hb, hm⟩ := grd_some hm
    obtain ⟨rfl, rfl⟩ := rt_some hm
    refine ⟨H0, F0, B, F, p, b, _, S, e1, fun H1 F1 S1 T1 => ?_⟩
    have hb : b = false := by simpa using hb
    subst hb
    exact q σ H1 F1 S1 (S.toAgr T1)
/-! ### names stored -/
theorem s_set (i : Nat) {s : α → Slot} {m : M P α} {y : Str} (hN : X.N.Nodup) (hi : X.N[i]? = some y) (hx : Loc X.env.scope y) (he : PE X e (xV X.K cs Γ s m)) (hl : (Γ[i]?).isSome = true := by rfl) (hs : swapsWith e (some (.Name y p2)) pos.line X.env = pure false := by rfl) (hf : X.fn y = true ∨ X.env.scope.names.lookup y = some .local := by first | exact .inl rfl | exact .inr rfl | assumption) :
    PS X (.Assign [.Name y p2] e pos) (xN X.K cs Γ (fun a => Γ.set i (s a)) m) :=
  ps_imp (ps_set hN hi hx he hs hf) fun D σ H ⟨H0, F0, B, F, p, z, p', S, hm, q⟩ => ⟨H0, F0, B, F, p, z, p', S, hm, fun v H' F' S' T r => q _ H' F' (S'.set1 (SV.now (Γ2 := Γ) S r) hl) (S.toAgr T)⟩
theorem s_asgL {ss : W → List Slot} {m : M P W} {is : List Nat} {D : Ends} {σ : L2.St} {H H' : Hp} {H0 : Hp} {F0 F F' : AS} {B : List Addr} {c c' : List (List Int)} {K : PySem.W.Frag} {w : W} {vs : List V} (S : SR K H0 F0 B c Γ σ H F) (S' : SR K H0 F0 B c' Γ σ H' F') (r : SVs K F' H H' vs (ss w)) (hl : ∀ i ∈ is, (Γ[i]?).isSome = true) :
    SR K H0 F0 B c' (setL Γ is (ss w)) (setL σ is (vs.map some)) H' F' := by
  refine SR.setAll (fun _ _ _ => trivial) S' r (fun a h => S.stp.back h) (fun j t k es ds v hj hv hk e => ?_) hl
  obtain ⟨a, e1, e2⟩ := r.own_new hj
  obtain ⟨a', us, e', ha', _⟩ := S.slot k _ hk
  rw [hv] at e1
  cases e1
  rw [e] at e'
  cases e'
  rw [e2] at ha'
  cases ha'
theorem s_par2 (i j : Nat) {ss : W → List Slot} {m : M P W} {y z : Str} {py pz pt : Pos} {kt k2 : Nat} {pt2 : Pos} (hc : X.calm = true) (hN : X.N.Nodup) (hi : X.N[i]? = some y) (hj : X.N[j]? = some z) (hij : i ≠ j) (hy : X.env.scope.names.lookup y = some .local) (hz : X.env.scope.names.lookup z = some .local)
    (ha : PA X [a, b] (xA X.K cs Γ ss m)) (hv : ∀ w, (ss w).length = 2) (hl : ∀ i' ∈ [i, j], (Γ[i']?).isSome = true) (hw : swappedStores [.Tuple [.Name y py, .Name z pz] kt pt] (.Tuple [a, b] k2 pt2) X.env = pure (some [y, z])) (hs : swapsWithSole [.Tuple [.Name y py, .Name z pz] kt pt] (.Tuple [a, b] k2 pt2) pos.line X.env = pure false := by rfl) :
    PS X (.Assign [.Tuple [.Name y py, .Name z pz] kt pt] (.Tuple [a, b] k2 pt2) pos) (xN X.K cs Γ (fun w => setL Γ [i, j] (ss w)) m) :=
  ps_imp (ps_par hc hN hi hj hij hy hz ha hw hs) fun D σ H ⟨H0, F0, B, F, p, w, p', S, hm, q⟩ => ⟨H0, F0, B, F, p, w, p', S, hm, fun vs H' F' S' T r => by
    have R := s_asgL (ss := ss) (m := m) (D := D) (w := w) S S' r hl
    match vs, hv w, svs_len r, R with
    | [v, u], _, _, R => exact ⟨v, u, rfl, q _ H' F' R (S.toAgr T)⟩
    | [], e, l, _ => rw [e] at l; cases l
    | [_], e, l, _ => rw [e] at l; cases l
    | _ :: _ :: _ :: _, e, l, _ => rw [e] at l; simp at l⟩
theorem s_par3 (i j k : Nat) {ss : W → List Slot} {m : M P W} {y z t : Str} {py pz pw pt : Pos} {kt k2 : Nat} {pt2 : Pos} (hc : X.calm = true) (hN : X.N.Nodup) (hi : X.N[i]? = some y) (hj : X.N[j]? = some z) (hk : X.N[k]? = some t) (hij : i ≠ j) (hik : i ≠ k) (hjk : j ≠ k) (hy : X.env.scope.names.lookup y = some .local) (hz : X.env.scope.names.lookup z = some .local) (ht : X.env.scope.names.lookup t = some .local)
    (ha : PA X [a, b, d] (xA X.K cs Γ ss m)) (hv : ∀ w, (ss w).length = 3) (hl : ∀ i' ∈ [i, j, k], (Γ[i']?).isSome = true) (hw : swappedStores [.Tuple [.Name y py, .Name z pz, .Name t pw] kt pt] (.Tuple [a, b, d] k2 pt2) X.env = pure (some [y, z, t])) (hs : swapsWithSole [.Tuple [.Name y py, .Name z pz, .Name t pw] kt pt] (.Tuple [a, b, d] k2 pt2) pos.line X.env = pure false := by rfl) :
    PS X (.Assign [.Tuple [.Name y py, .Name z pz, .Name t pw] kt pt] (.Tuple [a, b, d] k2 pt2) pos) (xN X.K cs Γ (fun w => setL Γ [i, j, k] (ss w)) m) :=
  ps_imp (ps_par3 hc hN hi hj hk hij hik hjk hy hz ht ha hw hs) fun D σ H ⟨H0, F0, B, F, p, w, p', S, hm, q⟩ => ⟨H0, F0, B, F, p, w, p', S, hm, fun vs H' F' S' T r => by
    have R := s_asgL (ss := ss) (m := m) (D := D) (w := w) S S' r hl
    match vs, hv w, svs_len r, R with
    | [v, u, x], _, _, R => exact ⟨v, u, x, rfl, q _ H' F' R (S.toAgr T)⟩
    | [], e, l, _ => rw [e] at l; cases l
    | [_], e, l, _ => rw [e] at l; cases l
    | [_, _], e, l, _ => rw [e] at l; cases l
    | _ :: _ :: _ :: _ :: _, e, l, _ => rw [e] at l; simp at l⟩
/-- names one behind another -/
def tgs : List Nat → TGs
  | [] => gNil
  | i :: is => gCons (gName i) (tgs is)
inductive Nms (X : Cx) : List Expr → List Nat → Prop
  | nil : Nms X [] []
  | cons {y : Str} {py : Pos} {i : Nat} {es : List Expr} {is : List Nat} (hi : X.N[i]? = some y) (hx : Loc X.env.scope y) (hf : X.fn y = true ∨ X.env.scope.names.lookup y = some .local) (h : Nms X es is)
    (hs : (assignEach (.Name y py :: es) X.env).map (·.2) = assign (.Name y py) X.env :: (assignEach es X.env).map (·.2)) : Nms X (.Name y py :: es) (i :: is)
theorem Nms.pgs (hN : X.N.Nodup) : ∀ {es : List Expr} {is : List Nat}, Nms X es is → PGs X es (tgs is)
  | _, _, .nil => pgs_nil
  | _, _, .cons hi hx hf h hs => pgs_cons (pg_name hN hi hx hf) (h.pgs hN) hs
theorem tgs_go : ∀ {is : List Nat} {vs : List V} {σ : L2.St} {H : Hp} {Q : L2.St → Hp → Prop}, vs.length = is.length → Q (setL σ is (vs.map some)) H → tgs is vs σ H Q
  | [], [], σ, H, Q, _, q => ⟨rfl, q⟩
  | i :: is, v :: vs, σ, H, Q, l, q => ⟨v, vs, rfl, tgs_go (is := is) (by simpa using l) q⟩
  | [], _ :: _, _, _, _, l, _ => by cases l
  | _ :: _, [], _, _, _, l, _ => by cases l
/-- a, b, .. = x, y, .. by a tuple -/
theorem s_tupN (is : List Nat) {tes : List Expr} {ss : W → List Slot} {m : M P W} {kt k2 : Nat} {pt pt2 : Pos} (hc : X.calm = true) (hN : X.N.Nodup) (hn : Nms X tes is) (ha : PA X es (xA X.K cs Γ ss m)) (hv : ∀ w, (ss w).length = is.length) (hz : is.length < 1000) (hl : ∀ i' ∈ is, (Γ[i']?).isSome = true)
    (hal : (assignEach tes X.env).length = is.length) (hst : (assignEach tes X.env).findIdx? (·.1) = none) (hs : swapsWithSole [.Tuple tes kt pt] (.Tuple es k2 pt2) pos.line X.env = pure false) (hw : swappedStores [.Tuple tes kt pt] (.Tuple es k2 pt2) X.env = pure none)
    (h1 : (assignEach [.Tuple tes kt pt] X.env).map (·.2) = [assign (.Tuple tes kt pt) X.env]) : PS X (.Assign [.Tuple tes kt pt] (.Tuple es k2 pt2) pos) (xN X.K cs Γ (fun w => setL Γ is (ss w)) m) :=
  ps_imp (ps_asg (pe_tup ha) (pg_tup hc (hn.pgs hN) hal hst) hs hw h1) fun D σ H ⟨H0, F0, B, F, p, w, p', S, hm, q⟩ => ⟨H0, F0, B, F, p, w, p', S, hm, fun vs H' F' S' T r => by
    have l : vs.length = is.length := (svs_len r).trans (hv w)
    refine ⟨by rw [l]; exact len_line hz, fun a hp => ⟨a, vs, rfl, SqT.of upd_same, l, tgs_go l ?_⟩⟩
    have R := s_asgL (ss := ss) (m := m) (D := D) (w := w) S S' r hl
    have T2 : Stp F' F' H' (upd H' a (.tup vs)) B := upd_stp0 hp S'.dom
    have R2 := R.step T2 fun b hb => by
      obtain ⟨o, e⟩ := S'.trkB hb
      exact upd_ne (ne_of_none e hp)
    exact q _ _ F' R2 (S.toAgr (T.trans T2))⟩
/-- a, b, .. = e, e a tuple -/
theorem s_unpack (is : List Nat) [Enc α] {tes : List Expr} (f : α → List PyData) {m : M P α} {kt : Nat} {pt : Pos} (hc : X.calm = true) (hN : X.N.Nodup) (hn : Nms X tes is) (he : PE X e (xE X.K cs Γ m)) (hf : ∀ x, enc x = .tuple (f x)) (hv : ∀ x, (f x).length = is.length) (hl : ∀ i' ∈ is, (Γ[i']?).isSome = true)
    (hal : (assignEach tes X.env).length = is.length) (hst : (assignEach tes X.env).findIdx? (·.1) = none) (hs : swapsWithSole [.Tuple tes kt pt] e pos.line X.env = pure false) (hw : swappedStores [.Tuple tes kt pt] e X.env = pure none)
    (h1 : (assignEach [.Tuple tes kt pt] X.env).map (·.2) = [assign (.Tuple tes kt pt) X.env]) : PS X (.Assign [.Tuple tes kt pt] e pos) (xN X.K cs Γ (fun x => setL Γ is ((f x).map Slot.dat)) m) :=
  ps_imp (ps_asg he (pg_tup hc (hn.pgs hN) hal hst) hs hw h1) fun D σ H ⟨H0, F0, B, F, p, w, p', S, hm, q⟩ => ⟨H0, F0, B, F, p, w, p', S, hm, fun v H' F' S' T r => by
    have r : Rep X.K F' H' v (enc w) := r
    rw [hf] at r
    cases r with
    | @tup a xs ds g1 g2 g3 =>
      have l : xs.length = is.length := g3.len.trans (hv w)
      refine ⟨a, xs, rfl, SqT.of g2, l, tgs_go l ?_⟩
      refine q _ _ F' ?_ (S.toAgr T)
      refine SR.setAll (fun _ _ _ => trivial) S' (reps_svs (H := H') g3) (fun a h => S'.stp.back h) (fun j t k es ds v hj => ?_) hl
      rw [List.getElem?_map] at hj
      cases e : (f w)[j]? with
      | none => rw [e] at hj; cases hj
      | some d => rw [e] at hj; cases hj⟩
end
end XL

/-! XL7: walks, loops, comprehensions. -/
namespace XL
open PySem PySem.Spec L2
open PyProof.Rows hiding St
open Enc (enc)

/-! ### the mirrors of loops -/
section
variable {P α β W R : Type}
def forM (b : α → W → M P W) : List α → W → M P W
  | [], w => rt w
  | a :: l, w => bd (b a w) (forM b l)
def forB (b : α → W → M P (W ⊕ R)) : List α → W → M P (W ⊕ R)
  | [], w => rt (.inl w)
  | a :: l, w => bd (b a w) fun z => match z with
    | .inl w' => forB b l w'
    | .inr r => rt (.inr r)
def whileN (c : W → M P Bool) (b : W → M P W) : Nat → W → M P W
  | 0, _ => no
  | n + 1, w => bd (c w) fun t => if t = true then bd (b w) (whileN c b n) else rt w
def fuel : Nat := 1152921504606846976
def whileM (c : W → M P Bool) (b : W → M P W) (w : W) : M P W := whileN c b fuel w
def whileNB (c : W → M P Bool) (b : W → M P (W ⊕ R)) : Nat → W → M P (W ⊕ R)
  | 0, _ => no
  | n + 1, w => bd (c w) fun t => if t = true then bd (b w) fun z => (match z with
    | .inl w' => whileNB c b n w'
    | .inr r => rt (.inr r)) else rt (.inl w)
def whileB (c : W → M P Bool) (b : W → M P (W ⊕ R)) (w : W) : M P (W ⊕ R) := whileNB c b fuel w
def mapMM (b : α → M P β) : List α → M P (List β)
  | [] => rt []
  | a :: l => bd (b a) fun y => bd (mapMM b l) fun r => rt (y :: r)
def filMM (c : α → M P Bool) (b : α → M P β) : List α → M P (List β)
  | [] => rt []
  | a :: l => bd (c a) fun t => if t = true then bd (b a) fun y => bd (filMM c b l) fun r => rt (y :: r) else filMM c b l
def andB (z : M P (W ⊕ R)) (f : W → M P R) : M P R := bd z fun y => match y with
  | .inl w => f w
  | .inr r => rt r
def andBB {W' : Type} (z : M P (W ⊕ R)) (f : W → M P (W' ⊕ R)) : M P (W' ⊕ R) := bd z fun y => match y with
  | .inl w => f w
  | .inr r => rt (.inr r)
end
/-- lo, lo + c, .. -/
def upto (lo : Int) : Nat → List Int
  | 0 => []
  | n + 1 => lo :: upto (lo + 1) n
def uptoC (lo c : Int) : Nat → List Int
  | 0 => []
  | n + 1 => lo :: uptoC (lo + c) c n
theorem upto_get : ∀ (n : Nat) (lo : Int) (i : Nat), (upto lo n)[i]? = if i < n then some (lo + i) else none
  | 0, lo, i => by simp [upto]
  | n + 1, lo, 0 => by simp [upto]
  | n + 1, lo, i + 1 => by
    show (upto (lo + 1) n)[i]? = _
    rw [upto_get n (lo + 1) i]
    by_cases h : i < n
    · rw [if_pos h, if_pos (by omega)]
      congr 1
      omega
    · rw [if_neg h, if_neg (by omega)]
theorem uptoC_get (c : Int) : ∀ (n : Nat) (lo : Int) (i : Nat), (uptoC lo c n)[i]? = if i < n then some (lo + i * c) else none
  | 0, lo, i => by simp [uptoC]
  | n + 1, lo, 0 => by simp [uptoC]
  | n + 1, lo, i + 1 => by
    show (uptoC (lo + c) c n)[i]? = _
    rw [uptoC_get c n (lo + c) i]
    by_cases h : i < n
    · rw [if_pos h, if_pos (by omega)]
      congr 1
      have e : ((i + 1 : Nat) : Int) * c = (i : Int) * c + c := by
        rw [Int.natCast_add, Int.add_mul]
        simp
      rw [e]
      omega
    · rw [if_neg h, if_neg (by omega)]
theorem upto_len : ∀ (n : Nat) (lo : Int), (upto lo n).length = n
  | 0, _ => rfl
  | n + 1, lo => congrArg (· + 1) (upto_len n (lo + 1))
theorem uptoC_len (c : Int) : ∀ (n : Nat) (lo : Int), (uptoC lo c n).length = n
  | 0, _ => rfl
  | n + 1, lo => congrArg (· + 1) (uptoC_len c n (lo + c))

/-! ### what is walked -/
def Walks (K : PySem.W.Frag) (F : AS) (H : Hp) (J : It) (ds : List PyData) : Prop :=
  ∀ F2 H2, (∀ b, F b → F2 b) → (∀ b, F b → H2 b = H b) → (∀ b, F2 b → ∃ o, H2 b = some o) →
    ∀ i, (∀ d, ds[i]? = some d → J.go i H2 ∧ ∀ x Hy, J.yld i H2 x Hy → ∃ Fy, Stp F2 Fy H2 Hy [] ∧ Rep K Fy Hy x d) ∧ (ds.length ≤ i → J.stop i H2)
section
variable {P ι α β γ W R : Type} {cs : P → List (List Int)} {Γ : List Slot}
def xI (K : PySem.W.Frag) (cs : P → List (List Int)) (Γ : List Slot) (ei : ι → List PyData) (m : M P ι) : TI := fun σ H Q =>
  ∃ (H0 : Hp) (F0 : AS) (B : List Addr) (F : AS) (p : P) (l : ι) (p' : P), SR K H0 F0 B (cs p) Γ σ H F ∧ m p = some (l, p') ∧
    ∀ J H' F', SR K H0 F0 B (cs p') Γ σ H' F' → Stp F F' H H' B → Walks K F' H' J (ei l) → Q J H'
abbrev eL [Enc α] : List α → List PyData := fun l => l.map enc
theorem stp_nil {F F' : AS} {H H' : Hp} {B : List Addr} (T : Stp F F' H H' []) : Stp F F' H H' B :=
  have nil : ∀ b : Addr, b ∉ ([] : List Addr) := fun b h => nomatch h
  ⟨T.mono, fun b o h _ => T.same b o h (nil b), fun b _ ⟨o, h⟩ => ⟨o, T.same b o h (nil b)⟩, T.new, T.dom⟩
theorem stp_bor {F F' : AS} {H H' : Hp} (T : Stp F F' H H' []) {b : Addr} (h : ∃ o, H b = some o) : H' b = H b := by
  obtain ⟨o, e⟩ := h
  rw [e]
  exact T.same b o e (fun z => nomatch z)
variable {X : Cx} {tg a b d e : Expr} {es : List Expr} {p pos : Pos}
theorem i_list [Enc α] {m : M P (List α)} (h : PE X e (xE X.K cs Γ m)) : PI X tg e (xI X.K cs Γ eL m) :=
  pi_imp (pi_list h) fun σ H Q ⟨H0, F0, B, F, p, l, p', S, hm, q⟩ => ⟨H0, F0, B, F, p, l, p', S, hm, fun v H' F' S' T r => by
    have r : Rep X.K F' H' v (enc l) := r
    cases r with
    | @lst a xs ds g1 g2 g3 =>
      refine ⟨a, rfl, ⟨xs, SqL.of g2⟩, q _ H' F' S' T fun F2 H2 hF hH hd i => ⟨fun d hi => ?_, fun hi => ?_⟩⟩
      · have e2 : SqL X.K H2 a xs := SqL.of ((hH a g1).trans g2)
        obtain ⟨v, hv, rv⟩ := g3.get hi
        refine ⟨⟨xs, v, e2, hv⟩, fun x Hy y => ?_⟩
        obtain ⟨e3, y⟩ := y
        subst e3
        have e4 := y xs e2
        rw [hv] at e4
        cases e4
        exact ⟨F2, Stp.refl hd, rv.mono hF hH⟩
      · exact ⟨xs, SqL.of ((hH a g1).trans g2), by rw [g3.len]; exact hi⟩⟩
theorem i_tup [Enc α] {m : M P (Tup α)} (h : PE X e (xE X.K cs Γ m)) : PI X tg e (xI X.K cs Γ (fun t : Tup α => t.l.map enc) m) :=
  pi_imp (pi_tup h) fun σ H Q ⟨H0, F0, B, F, p, l, p', S, hm, q⟩ => ⟨H0, F0, B, F, p, l, p', S, hm, fun v H' F' S' T r => by
    have r : Rep X.K F' H' v (enc l) := r
    cases r with
    | @tup a xs ds g1 g2 g3 =>
      refine ⟨a, rfl, ⟨xs, SqT.of g2⟩, q _ H' F' S' T fun F2 H2 hF hH hd i => ⟨fun d hi => ?_, fun hi => ?_⟩⟩
      · have e2 : SqT X.K H2 a xs := SqT.of ((hH a g1).trans g2)
        obtain ⟨v, hv, rv⟩ := g3.get hi
        refine ⟨⟨xs, v, e2, hv⟩, fun x Hy y => ?_⟩
        obtain ⟨e3, y⟩ := y
        subst e3
        have e4 := y xs e2
        rw [hv] at e4
        cases e4
        exact ⟨F2, Stp.refl hd, rv.mono hF hH⟩
      · exact ⟨xs, SqT.of ((hH a g1).trans g2), by rw [g3.len]; exact hi⟩⟩
theorem walks_rng {K : PySem.W.Frag} {F : AS} {H : Hp} (lo : Int) (n : Nat) : Walks K F H (Itr lo n) ((upto lo n).map enc) := fun F2 H2 hF hH hd i => by
  refine ⟨fun d hi => ?_, fun hi => ?_⟩
  · rw [List.getElem?_map, upto_get] at hi
    by_cases h : i < n
    · rw [if_pos h] at hi
      have e : enc (lo + (i : Int)) = d := Option.some.inj hi
      refine ⟨h, fun x Hy y => ?_⟩
      obtain ⟨e3, e4⟩ := y
      subst e3 e4
      exact ⟨F2, Stp.refl hd, e ▸ .int _⟩
    · rw [if_neg h] at hi
      cases hi
  · rw [List.length_map, upto_len] at hi
    exact hi
def okI62 (i : Int) : Bool := decide (-4611686018427387904 ≤ i) && decide (i < 4611686018427387904)
theorem okI62_of {i : Int} (h : okI62 i = true) : -(2 ^ 62) ≤ i ∧ i < 2 ^ 62 := by
  unfold okI62 at h
  rw [Bool.and_eq_true] at h
  have h1 := of_decide_eq_true h.1
  have h2 := of_decide_eq_true h.2
  constructor <;> omega
def rng1 (j : Int) : M P (List Int) := grd (okI62 j) (rt (upto 0 j.toNat))
def rng2 (i j : Int) : M P (List Int) := grd (okI62 i && okI62 j) (rt (upto i (j - i).toNat))
theorem i_rng1 {m : M P Int} (ha : PE X a (xE X.K cs Γ m)) (hg : Gl X "range") (hm : X.mg "range" = none) (hs : starEach [a] X.env = [(false, eval a X.env)] := by rfl) : PI X tg (.Call (.Name "range" p) [a] [] pos) (xI X.K cs Γ eL (bd m rng1)) :=
  pi_imp (pi_range1 hg hm (a_cons ha a_nil hs) hs) fun σ H Q ⟨H0, F0, B, F, p, l, p', S, hm, q⟩ => by
    obtain ⟨j, p1, h1, hm⟩ := bd_some hm
    obtain ⟨hc, hm⟩ := grd_some hm
    obtain ⟨rfl, rfl⟩ := rt_some hm
    refine ⟨H0, F0, B, F, p, (j, ()), p1, S, by rw [bd_eq h1]; rfl, fun vs H' F' S' T R => ?_⟩
    obtain ⟨v, rfl, R1⟩ := svs1 R
    have e : v = .int j := Rep.int_eq R1
    subst e
    obtain ⟨b1, b2⟩ := okI62_of hc
    exact ⟨j, rfl, b1, b2, q _ H' F' S' T (walks_rng 0 j.toNat)⟩
theorem i_rng2 {m1 m2 : M P Int} (ha : PE X a (xE X.K cs Γ m1)) (hb : PE X b (xE X.K cs Γ m2)) (hg : Gl X "range") (hm : X.mg "range" = none) (hs : starEach [a, b] X.env = [(false, eval a X.env), (false, eval b X.env)] := by rfl) (hs2 : starEach [b] X.env = [(false, eval b X.env)] := by rfl) :
    PI X tg (.Call (.Name "range" p) [a, b] [] pos) (xI X.K cs Γ eL (bd m1 fun i => bd m2 fun j => rng2 i j)) :=
  pi_imp (pi_range2 hg hm (a_cons ha (a_cons hb a_nil hs2) (hs.trans (congrArg (List.cons _) hs2.symm))) hs hs2) fun σ H Q ⟨H0, F0, B, F, p, l, p', S, hm, q⟩ => by
    obtain ⟨i, p1, h1, hm⟩ := bd_some hm
    obtain ⟨j, p2, h2, hm⟩ := bd_some hm
    obtain ⟨hc, hm⟩ := grd_some hm
    obtain ⟨rfl, rfl⟩ := rt_some hm
    refine ⟨H0, F0, B, F, p, (i, j, ()), p2, S, by rw [bd_eq h1, bd_eq (q := p2) (a := (j, ())) (by rw [bd_eq h2]; rfl)]; rfl, fun vs H' F' S' T R => ?_⟩
    obtain ⟨v, w, rfl, R1, R2⟩ := svs2 R
    have e : v = .int i := Rep.int_eq R1
    have e2 : w = .int j := Rep.int_eq R2
    subst e e2
    rw [Bool.and_eq_true] at hc
    obtain ⟨b1, b2⟩ := okI62_of hc.1
    obtain ⟨b3, b4⟩ := okI62_of hc.2
    exact ⟨i, j, rfl, ⟨b1, b2, b3, b4⟩, q _ H' F' S' T (walks_rng i (j - i).toNat)⟩
theorem walks_rngC {K : PySem.W.Frag} {F : AS} {H : Hp} (lo c : Int) (n : Nat) : Walks K F H (Itc lo c n) ((uptoC lo c n).map enc) := fun F2 H2 hF hH hd i => by
  refine ⟨fun d hi => ?_, fun hi => ?_⟩
  · rw [List.getElem?_map, uptoC_get] at hi
    by_cases h : i < n
    · rw [if_pos h] at hi
      have e : enc (lo + (i : Int) * c) = d := Option.some.inj hi
      refine ⟨h, fun x Hy y => ?_⟩
      obtain ⟨e3, e4⟩ := y
      subst e3 e4
      exact ⟨F2, Stp.refl hd, e ▸ .int _⟩
    · rw [if_neg h] at hi
      cases hi
  · rw [List.length_map, uptoC_len] at hi
    exact hi
def rng3 (i j c : Int) : M P (List Int) := grd (decide (c ≠ 0) && decide (c.natAbs < 1073741824) && Builtin.Range.small i j c && decide (0 ≤ Builtin.Range.rangeSize i j c)) (rt (uptoC i c (Builtin.Range.rangeSize i j c).toNat))
theorem svs3 {K : PySem.W.Frag} {F' : AS} {H H' : Hp} {vs : List V} {s t u : Slot} (h : SVs K F' H H' vs [s, t, u]) : ∃ x y z, vs = [x, y, z] ∧ SV K F' H H' x s ∧ SV K F' H H' y t ∧ SV K F' H H' z u := by
  match vs, svs_len h, h with
  | [x, y, z], _, ⟨h1, ⟨h2, ⟨h3, _, _⟩, _⟩, _⟩ => exact ⟨x, y, z, rfl, h1, h2, h3⟩
theorem i_rng3 {m1 m2 m3 : M P Int} (ha : PE X a (xE X.K cs Γ m1)) (hb : PE X b (xE X.K cs Γ m2)) (hd : PE X d (xE X.K cs Γ m3)) (hg : Gl X "range") (hm : X.mg "range" = none) (hs : starEach [a, b, d] X.env = (false, eval a X.env) :: starEach [b, d] X.env := by rfl)
    (hs2 : starEach [b, d] X.env = (false, eval b X.env) :: starEach [d] X.env := by rfl) (hs3 : starEach [d] X.env = (false, eval d X.env) :: starEach [] X.env := by rfl) (hpl : (backTo pos (starEach [b, d] X.env)).any (·.1) = false := by rfl) :
    PI X tg (.Call (.Name "range" p) [a, b, d] [] pos) (xI X.K cs Γ eL (bd m1 fun i => bd m2 fun j => bd m3 fun k => rng3 i j k)) :=
  pi_imp (pi_range3 hg hm (a_cons ha (a_cons hb (a_cons hd a_nil hs3) hs2) hs) hs hpl) fun σ H Q ⟨H0, F0, B, F, p, l, p', S, hm, q⟩ => by
    obtain ⟨i, p1, h1, hm⟩ := bd_some hm
    obtain ⟨j, p2, h2, hm⟩ := bd_some hm
    obtain ⟨k, p3, h3, hm⟩ := bd_some hm
    obtain ⟨hc, hm⟩ := grd_some hm
    obtain ⟨rfl, rfl⟩ := rt_some hm
    refine ⟨H0, F0, B, F, p, (i, j, k, ()), p3, S, by rw [bd_eq h1, bd_eq (q := p3) (a := (j, k, ())) (by rw [bd_eq h2, bd_eq (q := p3) (a := (k, ())) (by rw [bd_eq h3]; rfl)]; rfl)]; rfl, fun vs H' F' S' T R => ?_⟩
    obtain ⟨v, w, u, rfl, R1, R2, R3⟩ := svs3 R
    have e : v = .int i := Rep.int_eq R1
    have e2 : w = .int j := Rep.int_eq R2
    have e3 : u = .int k := Rep.int_eq R3
    subst e e2 e3
    rw [Bool.and_eq_true, Bool.and_eq_true, Bool.and_eq_true] at hc
    obtain ⟨⟨⟨c1, c2⟩, c3⟩, c4⟩ := hc
    have c4 := of_decide_eq_true c4
    exact ⟨i, j, k, _, rfl, ⟨of_decide_eq_true c1, of_decide_eq_true c2, c3, (Int.toNat_of_nonneg c4).symm⟩, q _ H' F' S' T (walks_rngC i k _)⟩

/-! ### targets -/
/-- a target binds the places is to the data f -/
def TgOk [Enc α] (K : PySem.W.Frag) (g : TG) (is : List Nat) (f : α → List PyData) : Prop :=
  ∀ {H0 : Hp} {F0 : AS} {B : List Addr} {c : List (List Int)} {Γ : List Slot} {σ : L2.St} {H : Hp} {F : AS} {x : V} {a : α} {Q : L2.St → Hp → Prop}, SR K H0 F0 B c Γ σ H F → Rep K F H x (enc a) → (∀ i ∈ is, (Γ[i]?).isSome = true) →
    (∀ us : List V, us.length = is.length → SR K H0 F0 B c (setL Γ is ((f a).map Slot.dat)) (setL σ is (us.map some)) H F → Q (setL σ is (us.map some)) H) → g x σ H Q
theorem tg_name [Enc α] {K : PySem.W.Frag} (i : Nat) : TgOk K (gName i) [i] (fun a : α => [enc a]) := fun {H0 F0 B c Γ σ H F x a Q} S r hi q =>
  q [x] rfl (S.set1 (s := .dat (enc a)) r (hi i List.mem_cons_self))
theorem tg_tupS [Enc α] {K : PySem.W.Frag} {is : List Nat} {n : Nat} (f : α → List PyData) (hf : ∀ x, enc x = .tuple (f x) := by intro _; rfl) (hn : n = is.length := by rfl) (hv : ∀ x, (f x).length = is.length := by intro _; rfl) : TgOk K (gTup K n (tgs is)) is f := fun {H0 F0 B c Γ σ H F x a Q} S r hi q => by
  subst hn
  rw [hf] at r
  cases r with
  | @tup a' xs ds g1 g2 g3 =>
    have l : xs.length = is.length := g3.len.trans (hv a)
    refine ⟨a', xs, rfl, SqT.of g2, l, tgs_go l (q xs l ?_)⟩
    refine SR.setAll (fun _ _ _ => trivial) S (reps_svs (H := H) g3) (fun a h => S.stp.back h) (fun j t k es ds v hj => ?_) hi
    rw [List.getElem?_map] at hj
    cases e : (f a)[j]? with
    | none => rw [e] at hj; cases hj
    | some d => rw [e] at hj; cases hj
end
section
variable {P ι α β γ W W2 R : Type} {cs : P → List (List Int)} {Γ : List Slot}
variable {X : Cx} {tg it a b d e : Expr} {es : List Expr} {p pos : Pos} {body rest : List Stmt} {st : Stmt} {g : TG} {is : List Nat}
theorem Walks.at {K : PySem.W.Frag} {F F2 : AS} {H H2 : Hp} {J : It} {ds : List PyData} (w : Walks K F H J ds) (A : Agr F F2 H H2) (hd : ∀ b, F2 b → ∃ o, H2 b = some o) (i : Nat) :
    (∀ d, ds[i]? = some d → J.go i H2 ∧ ∀ x Hy, J.yld i H2 x Hy → ∃ Fy, Stp F2 Fy H2 Hy [] ∧ Rep K Fy Hy x d) ∧ (ds.length ≤ i → J.stop i H2) := w F2 H2 A.1 A.2 hd i
theorem drop_cons {l : List α} {i : Nat} {a : α} (h : l[i]? = some a) : l.drop i = a :: l.drop (i + 1) := by
  obtain ⟨hi, e⟩ := List.getElem?_eq_some_iff.mp h
  rw [List.drop_eq_getElem_cons hi, e]
/-- for .. in ..: .. -/
theorem s_for [Enc α] {Γ' : W → List Slot} {f : α → List PyData} {m : M P (List α)} {mb : α → W → M P W} (w0 : W) (hp : PassesOwn (model X.prog X.w) X.A X.env X.xe) (hc : X.calm = true) (hi : PI X tg it (xI X.K cs Γ eL m)) (hg : PG X tg g) (ht : TgOk (α := α) X.K g is f)
    (hle : LeG Γ (Γ' w0)) (hsl : ∀ w, ∀ i ∈ is, (Γ' w)[i]?.isSome = true) (hb : ∀ a w, PSs X body (xN X.K cs (setL (Γ' w) is ((f a).map Slot.dat)) Γ' (mb a w))) (hfs : ∀ x, foldedSetIterable it X.env x = pure x := by intro _; rfl) :
    PS X (.For tg it body [] pos) (xN X.K cs Γ Γ' (bd m fun l => forM mb l w0)) :=
  ps_imp (ps_for hp hc hi hg (pss_ex fun a => pss_ex (hb a)) hfs) fun D σ H ⟨H0, F0, B, F, p, z, p', S, hm, q⟩ => by
    obtain ⟨l, p1, h1, hm⟩ := bd_some hm
    refine ⟨H0, F0, B, F, p, l, p1, S, h1, fun J H1 F1 S1 T1 hw => ?_⟩
    refine ⟨fun i n σ2 H2 => n = l.length - i ∧ i ≤ l.length ∧ ∃ F2 w p2, SR X.K H0 F0 B (cs p2) (Γ' w) σ2 H2 F2 ∧ Agr F1 F2 H1 H2 ∧ forM mb (l.drop i) w p2 = some (z, p'), ⟨l.length, rfl, Nat.zero_le _, F1, w0, p1, S1.le hle, Agr.refl, hm⟩, ?_⟩
    rintro i n σ2 H2 ⟨rfl, hil, F2, w, p2, S2, A2, hm2⟩
    obtain ⟨go, stop⟩ := hw.at A2 S2.dom i
    by_cases hlt : i < l.length
    · have hx : l[i]? = some l[i] := List.getElem?_eq_getElem hlt
      rw [drop_cons hx] at hm2
      obtain ⟨w2, p3, e1, hm2⟩ := bd_some hm2
      obtain ⟨g1, g2⟩ := go (enc l[i]) (by rw [List.getElem?_map, hx]; rfl)
      refine .inr ⟨g1, fun σ3 H3 => ∃ F3, SR X.K H0 F0 B (cs p3) (Γ' w2) σ3 H3 F3 ∧ Agr F1 F3 H1 H3, fun σ3 H3 ⟨F3, S3, A3⟩ => ⟨l.length - (i + 1), by omega, rfl, hlt, F3, w2, p3, S3, A3, hm2⟩, fun x Hy y => ?_⟩
      obtain ⟨Fy, Ty, ry⟩ := g2 x Hy y
      have Sy := S2.step (stp_nil Ty) fun b hb => stp_bor Ty (S2.trkB hb)
      refine ht Sy ry (hsl w) fun us hus S3 => ⟨l[i], w, H0, F0, B, Fy, p2, w2, p3, S3, e1, fun σ4 H4 F4 S4 A4 => ⟨F4, S4, A2.trans ((S2.toAgr (stp_nil Ty)).trans A4)⟩⟩
    · have e : l.drop i = [] := List.drop_eq_nil_of_le (Nat.le_of_not_lt hlt)
      rw [e] at hm2
      obtain ⟨rfl, rfl⟩ := rt_some hm2
      exact .inl ⟨stop (by rw [List.length_map]; omega), q σ2 H2 F2 S2 ((S.toAgr T1).trans A2)⟩
/-- .. with a return within -/
theorem s_forB [Enc α] {Γ' : W → List Slot} {s : R → Slot} {f : α → List PyData} {m : M P (List α)} {mb : α → W → M P (W ⊕ R)} (w0 : W) (hp : PassesOwn (model X.prog X.w) X.A X.env X.xe) (hc : X.calm = true) (hi : PI X tg it (xI X.K cs Γ eL m)) (hg : PG X tg g) (ht : TgOk (α := α) X.K g is f)
    (hle : LeG Γ (Γ' w0)) (hsl : ∀ w, ∀ i ∈ is, (Γ' w)[i]?.isSome = true) (hb : ∀ a w, PSs X body (xB X.K cs (setL (Γ' w) is ((f a).map Slot.dat)) Γ' s (mb a w))) (hfs : ∀ x, foldedSetIterable it X.env x = pure x := by intro _; rfl) :
    PS X (.For tg it body [] pos) (xB X.K cs Γ Γ' s (bd m fun l => forB mb l w0)) :=
  ps_imp (ps_for hp hc hi hg (pss_ex fun a => pss_ex (hb a)) hfs) fun D σ H ⟨H0, F0, B, F, p, z, p', S, hm, q, qr⟩ => by
    obtain ⟨l, p1, h1, hm⟩ := bd_some hm
    refine ⟨H0, F0, B, F, p, l, p1, S, h1, fun J H1 F1 S1 T1 hw => ?_⟩
    refine ⟨fun i n σ2 H2 => n = l.length - i ∧ i ≤ l.length ∧ ∃ F2 w p2, SR X.K H0 F0 B (cs p2) (Γ' w) σ2 H2 F2 ∧ Agr F1 F2 H1 H2 ∧ forB mb (l.drop i) w p2 = some (z, p'), ⟨l.length, rfl, Nat.zero_le _, F1, w0, p1, S1.le hle, Agr.refl, hm⟩, ?_⟩
    rintro i n σ2 H2 ⟨rfl, hil, F2, w, p2, S2, A2, hm2⟩
    obtain ⟨go, stop⟩ := hw.at A2 S2.dom i
    by_cases hlt : i < l.length
    · have hx : l[i]? = some l[i] := List.getElem?_eq_getElem hlt
      rw [drop_cons hx] at hm2
      obtain ⟨y, p3, e1, hm2⟩ := bd_some hm2
      obtain ⟨g1, g2⟩ := go (enc l[i]) (by rw [List.getElem?_map, hx]; rfl)
      refine .inr ⟨g1, fun σ3 H3 => ∃ w2 F3, y = .inl w2 ∧ SR X.K H0 F0 B (cs p3) (Γ' w2) σ3 H3 F3 ∧ Agr F1 F3 H1 H3, fun σ3 H3 ⟨w2, F3, ey, S3, A3⟩ => ?_, fun x Hy yy => ?_⟩
      · subst ey
        exact ⟨l.length - (i + 1), by omega, rfl, hlt, F3, w2, p3, S3, A3, hm2⟩
      · obtain ⟨Fy, Ty, ry⟩ := g2 x Hy yy
        have Sy := S2.step (stp_nil Ty) fun b hb => stp_bor Ty (S2.trkB hb)
        refine ht Sy ry (hsl w) fun us hus S3 => ⟨l[i], w, H0, F0, B, Fy, p2, y, p3, S3, e1, fun w2 ew σ4 H4 F4 S4 A4 => ⟨w2, F4, ew, S4, A2.trans ((S2.toAgr (stp_nil Ty)).trans A4)⟩, fun r er v H4 F4 S4 r4 => ?_⟩
        subst er
        obtain ⟨rfl, rfl⟩ := rt_some hm2
        exact qr r rfl v H4 F4 S4 r4
    · have e : l.drop i = [] := List.drop_eq_nil_of_le (Nat.le_of_not_lt hlt)
      rw [e] at hm2
      obtain ⟨rfl, rfl⟩ := rt_some hm2
      exact .inl ⟨stop (by rw [List.length_map]; omega), q w rfl σ2 H2 F2 S2 ((S.toAgr T1).trans A2)⟩
/-- while .. -/
theorem s_while {Γ' : W → List Slot} {mc : W → M P Bool} {mb : W → M P W} (w0 : W) (hp : PassesOwn (model X.prog X.w) X.A X.env X.xe) (hle : LeG Γ (Γ' w0)) (hc : ∀ w, PT X e (xT X.K cs (Γ' w) (mc w))) (hb : ∀ w, PSs X body (xN X.K cs (Γ' w) Γ' (mb w))) :
    PS X (.While e body [] pos) (xN X.K cs Γ Γ' (whileM mc mb w0)) :=
  ps_imp (ps_while hp (pt_ex hc) (pss_ex hb)) fun D σ H ⟨H0, F0, B, F, p, z, p', S, hm, q⟩ => by
    refine ⟨fun n σ2 H2 => ∃ F2 w p2, SR X.K H0 F0 B (cs p2) (Γ' w) σ2 H2 F2 ∧ Agr F F2 H H2 ∧ whileN mc mb n w p2 = some (z, p'), ⟨fuel, F, w0, p, S.le hle, Agr.refl, hm⟩, ?_⟩
    rintro n σ2 H2 ⟨F2, w, p2, S2, A2, hm2⟩
    cases n with
    | zero => cases hm2
    | succ n =>
      obtain ⟨t, p3, e1, hm2⟩ := bd_some hm2
      refine ⟨w, H0, F0, B, F2, p2, t, p3, S2, e1, fun H3 F3 S3 T3 => ?_⟩
      by_cases ht : t = true
      · rw [if_pos ht] at hm2 ⊢
        obtain ⟨w2, p4, e2, hm2⟩ := bd_some hm2
        exact ⟨fun σ4 H4 => ∃ F4, SR X.K H0 F0 B (cs p4) (Γ' w2) σ4 H4 F4 ∧ Agr F F4 H H4, fun σ4 H4 ⟨F4, S4, A4⟩ => ⟨n, Nat.lt_succ_self n, F4, w2, p4, S4, A4, hm2⟩, w, H0, F0, B, F3, p3, w2, p4, S3, e2, fun σ4 H4 F4 S4 A4 => ⟨F4, S4, A2.trans ((S2.toAgr T3).trans A4)⟩⟩
      · rw [if_neg ht] at hm2 ⊢
        obtain ⟨rfl, rfl⟩ := rt_some hm2
        exact q σ2 H3 F3 S3 (A2.trans (S2.toAgr T3))
theorem s_whileB {Γ' : W → List Slot} {s : R → Slot} {mc : W → M P Bool} {mb : W → M P (W ⊕ R)} (w0 : W) (hp : PassesOwn (model X.prog X.w) X.A X.env X.xe) (hle : LeG Γ (Γ' w0)) (hc : ∀ w, PT X e (xT X.K cs (Γ' w) (mc w))) (hb : ∀ w, PSs X body (xB X.K cs (Γ' w) Γ' s (mb w))) :
    PS X (.While e body [] pos) (xB X.K cs Γ Γ' s (whileB mc mb w0)) :=
  ps_imp (ps_while hp (pt_ex hc) (pss_ex hb)) fun D σ H ⟨H0, F0, B, F, p, z, p', S, hm, q, qr⟩ => by
    refine ⟨fun n σ2 H2 => ∃ F2 w p2, SR X.K H0 F0 B (cs p2) (Γ' w) σ2 H2 F2 ∧ Agr F F2 H H2 ∧ whileNB mc mb n w p2 = some (z, p'), ⟨fuel, F, w0, p, S.le hle, Agr.refl, hm⟩, ?_⟩
    rintro n σ2 H2 ⟨F2, w, p2, S2, A2, hm2⟩
    cases n with
    | zero => cases hm2
    | succ n =>
      obtain ⟨t, p3, e1, hm2⟩ := bd_some hm2
      refine ⟨w, H0, F0, B, F2, p2, t, p3, S2, e1, fun H3 F3 S3 T3 => ?_⟩
      by_cases ht : t = true
      · rw [if_pos ht] at hm2 ⊢
        obtain ⟨y, p4, e2, hm2⟩ := bd_some hm2
        refine ⟨fun σ4 H4 => ∃ w2 F4, y = .inl w2 ∧ SR X.K H0 F0 B (cs p4) (Γ' w2) σ4 H4 F4 ∧ Agr F F4 H H4, fun σ4 H4 ⟨w2, F4, ey, S4, A4⟩ => ?_, w, H0, F0, B, F3, p3, y, p4, S3, e2, fun w2 ew σ4 H4 F4 S4 A4 => ⟨w2, F4, ew, S4, A2.trans ((S2.toAgr T3).trans A4)⟩, fun r er v H4 F4 S4 r4 => ?_⟩
        · subst ey
          exact ⟨n, Nat.lt_succ_self n, F4, w2, p4, S4, A4, hm2⟩
        · subst er
          obtain ⟨rfl, rfl⟩ := rt_some hm2
          exact qr r rfl v H4 F4 S4 r4
      · rw [if_neg ht] at hm2 ⊢
        obtain ⟨rfl, rfl⟩ := rt_some hm2
        exact q w rfl σ2 H3 F3 S3 (A2.trans (S2.toAgr T3))
/-- behind a loop that may have returned -/
theorem b_loopR {Γ1 : W → List Slot} {s : R → Slot} {m1 : M P (W ⊕ R)} {m2 : W → M P R} (h1 : PS X st (xB X.K cs Γ Γ1 s m1)) (h2 : ∀ w, PSs X rest (xR X.K cs (Γ1 w) s (m2 w))) : PSs X (st :: rest) (xR X.K cs Γ s (andB m1 m2)) :=
  pss_imp (pss_cons h1 (pss_ex h2)) fun D σ H ⟨H0, F0, B, F, p, z, p', S, hm, q⟩ => by
    obtain ⟨y, p1, e1, hm⟩ := bd_some hm
    refine ⟨H0, F0, B, F, p, y, p1, S, e1, fun w ew σ' H' F' S' A => ?_, fun r er v H' F' S' rv => ?_⟩
    · subst ew
      exact ⟨w, H0, F0, B, F', p1, z, p', S', hm, q⟩
    · subst er
      obtain ⟨rfl, rfl⟩ := rt_some hm
      exact q v H' F' S' rv
theorem b_loopB {Γ1 : W → List Slot} {Γ2 : W2 → List Slot} {s : R → Slot} {m1 : M P (W ⊕ R)} {m2 : W → M P (W2 ⊕ R)} (h1 : PS X st (xB X.K cs Γ Γ1 s m1)) (h2 : ∀ w, PSs X rest (xB X.K cs (Γ1 w) Γ2 s (m2 w))) : PSs X (st :: rest) (xB X.K cs Γ Γ2 s (andBB m1 m2)) :=
  pss_imp (pss_cons h1 (pss_ex h2)) fun D σ H ⟨H0, F0, B, F, p, z, p', S, hm, q, qr⟩ => by
    obtain ⟨y, p1, e1, hm⟩ := bd_some hm
    refine ⟨H0, F0, B, F, p, y, p1, S, e1, fun w ew σ' H' F' S' A => ?_, fun r er v H' F' S' rv => ?_⟩
    · subst ew
      exact ⟨w, H0, F0, B, F', p1, z, p', S', hm, fun w2 e2 σ2 H2 F2 S2 A2 => q w2 e2 σ2 H2 F2 S2 (A.trans A2), qr⟩
    · subst er
      obtain ⟨rfl, rfl⟩ := rt_some hm
      exact qr r rfl v H' F' S' rv
end
end XL

/-! XL8: comprehensions, methods of lists, borrowed lists, zip, slices, the rule of a def. -/
namespace XL
open PySem PySem.Spec L2
open PyProof.Rows hiding St
open Enc (enc)

/-! ### comprehensions -/
def wipeG (Γ : List Slot) : List Nat → List Slot
  | [] => Γ
  | v :: vs => (wipeG Γ vs).set v .un
section
variable {K : PySem.W.Frag} {Γ : List Slot} {H0 H H' : Hp} {F0 F F' : AS} {B : List Addr} {c c' : List (List Int)} {σ : L2.St}
theorem SR.wipe1 (S : SR K H0 F0 B c Γ σ H F) (v : Nat) : SR K H0 F0 B c (Γ.set v .un) (σ.set v none) H F :=
  ⟨S.stp, S.nB, S.inB, S.bnd, S.bor, fun i s h => by
    rcases set_get h with ⟨_, rfl⟩ | ⟨hi, h⟩
    · trivial
    · rw [List.getElem?_set_ne (fun z => hi z.symm)]
      exact S.slot i s h, fun i j ds es a hi hj h1 h2 => by
    rcases set_get hi with ⟨_, z⟩ | ⟨ni, hi'⟩
    · cases z
    · rcases set_get hj with ⟨_, z⟩ | ⟨nj, hj'⟩
      · cases z
      · rw [List.getElem?_set_ne (fun z => ni z.symm)] at h1
        rw [List.getElem?_set_ne (fun z => nj z.symm)] at h2
        exact S.dis i j ds es a hi' hj' h1 h2, by rw [List.length_set, List.length_set]; exact S.len⟩
theorem SR.wipe (S : SR K H0 F0 B c Γ σ H F) : ∀ vs : List Nat, SR K H0 F0 B c (wipeG Γ vs) (L2.wipe σ vs) H F
  | [] => S
  | v :: vs => (SR.wipe S vs).wipe1 v
/-- a new list outside the footprint is written -/
theorem SR.outer {D : Addr} {o : HO} (S : SR K H0 F0 B c Γ σ H F) (nF : ¬ F D) (nB : D ∉ B) (n0 : H0 D = none) (no : ∀ (i : Nat) (ds : List PyData), Γ[i]? = some (.own ds) → σ[i]? ≠ some (some (.ref D))) : SR K H0 F0 B c Γ σ (upd H D o) F := by
  have ne : ∀ b, F b → b ≠ D := fun b h z => by subst z; exact nF h
  have agr : ∀ b, F b → upd H D o b = H b := fun b h => upd_ne (ne b h)
  refine ⟨⟨S.stp.mono, fun b u h hb => ?_, fun b hb h => ?_, S.stp.new, fun b h => ?_⟩, S.nB, S.inB, S.bnd, fun j a h => ?_, fun i s h => ?_, S.dis, S.len⟩
  · rw [upd_ne (ne_of_none h n0)]
    exact S.stp.same b u h hb
  · rw [upd_ne (show b ≠ D from fun z => nB (z ▸ hb))]
    exact S.stp.brw b hb h
  · rw [agr b h]
    exact S.dom b h
  · rw [upd_ne (show a ≠ D from fun z => nB (z ▸ List.mem_of_getElem? h))]
    exact S.bor j a h
  · have q := S.slot i s h
    cases s with
    | un => trivial
    | dat d =>
      obtain ⟨v, e, r⟩ := q
      exact ⟨v, e, r.mono (fun _ h => h) agr⟩
    | own ds =>
      obtain ⟨a, vs, e, ha, r, nf, h0⟩ := q
      exact ⟨a, vs, e, by rw [upd_ne (show a ≠ D from fun z => no i ds h (z ▸ e))]; exact ha, r.mono (fun _ h => h) agr, nf, h0⟩
    | bor j => exact q
theorem setLS_wipe : ∀ {is : List Nat} {us : List V} {σ : L2.St} {own : List Nat}, (∀ i ∈ is, i ∈ own) → L2.wipe (setL σ is (us.map some)) own = L2.wipe σ own
  | [], _, _, _, _ => rfl
  | i :: is, [], _, _, _ => rfl
  | i :: is, u :: us, σ, own, h => by
    have e1 : ∀ (own : List Nat) (σ : L2.St) (x : Option V), i ∈ own → L2.wipe (σ.set i x) own = L2.wipe σ own := by
      intro own
      induction own with
      | nil => intro σ x hi; cases hi
      | cons v vs ih =>
        intro σ x hi
        show (L2.wipe (σ.set i x) vs).set v none = (L2.wipe σ vs).set v none
        by_cases hv : i ∈ vs
        · rw [ih σ x hv]
        · have e : i = v := by
            rcases List.mem_cons.mp hi with e | e
            · exact e
            · exact absurd e hv
          subst e
          have e2 : ∀ (vs : List Nat) (σ : L2.St), i ∉ vs → L2.wipe (σ.set i x) vs = (L2.wipe σ vs).set i x := by
            intro vs
            induction vs with
            | nil => intro σ _; rfl
            | cons w ws ih2 =>
              intro σ hn
              show (L2.wipe (σ.set i x) ws).set w none = ((L2.wipe σ ws).set w none).set i x
              rw [ih2 σ fun z => hn (List.mem_cons_of_mem _ z), List.set_comm _ _ (fun z => hn (by rw [z]; exact List.mem_cons_self))]
          rw [e2 vs σ hv, List.set_set]
    show L2.wipe (setL (σ.set i (some u)) is (us.map some)) own = _
    rw [setLS_wipe (σ := σ.set i (some u)) fun j hj => h j (List.mem_cons_of_mem _ hj)]
    exact e1 own σ _ (h i List.mem_cons_self)
theorem wipe_wipe : ∀ (own : List Nat) (σ : L2.St), L2.wipe (L2.wipe σ own) own = L2.wipe σ own := by
  have key : ∀ (vs : List Nat) (σ : L2.St) (i : Nat), L2.wipe (σ.set i none) vs = (L2.wipe σ vs).set i none := by
    intro vs
    induction vs with
    | nil => intro σ i; rfl
    | cons w ws ih =>
      intro σ i
      show (L2.wipe (σ.set i none) ws).set w none = ((L2.wipe σ ws).set w none).set i none
      rw [ih]
      by_cases e : i = w
      · subst e; rfl
      · rw [List.set_comm _ _ e]
  intro own
  induction own with
  | nil => intro σ; rfl
  | cons v vs ih =>
    intro σ
    show (L2.wipe ((L2.wipe σ vs).set v none) vs).set v none = (L2.wipe σ vs).set v none
    rw [key, ih, List.set_set]
end
section
variable {P ι α β γ W W2 R : Type} {cs : P → List (List Int)} {Γ : List Slot}
variable {X : Cx} {tg it elt a b d e : Expr} {es ifs : List Expr} {p pos : Pos} {g : TG} {is : List Nat} {scope : Scope} {own : List (Str × Nat)}
/-- the turns of a comprehension -/
theorem lc_turns [Enc α] [Enc β] {K : PySem.W.Frag} {f : α → List PyData} {mt : α → M P Bool} {me : α → M P β} {tt : TT} {H0 H1 : Hp} {F0 F1 : AS} {B : List Addr} {σ : L2.St} {J : It} {l : List α} {z : List β} {p1 p' : P} {vs : List Nat} {Q : VK}
    (htt : ∀ a σ H Q, xT K cs (setL (wipeG Γ vs) is ((f a).map Slot.dat)) (mt a) σ H Q → tt σ H Q) {te : TE} (hte : ∀ a σ H Q, xE K cs (setL (wipeG Γ vs) is ((f a).map Slot.dat)) (me a) σ H Q → te σ H Q)
    (ht : TgOk (α := α) K g is f) (hown : ∀ i ∈ is, i ∈ vs) (hsl : ∀ i ∈ is, ((wipeG Γ vs)[i]?).isSome = true) (S0 : SR K H0 F0 B (cs p1) Γ σ H1 F1) (hw : Walks K F1 H1 J (l.map enc)) (hm : filMM mt me l p1 = some (z, p')) (hz : okLen z.length = true)
    (q : ∀ D H' F', H1 D = none → SR K H0 F0 B (cs p') Γ σ H' F' → Stp F1 F' H1 H' B → SV K F' H1 H' (.ref D) (.own (z.map enc)) → Q (.ref D) H') : ∀ D, H1 D = none → ∃ W : Nat → Nat → Hp → Prop, (∃ m, W 0 m (upd H1 D (.lst []))) ∧ ∀ i m H, W i m H →
      (J.stop i H ∧ Q (.ref D) H) ∨ (J.go i H ∧ ∃ Nx : Hp → Prop, (∀ H', Nx H' → ∃ m', m' < m ∧ W (i + 1) m' H') ∧ ∀ x H', J.yld i H x H' → g x (L2.wipe σ vs) H' fun σ2 H2 => L2.wipe σ2 vs = L2.wipe σ vs ∧ tt σ2 H2 fun b H3 =>
        if b = true then te σ2 H3 fun y H4 => ∃ acc, H4 D = some (.lst acc) ∧ acc.length < sizeLine ∧ Nx (upd H4 D (.lst (acc ++ [y]))) else Nx H3) := by
  intro D hD
  have nB : D ∉ B := fun h => by
    obtain ⟨o, e⟩ := S0.trkB h
    rw [hD] at e; cases e
  have n0 : H0 D = none := S0.stp.back hD
  have nF1 : ¬ F1 D := fun h => by
    obtain ⟨o, e⟩ := S0.dom D h
    rw [hD] at e; cases e
  have no : ∀ (i : Nat) (ds : List PyData), Γ[i]? = some (.own ds) → σ[i]? ≠ some (some (.ref D)) := fun i ds hi e => by
    obtain ⟨a, us, e', ha, _⟩ := S0.slot i _ hi
    rw [e] at e'
    cases e'
    rw [hD] at ha
    cases ha
  -- no slot of the block is the new list
  have now : ∀ (i : Nat) (ds : List PyData), (wipeG Γ vs)[i]? = some (.own ds) → (L2.wipe σ vs)[i]? ≠ some (some (.ref D)) := by
    intro i ds
    have : ∀ vs : List Nat, (wipeG Γ vs)[i]? = some (.own ds) → (L2.wipe σ vs)[i]? ≠ some (some (.ref D)) := by
      intro vs
      induction vs with
      | nil => exact no i ds
      | cons v vs ih =>
        intro h
        rcases set_get h with ⟨_, e⟩ | ⟨nv, h⟩
        · cases e
        · show ((L2.wipe σ vs).set v none)[i]? ≠ _
          rw [List.getElem?_set_ne (fun z => nv z.symm)]
          exact ih h
    exact this vs
  refine ⟨fun i n H2 => n = l.length - i ∧ i ≤ l.length ∧ ∃ F2 p2 acc ys zs, SR K H0 F0 B (cs p2) (wipeG Γ vs) (L2.wipe σ vs) H2 F2 ∧ Stp F1 F2 H1 H2 B ∧ ¬ F2 D ∧ H2 D = some (.lst acc) ∧ Reps K F2 H2 acc (ys.map enc) ∧ filMM mt me (l.drop i) p2 = some (zs, p') ∧ z = ys ++ zs,
    ⟨l.length, rfl, Nat.zero_le _, F1, p1, [], [], z, (S0.wipe vs).outer nF1 nB n0 now, upd_stp0 hD S0.dom, nF1, upd_same, .nil, hm, rfl⟩, ?_⟩
  rintro i n H2 ⟨rfl, hil, F2, p2, acc, ys, zs, S2, T2, nF2, hD2, racc, hm2, ez⟩
  obtain ⟨go, stop⟩ := hw F2 H2 T2.mono (S0.agr T2) S2.dom i
  have hlen : acc.length = ys.length := by rw [racc.len, List.length_map]
  by_cases hlt : i < l.length
  · have hx : l[i]? = some l[i] := List.getElem?_eq_getElem hlt
    rw [drop_cons hx] at hm2
    obtain ⟨t, p3, e1, hm2⟩ := bd_some hm2
    obtain ⟨g1, g2⟩ := go (enc l[i]) (by rw [List.getElem?_map, hx]; rfl)
    refine .inr ⟨g1, fun H5 => ∃ F5 p5 acc5 ys5 zs5, SR K H0 F0 B (cs p5) (wipeG Γ vs) (L2.wipe σ vs) H5 F5 ∧ Stp F1 F5 H1 H5 B ∧ ¬ F5 D ∧ H5 D = some (.lst acc5) ∧ Reps K F5 H5 acc5 (ys5.map enc) ∧ filMM mt me (l.drop (i + 1)) p5 = some (zs5, p') ∧ z = ys5 ++ zs5,
      fun H5 ⟨F5, p5, acc5, ys5, zs5, q1, q2, q3, q4, q5, q6, q7⟩ => ⟨l.length - (i + 1), by omega, rfl, hlt, F5, p5, acc5, ys5, zs5, q1, q2, q3, q4, q5, q6, q7⟩, fun x Hy y => ?_⟩
    obtain ⟨Fy, Ty, ry⟩ := g2 x Hy y
    have Tyb : Stp F2 Fy H2 Hy B := stp_nil Ty
    have Sy := S2.step Tyb fun b hb => stp_bor Ty (S2.trkB hb)
    have nFy : ¬ Fy D := fun h => by
      rcases Ty.new D h with h | h
      · exact nF2 h
      · rw [hD2] at h; cases h
    have hDy : Hy D = some (.lst acc) := Ty.same D _ hD2 (fun z => nomatch z)
    have ry2 : Reps K Fy Hy acc (ys.map enc) := S2.reps Tyb racc
    refine ht Sy ry hsl fun us hus S3 => ⟨(setLS_wipe hown).trans (wipe_wipe vs σ), ?_⟩
    refine htt l[i] _ _ _ ⟨H0, F0, B, Fy, p2, t, p3, S3, e1, fun H3 F3 S4 T4 => ?_⟩
    have nF3 : ¬ F3 D := fun h => by
      rcases T4.new D h with h | h
      · exact nFy h
      · rw [hDy] at h; cases h
    have hD3 : H3 D = some (.lst acc) := T4.same D _ hDy nB
    have racc3 : Reps K F3 H3 acc (ys.map enc) := S3.reps T4 ry2
    -- the block's slots are as ahead
    have back : ∀ {c3 : List (List Int)} {H4 : Hp} {F4 : AS}, SR K H0 F0 B c3 (setL (wipeG Γ vs) is ((f l[i]).map Slot.dat)) (setL (L2.wipe σ vs) is (us.map some)) H4 F4 → Stp F2 F4 H2 H4 B → SR K H0 F0 B c3 (wipeG Γ vs) (L2.wipe σ vs) H4 F4 := fun S5 T5 => S2.step' T5 S5.bor
    by_cases hb : t = true
    · rw [if_pos hb] at hm2
      show (if t = true then _ else _)
      rw [if_pos hb]
      obtain ⟨y4, p4, e2, hm2⟩ := bd_some hm2
      obtain ⟨zs4, p5, e3, hm2⟩ := bd_some hm2
      obtain ⟨rfl, rfl⟩ := rt_some hm2
      refine hte l[i] _ _ _ ⟨H0, F0, B, F3, p3, y4, p4, S4, e2, fun v H4 F4 S5 T5 r5 => ⟨acc, T5.same D _ hD3 nB, ?_, ?_⟩⟩
      · have h1 := okLen_lt hz
        rw [ez, List.length_append] at h1
        simp only [List.length_cons] at h1
        omega
      · have nF4 : ¬ F4 D := fun h => by
          rcases T5.new D h with h | h
          · exact nF3 h
          · rw [hD3] at h; cases h
        have T14 : Stp F2 F4 H2 H4 B := Tyb.trans (T4.trans T5)
        have S6 := back S5 T14
        have S7 := S6.outer (o := .lst (acc ++ [v])) nF4 nB n0 now
        have ne : ∀ b, F4 b → upd H4 D (.lst (acc ++ [v])) b = H4 b := fun b h => upd_ne (fun z => by subst z; exact nF4 h)
        refine ⟨F4, p4, acc ++ [v], ys ++ [y4], zs4, S7, ?_, nF4, upd_same, ?_, e3, by rw [ez, List.append_assoc]; rfl⟩
        · have T := T2.trans T14
          exact ⟨T.mono, fun b o h hb => by rw [upd_ne (ne_of_none h hD)]; exact T.same b o h hb, fun b hb h => by rw [upd_ne (show b ≠ D from fun z => nB (z ▸ hb))]; exact T.brw b hb h, T.new, fun b h => by rw [ne b h]; exact T.dom b h⟩
        · rw [List.map_append]
          exact ((S4.reps T5 racc3).app (.one r5)).mono (fun _ h => h) ne
    · rw [if_neg hb] at hm2
      show (if t = true then _ else _)
      rw [if_neg hb]
      exact ⟨F3, p3, acc, ys, zs, back S4 (Tyb.trans T4), T2.trans (Tyb.trans T4), nF3, hD3, racc3, hm2, ez⟩
  · have e : l.drop i = [] := List.drop_eq_nil_of_le (Nat.le_of_not_lt hlt)
    rw [e] at hm2
    obtain ⟨rfl, rfl⟩ := rt_some hm2
    refine .inl ⟨stop (by rw [List.length_map]; omega), q D H2 F2 hD (S0.step' T2 S2.bor) T2 ⟨D, acc, rfl, hD, hD2, ?_, nF2⟩⟩
    rw [ez, List.append_nil]
    exact racc
/-- [elt for tg in it if c] -/
theorem x_lcif [Enc α] [Enc β] {f : α → List PyData} {m : M P (List α)} {mt : α → M P Bool} {me : α → M P β} {c : Expr} (hc : X.calm = true) (hN : X.N.Nodup) (hi : PI X tg it (xI X.K cs Γ eL m)) (ok : BlkOk X.N X.env.scope scope own)
    (hg : ∀ (s : Shared) (H : Hp) (C : Addr) (cl : List (Str × Addr)) (fp : List Addr), PG (X.blk s H scope (compEnvC scope cl C X.env) fp) tg g) (ht : TgOk (α := α) X.K g is f) (hown : ∀ i ∈ is, i ∈ own.map (·.2)) (hsl : ∀ i ∈ is, ((wipeG Γ (own.map (·.2)))[i]?).isSome = true)
    (hif : ∀ (s : Shared) (H : Hp) (C : Addr) (cl : List (Str × Addr)) (fp : List Addr) (a : α), PT (X.blk s H scope (compEnvC scope cl C X.env) fp) c (xT X.K cs (setL (wipeG Γ (own.map (·.2))) is ((f a).map Slot.dat)) (mt a)))
    (he : ∀ (s : Shared) (H : Hp) (C : Addr) (cl : List (Str × Addr)) (fp : List Addr) (a : α), PE (X.blk s H scope (compEnvC scope cl C X.env) fp) elt (xE X.K cs (setL (wipeG Γ (own.map (·.2))) is ((f a).map Slot.dat)) (me a)))
    (hs : ∀ x, foldedSetIterable it X.env x = pure x := by intro _; rfl) : PE X (.ListComp elt [⟨tg, it, [c], 0⟩] scope pos) (xO X.K cs Γ (bd m fun l => bd (filMM mt me l) fun r => grd (okLen r.length) (rt r))) :=
  pe_imp (pe_lc hc hN hi ok hg (fun s H C cl fp => pts_one (pt_ex (hif s H C cl fp))) (fun s H C cl fp => pe_ex (he s H C cl fp)) hs) fun σ H Q ⟨H0, F0, B, F, p, z, p', S, hm, q⟩ => by
    obtain ⟨l, p1, h1, hm⟩ := bd_some hm
    obtain ⟨r, p2, h2, hm⟩ := bd_some hm
    obtain ⟨hz, hm⟩ := grd_some hm
    obtain ⟨rfl, rfl⟩ := rt_some hm
    exact ⟨H0, F0, B, F, p, l, p1, S, h1, fun J H1 F1 S1 T1 hw => lc_turns (tt := fun σ H Q => ∃ a, xT X.K cs (setL (wipeG Γ (own.map (·.2))) is ((f a).map Slot.dat)) (mt a) σ H Q) (te := fun σ H Q => ∃ a, xE X.K cs (setL (wipeG Γ (own.map (·.2))) is ((f a).map Slot.dat)) (me a) σ H Q) (fun a σ H Q h => ⟨a, h⟩) (fun a σ H Q h => ⟨a, h⟩) ht hown hsl S1 hw h2 hz fun D H' F' hD S' T' r => q _ H' F' S' (T1.trans T') (r.back T1)⟩
theorem filMM_yes {me : α → M P β} : ∀ l : List α, filMM (fun _ => rt true) me l = mapMM me l
  | [] => rfl
  | a :: l => by
    show (bd (rt true) fun t => if t = true then bd (me a) fun y => bd (filMM (fun _ => rt true) me l) fun r => rt (y :: r) else filMM (fun _ => rt true) me l) = _
    rw [filMM_yes l]
    rfl
/-- [elt for tg in it] -/
theorem x_lc [Enc α] [Enc β] {f : α → List PyData} {m : M P (List α)} {me : α → M P β} (hc : X.calm = true) (hN : X.N.Nodup) (hi : PI X tg it (xI X.K cs Γ eL m)) (ok : BlkOk X.N X.env.scope scope own)
    (hg : ∀ (s : Shared) (H : Hp) (C : Addr) (cl : List (Str × Addr)) (fp : List Addr), PG (X.blk s H scope (compEnvC scope cl C X.env) fp) tg g) (ht : TgOk (α := α) X.K g is f) (hown : ∀ i ∈ is, i ∈ own.map (·.2)) (hsl : ∀ i ∈ is, ((wipeG Γ (own.map (·.2)))[i]?).isSome = true)
    (he : ∀ (s : Shared) (H : Hp) (C : Addr) (cl : List (Str × Addr)) (fp : List Addr) (a : α), PE (X.blk s H scope (compEnvC scope cl C X.env) fp) elt (xE X.K cs (setL (wipeG Γ (own.map (·.2))) is ((f a).map Slot.dat)) (me a)))
    (hs : ∀ x, foldedSetIterable it X.env x = pure x := by intro _; rfl) : PE X (.ListComp elt [⟨tg, it, [], 0⟩] scope pos) (xO X.K cs Γ (bd m fun l => bd (mapMM me l) fun r => grd (okLen r.length) (rt r))) :=
  pe_imp (pe_lc hc hN hi ok hg (fun s H C cl fp => pts_nil) (fun s H C cl fp => pe_ex (he s H C cl fp)) hs) fun σ H Q ⟨H0, F0, B, F, p, z, p', S, hm, q⟩ => by
    obtain ⟨l, p1, h1, hm⟩ := bd_some hm
    obtain ⟨r, p2, h2, hm⟩ := bd_some hm
    obtain ⟨hz, hm⟩ := grd_some hm
    obtain ⟨rfl, rfl⟩ := rt_some hm
    rw [← filMM_yes] at h2
    refine ⟨H0, F0, B, F, p, l, p1, S, h1, fun J H1 F1 S1 T1 hw => lc_turns (mt := fun _ => rt true) (tt := tYes) (te := fun σ H Q => ∃ a, xE X.K cs (setL (wipeG Γ (own.map (·.2))) is ((f a).map Slot.dat)) (me a) σ H Q) (fun a σ H Q h => ?_) (fun a σ H Q h => ⟨a, h⟩) ht hown hsl S1 hw h2 hz fun D H' F' hD S' T' r => q _ H' F' S' (T1.trans T') (r.back T1)⟩
    obtain ⟨H0, F0, B, F, p, t, p', S, hm, q⟩ := h
    obtain ⟨rfl, rfl⟩ := rt_some hm
    exact q H F S S.refl
/-- name = [..] on one line -/
theorem s_lcif (i : Nat) [Enc α] [Enc β] {f : α → List PyData} {m : M P (List α)} {mt : α → M P Bool} {me : α → M P β} {c : Expr} {y : Str} {py spos : Pos} (hc : X.calm = true) (hN : X.N.Nodup) (hy : X.N[i]? = some y) (hyl : X.env.scope.names.lookup y = some .local) (hsw : swapsWith (.ListComp elt [⟨tg, it, [c], 0⟩] scope pos) (some (.Name y py)) spos.line X.env = pure true)
    (hi : PI X tg it (xI X.K cs Γ eL m)) (ok : BlkOk X.N X.env.scope scope own)
    (hg : ∀ (s : Shared) (H : Hp) (C : Addr) (cl : List (Str × Addr)) (fp : List Addr), PG (X.blk s H scope (compEnvC scope cl C X.env) fp) tg g) (ht : TgOk (α := α) X.K g is f) (hown : ∀ i ∈ is, i ∈ own.map (·.2)) (hsl : ∀ i ∈ is, ((wipeG Γ (own.map (·.2)))[i]?).isSome = true)
    (hif : ∀ (s : Shared) (H : Hp) (C : Addr) (cl : List (Str × Addr)) (fp : List Addr) (a : α), PT (X.blk s H scope (compEnvC scope cl C X.env) fp) c (xT X.K cs (setL (wipeG Γ (own.map (·.2))) is ((f a).map Slot.dat)) (mt a)))
    (he : ∀ (s : Shared) (H : Hp) (C : Addr) (cl : List (Str × Addr)) (fp : List Addr) (a : α), PE (X.blk s H scope (compEnvC scope cl C X.env) fp) elt (xE X.K cs (setL (wipeG Γ (own.map (·.2))) is ((f a).map Slot.dat)) (me a))) (hl : (Γ[i]?).isSome = true := by rfl)
    (hs : ∀ x, foldedSetIterable it X.env x = pure x := by intro _; rfl) : PS X (.Assign [.Name y py] (.ListComp elt [⟨tg, it, [c], 0⟩] scope pos) spos) (xN X.K cs Γ (fun r : List β => Γ.set i (dO r)) (bd m fun l => bd (filMM mt me l) fun r => grd (okLen r.length) (rt r))) :=
  ps_imp (ps_setLc hc hN hy hyl hsw hi ok hg (fun s H C cl fp => pts_one (pt_ex (hif s H C cl fp))) (fun s H C cl fp => pe_ex (he s H C cl fp)) hs) fun D σ H ⟨H0, F0, B, F, p, z, p', S, hm, q⟩ => by
    obtain ⟨l, p1, h1, hm⟩ := bd_some hm
    obtain ⟨r, p2, h2, hm⟩ := bd_some hm
    obtain ⟨hz, hm⟩ := grd_some hm
    obtain ⟨rfl, rfl⟩ := rt_some hm
    exact ⟨H0, F0, B, F, p, l, p1, S, h1, fun J H1 F1 S1 T1 hw => lc_turns (Q := fun v H' => gName i v σ H' D.nx) (tt := fun σ H Q => ∃ a, xT X.K cs (setL (wipeG Γ (own.map (·.2))) is ((f a).map Slot.dat)) (mt a) σ H Q) (te := fun σ H Q => ∃ a, xE X.K cs (setL (wipeG Γ (own.map (·.2))) is ((f a).map Slot.dat)) (me a) σ H Q) (fun a σ H Q h => ⟨a, h⟩) (fun a σ H Q h => ⟨a, h⟩) ht hown hsl S1 hw h2 hz fun A H' F' hD S' T' r =>
      q _ H' F' (S'.set1 (SV.now (Γ2 := Γ) S1 r) hl) (S.toAgr (T1.trans T'))⟩
theorem s_lc (i : Nat) [Enc α] [Enc β] {f : α → List PyData} {m : M P (List α)} {me : α → M P β} {y : Str} {py spos : Pos} (hc : X.calm = true) (hN : X.N.Nodup) (hy : X.N[i]? = some y) (hyl : X.env.scope.names.lookup y = some .local) (hsw : swapsWith (.ListComp elt [⟨tg, it, [], 0⟩] scope pos) (some (.Name y py)) spos.line X.env = pure true)
    (hi : PI X tg it (xI X.K cs Γ eL m)) (ok : BlkOk X.N X.env.scope scope own)
    (hg : ∀ (s : Shared) (H : Hp) (C : Addr) (cl : List (Str × Addr)) (fp : List Addr), PG (X.blk s H scope (compEnvC scope cl C X.env) fp) tg g) (ht : TgOk (α := α) X.K g is f) (hown : ∀ i ∈ is, i ∈ own.map (·.2)) (hsl : ∀ i ∈ is, ((wipeG Γ (own.map (·.2)))[i]?).isSome = true)
    (he : ∀ (s : Shared) (H : Hp) (C : Addr) (cl : List (Str × Addr)) (fp : List Addr) (a : α), PE (X.blk s H scope (compEnvC scope cl C X.env) fp) elt (xE X.K cs (setL (wipeG Γ (own.map (·.2))) is ((f a).map Slot.dat)) (me a))) (hl : (Γ[i]?).isSome = true := by rfl)
    (hs : ∀ x, foldedSetIterable it X.env x = pure x := by intro _; rfl) : PS X (.Assign [.Name y py] (.ListComp elt [⟨tg, it, [], 0⟩] scope pos) spos) (xN X.K cs Γ (fun r : List β => Γ.set i (dO r)) (bd m fun l => bd (mapMM me l) fun r => grd (okLen r.length) (rt r))) :=
  ps_imp (ps_setLc hc hN hy hyl hsw hi ok hg (fun s H C cl fp => pts_nil) (fun s H C cl fp => pe_ex (he s H C cl fp)) hs) fun D σ H ⟨H0, F0, B, F, p, z, p', S, hm, q⟩ => by
    obtain ⟨l, p1, h1, hm⟩ := bd_some hm
    obtain ⟨r, p2, h2, hm⟩ := bd_some hm
    obtain ⟨hz, hm⟩ := grd_some hm
    obtain ⟨rfl, rfl⟩ := rt_some hm
    rw [← filMM_yes] at h2
    refine ⟨H0, F0, B, F, p, l, p1, S, h1, fun J H1 F1 S1 T1 hw => lc_turns (Q := fun v H' => gName i v σ H' D.nx) (mt := fun _ => rt true) (tt := tYes) (te := fun σ H Q => ∃ a, xE X.K cs (setL (wipeG Γ (own.map (·.2))) is ((f a).map Slot.dat)) (me a) σ H Q) (fun a σ H Q h => ?_) (fun a σ H Q h => ⟨a, h⟩) ht hown hsl S1 hw h2 hz fun A H' F' hD S' T' r =>
      q _ H' F' (S'.set1 (SV.now (Γ2 := Γ) S1 r) hl) (S.toAgr (T1.trans T'))⟩
    obtain ⟨H0, F0, B, F, p, t, p', S, hm, q⟩ := h
    obtain ⟨rfl, rfl⟩ := rt_some hm
    exact q H F S S.refl
end
end XL

/-! XL9: methods of lists, borrowed lists, slices, zip; the rule of a def. -/
namespace XL
open PySem PySem.Spec L2
open PyProof.Rows hiding St
open Enc (enc)

theorem nodup_at {α : Type} {l : List α} {i j : Nat} {x : α} (h : l.Nodup) (hi : l[i]? = some x) (hj : l[j]? = some x) : i = j := by
  induction l generalizing i j with
  | nil => simp at hi
  | cons a l ih =>
    rw [List.nodup_cons] at h
    cases i with
    | zero =>
      cases j with
      | zero => rfl
      | succ j =>
        have e : a = x := Option.some.inj hi
        exact absurd (List.mem_of_getElem? (show l[j]? = some x from hj)) (e ▸ h.1)
    | succ i =>
      cases j with
      | zero =>
        have e : a = x := Option.some.inj hj
        exact absurd (List.mem_of_getElem? (show l[i]? = some x from hi)) (e ▸ h.1)
      | succ j => rw [ih h.2 (show l[i]? = some x from hi) (show l[j]? = some x from hj)]
section
variable {K : PySem.W.Frag} {Γ : List Slot} {H0 H H' : Hp} {F0 F F' : AS} {B : List Addr} {c c' : List (List Int)} {σ : L2.St} {i : Nat} {a : Addr} {ds ds' : List PyData} {vs : List V}
/-- the list of its own in slot i is written -/
theorem SR.write (S : SR K H0 F0 B c Γ σ H F) (hi : Γ[i]? = some (.own ds)) (ha : σ[i]? = some (some (.ref a))) (r : Reps K F H vs ds') : SR K H0 F0 B c (Γ.set i (.own ds')) σ (upd H a (.lst vs)) F ∧ Agr F F H (upd H a (.lst vs)) := by
  obtain ⟨a', us, e, ha', ra, nf, n0⟩ := S.slot i _ hi
  rw [ha] at e
  cases e
  have nb : a ∉ B := fun z => by
    obtain ⟨o, q⟩ := S.inB a z
    rw [n0] at q; cases q
  have agr : ∀ b, F b → upd H a (.lst vs) b = H b := fun b h => upd_ne (show b ≠ a from fun z => nf (z ▸ h))
  refine ⟨⟨⟨S.stp.mono, fun b o h hb => ?_, fun b hb h => ?_, S.stp.new, fun b h => ?_⟩, S.nB, S.inB, S.bnd, fun j b h => ?_, fun j s h => ?_, fun j k es es' b hj hk h1 h2 => ?_, by rw [List.length_set]; exact S.len⟩, fun _ h => h, agr⟩
  · rw [upd_ne (ne_of_none h n0)]
    exact S.stp.same b o h hb
  · rw [upd_ne (show b ≠ a from fun z => nb (z ▸ hb))]
    exact S.stp.brw b hb h
  · rw [agr b h]
    exact S.dom b h
  · rw [upd_ne (show b ≠ a from fun z => nb (z ▸ List.mem_of_getElem? h))]
    exact S.bor j b h
  · rcases set_get h with ⟨rfl, rfl⟩ | ⟨nj, h⟩
    · exact ⟨a, vs, ha, upd_same, r.mono (fun _ h => h) agr, nf, n0⟩
    · have q := S.slot j s h
      cases s with
      | un => trivial
      | dat d =>
        obtain ⟨v, e, r⟩ := q
        exact ⟨v, e, r.mono (fun _ h => h) agr⟩
      | own es =>
        obtain ⟨b, us2, e, hb, rb, nfb, n0b⟩ := q
        refine ⟨b, us2, e, ?_, rb.mono (fun _ h => h) agr, nfb, n0b⟩
        rw [upd_ne (show b ≠ a from fun z => nj (S.dis j i es ds b h hi e (z ▸ ha)))]
        exact hb
      | bor k => exact q
  · rcases set_get hj with ⟨rfl, e1⟩ | ⟨nj, hj'⟩
    · rcases set_get hk with ⟨rfl, e2⟩ | ⟨nk, hk'⟩
      · rfl
      · exact S.dis j k ds es' b hi hk' h1 h2
    · rcases set_get hk with ⟨rfl, e2⟩ | ⟨nk, hk'⟩
      · exact S.dis j k es ds b hj' hi h1 h2
      · exact S.dis j k es es' b hj' hk' h1 h2
/-- the borrowed list j is written -/
theorem SR.bwrite {j : Nat} {ns : List Int} (S : SR K H0 F0 B c Γ σ H F) (hj : B[j]? = some a) : SR K H0 F0 B (c.set j ns) Γ σ (upd H a (.lst (ns.map V.int))) F ∧ Agr F F H (upd H a (.lst (ns.map V.int))) := by
  have hb := List.mem_of_getElem? hj
  have nf := S.nB a hb
  have agr : ∀ b, F b → upd H a (.lst (ns.map V.int)) b = H b := fun b h => upd_ne (show b ≠ a from fun z => nf (z ▸ h))
  refine ⟨⟨⟨S.stp.mono, fun b o h hb' => ?_, fun b hb' h => ?_, S.stp.new, fun b h => ?_⟩, S.nB, S.inB, S.bnd, fun k b h => ?_, fun k s h => ?_, S.dis, S.len⟩, fun _ h => h, agr⟩
  · rw [upd_ne (show b ≠ a from fun z => hb' (z ▸ hb))]
    exact S.stp.same b o h hb'
  · by_cases e : b = a
    · subst e; exact ⟨_, upd_same⟩
    · rw [upd_ne e]
      exact S.stp.brw b hb' h
  · rw [agr b h]
    exact S.dom b h
  · by_cases e : k = j
    · subst e
      rw [hj] at h
      cases h
      have hl : k < c.length := by
        obtain ⟨ms, e, _⟩ := S.bor k a hj
        exact (List.getElem?_eq_some_iff.mp e).1
      exact ⟨ns, List.getElem?_set_self hl, upd_same⟩
    · have ne : b ≠ a := fun z => by
        subst z
        exact e (nodup_at S.bnd h hj)
      rw [upd_ne ne, List.getElem?_set_ne (fun z => e z.symm)]
      exact S.bor k b h
  · have q := S.slot k s h
    cases s with
    | un => trivial
    | dat d =>
      obtain ⟨v, e, r⟩ := q
      exact ⟨v, e, r.mono (fun _ h => h) agr⟩
    | own es =>
      obtain ⟨b, us2, e, hb2, rb, nfb, n0b⟩ := q
      refine ⟨b, us2, e, ?_, rb.mono (fun _ h => h) agr, nfb, n0b⟩
      rw [upd_ne (show b ≠ a from fun z => by
        subst z
        obtain ⟨o, q⟩ := S.inB b hb
        rw [n0b] at q; cases q)]
      exact hb2
    | bor k => exact q
end

section
variable {P P1 ι α β γ W W2 R : Type} {cs : P → List (List Int)} {cs1 : P1 → List (List Int)} {Γ : List Slot}
variable {X : Cx} {a b d e : Expr} {es rest : List Expr} {p pos apos cpos p2 : Pos} {x y : Str} {st : Stmt} {sts body els : List Stmt}
/-- xs.append(e) -/
theorem s_append (i : Nat) [Enc α] {l : List α} {m : M P α} (hp : PE X (.Name y p2) (tVar i)) (hi : Γ[i]? = some (.own (l.map enc))) (he : PE X e (xE X.K cs Γ m)) (hbase : attributeBase (.Name y p2) "append" X.env (eval (.Name y p2) X.env) = eval (.Name y p2) X.env := by rfl)
    (hfew : ((backTo cpos (starEach (e :: []) X.env)).all (fun x => !x.1) && (backToKw cpos (keywordEach [] X.env)).all (fun x => x.1.isSome) && decide ((e :: []).length + ([] : List Keyword).length + (if ([] : List Keyword).isEmpty then 0 else 1) < 30)) = true := by rfl)
    (hline : (apos.endLine == cpos.line) = true := by rfl) (hs : starEach [e] X.env = (false, eval e X.env) :: starEach [] X.env := by rfl) (hplain : (backTo cpos (starEach [] X.env)).any (·.1) = false := by rfl)
    (hsw : swapsWith (.Call (.Attribute (.Name y p2) "append" apos) [e] [] cpos) none pos.line X.env = pure false := by rfl) :
    PS X (.Expr (.Call (.Attribute (.Name y p2) "append" apos) [e] [] cpos) pos) (xN X.K cs Γ (fun l' : List α => Γ.set i (dO l')) (bd m fun z => grd (okLen l.length) (rt (l ++ [z])))) :=
  ps_imp (ps_expr (pe_bm PySem.F.plainAttrs_list PySem.F.slot_list_append PySem.F.type_list_append mt_append hp (pa_cons he pa_nil hs) hbase hfew hline hs hplain) hsw) fun D σ H ⟨H0, F0, B, F, p, w, p', S, hm, q⟩ => by
    obtain ⟨z, p1, h1, hm⟩ := bd_some hm
    obtain ⟨hl, hm⟩ := grd_some hm
    obtain ⟨rfl, rfl⟩ := rt_some hm
    obtain ⟨a, vs, e1, ha, ra, nf, n0⟩ := S.slot i _ hi
    refine ⟨_, e1, .inl ⟨rfl, _, SqL.of ha⟩, H0, F0, B, F, p, z, _, S, h1, fun v H' F' S' T r => ?_⟩
    obtain ⟨a', us, e2, ha', ra', nf', n0'⟩ := S'.slot i _ hi
    rw [e1] at e2
    cases e2
    have hlen : us.length = l.length := by rw [ra'.len, List.length_map]
    refine ⟨a, us, v, rfl, rfl, ha', by rw [hlen]; exact okLen_lt hl, ?_⟩
    obtain ⟨S2, A2⟩ := S'.write hi e1 (ra'.app (.one (show Rep X.K F' H' v (enc z) from r)))
    have S3 : SR X.K H0 F0 B (cs p1) (Γ.set i (dO (l ++ [z]))) σ (upd H' a (.lst (us ++ [v]))) F' := by
      show SR X.K H0 F0 B (cs p1) (Γ.set i (.own ((l ++ [z]).map enc))) _ _ _
      rw [List.map_append]
      exact S2
    exact q σ _ F' S3 ((S.toAgr T).trans A2)
/-- xs.extend(e), e a list -/
theorem s_extend (i : Nat) [Enc α] {l : List α} {m : M P (List α)} (hp : PE X (.Name y p2) (tVar i)) (hi : Γ[i]? = some (.own (l.map enc))) (he : PE X e (xE X.K cs Γ m)) (hbase : attributeBase (.Name y p2) "extend" X.env (eval (.Name y p2) X.env) = eval (.Name y p2) X.env := by rfl)
    (hfew : ((backTo cpos (starEach (e :: []) X.env)).all (fun x => !x.1) && (backToKw cpos (keywordEach [] X.env)).all (fun x => x.1.isSome) && decide ((e :: []).length + ([] : List Keyword).length + (if ([] : List Keyword).isEmpty then 0 else 1) < 30)) = true := by rfl)
    (hline : (apos.endLine == cpos.line) = true := by rfl) (hs : starEach [e] X.env = (false, eval e X.env) :: starEach [] X.env := by rfl) (hplain : (backTo cpos (starEach [] X.env)).any (·.1) = false := by rfl)
    (hsw : swapsWith (.Call (.Attribute (.Name y p2) "extend" apos) [e] [] cpos) none pos.line X.env = pure false := by rfl) :
    PS X (.Expr (.Call (.Attribute (.Name y p2) "extend" apos) [e] [] cpos) pos) (xN X.K cs Γ (fun l' : List α => Γ.set i (dO l')) (bd m fun z => grd (okLen (l.length + z.length)) (rt (l ++ z)))) :=
  ps_imp (ps_expr (pe_bm PySem.F.plainAttrs_list PySem.F.slot_list_extend PySem.F.type_list_extend mt_extend hp (pa_cons he pa_nil hs) hbase hfew hline hs hplain) hsw) fun D σ H ⟨H0, F0, B, F, p, w, p', S, hm, q⟩ => by
    obtain ⟨z, p1, h1, hm⟩ := bd_some hm
    obtain ⟨hl, hm⟩ := grd_some hm
    obtain ⟨rfl, rfl⟩ := rt_some hm
    obtain ⟨a, vs, e1, ha, ra, nf, n0⟩ := S.slot i _ hi
    refine ⟨_, e1, .inl ⟨rfl, _, SqL.of ha⟩, H0, F0, B, F, p, z, _, S, h1, fun v H' F' S' T r => ?_⟩
    obtain ⟨a', us, e2, ha', ra', nf', n0'⟩ := S'.slot i _ hi
    rw [e1] at e2
    cases e2
    obtain ⟨b, zs, rfl, hb, rz⟩ := lst_of (show Rep X.K F' H' v (enc z) from r)
    have hlen : us.length + zs.length = l.length + z.length := by rw [ra'.len, List.length_map, rz.len, List.length_map]
    refine ⟨a, b, us, zs, rfl, rfl, ha', hb, by rw [hlen]; exact Nat.le_of_lt (okLen_lt hl), ?_⟩
    obtain ⟨S2, A2⟩ := S'.write hi e1 (ra'.app rz)
    have S3 : SR X.K H0 F0 B (cs p1) (Γ.set i (dO (l ++ z))) σ (upd H' a (.lst (us ++ zs))) F' := by
      show SR X.K H0 F0 B (cs p1) (Γ.set i (.own ((l ++ z).map enc))) _ _ _
      rw [List.map_append]
      exact S2
    exact q σ _ F' S3 ((S.toAgr T).trans A2)
/-- z = xs.pop() -/
theorem s_pop (i j : Nat) [Enc α] {l : List α} {z : Str} {pz : Pos} (hN : X.N.Nodup) (hj : X.N[j]? = some z) (hx : Loc X.env.scope z) (hp : PE X (.Name y p2) (tVar i)) (hi : Γ[i]? = some (.own (l.map enc))) (hij : i ≠ j) (hl : (Γ[j]?).isSome = true := by rfl) (hbase : attributeBase (.Name y p2) "pop" X.env (eval (.Name y p2) X.env) = eval (.Name y p2) X.env := by rfl) (hline : (apos.endLine == cpos.line) = true := by rfl)
    (hs : swapsWith (.Call (.Attribute (.Name y p2) "pop" apos) [] [] cpos) (some (.Name z pz)) pos.line X.env = pure false := by rfl) (hf : X.fn z = true ∨ X.env.scope.names.lookup z = some .local := by first | exact .inl rfl | exact .inr rfl | assumption) :
    PS X (.Assign [.Name z pz] (.Call (.Attribute (.Name y p2) "pop" apos) [] [] cpos) pos) (xN X.K cs Γ (fun w : α × List α => (Γ.set i (dO w.2)).set j (dE w.1)) (ofO (l.getLast?.map fun z => (z, l.dropLast)))) :=
  ps_imp (ps_set hN hj hx (pe_bm0 PySem.F.plainAttrs_list PySem.F.slot_list_pop PySem.F.type_list_pop mt_pop hp hbase hline) hs hf) fun D σ H ⟨H0, F0, B, F, p, w, p', S, hm, q⟩ => by
    obtain ⟨hm, rfl⟩ := ofO_some hm
    cases e : l.getLast? with
    | none => rw [e] at hm; cases hm
    | some u =>
      rw [e] at hm
      cases hm
      obtain ⟨a, vs, e1, ha, ra, nf, n0⟩ := S.slot i _ hi
      have e3 : (l.map enc)[(l.map enc).length - 1]? = some (enc u) := by
        rw [List.getLast?_eq_getElem?] at e
        rw [List.length_map, List.getElem?_map, e]
        rfl
      rw [← ra.len] at e3
      obtain ⟨v, hv, rv⟩ := ra.get e3
      refine ⟨_, e1, .inl ⟨rfl, _, SqL.of ha⟩, a, vs, v, rfl, rfl, ha, hv, ?_⟩
      have rd : Reps X.K F H vs.dropLast (l.dropLast.map enc) := by
        rw [List.map_dropLast, List.dropLast_eq_take, List.dropLast_eq_take, ra.len]
        exact ra.take _
      obtain ⟨S2, A2⟩ := S.write hi e1 rd
      refine q _ _ F (S2.set1 (s := dE u) (rv.mono A2.1 A2.2) ?_) A2
      rw [List.getElem?_set_ne hij]
      exact hl
/-! ### borrowed lists -/
abbrev Pot := Int × Int
abbrev csP : Pot → List (List Int) := fun q => [[q.1, q.2]]
def gets (f : P → α) : M P α := fun p => some (f p, p)
def puts (f : P → P) : M P Unit := fun p => some ((), f p)
theorem x_bget (i j k : Nat) (ns : P → List Int) (v : P → Int) {ck : Nat} {pk : Pos} {pn : Pos} {y : Str} {kk : Int} (hp : PE X (.Name y pn) (tVar i)) (hi : Γ[i]? = some (.bor j)) (hns : ∀ p, (cs p)[j]? = some (ns p)) (hk : kk = (k : Int)) (hv : ∀ p, (ns p)[k]? = some (v p)) :
    PE X (.Subscript (.Name y pn) (.Constant (.int kk) ck pk) pos) (xE X.K cs Γ (gets v)) :=
  pe_imp (pe_ix ix_list hp pe_int (fun _ _ => rfl)) fun σ H Q ⟨H0, F0, B, F, p, z, p', S, hm, q⟩ => by
    cases hm
    obtain ⟨a, e1, hb⟩ := S.slot i _ hi
    obtain ⟨ms, e2, ha⟩ := S.bor j a hb
    rw [hns] at e2
    cases e2
    refine ⟨_, e1, a, _, kk, .int (v p), rfl, rfl, SqL.of ha, ?_, q _ H F S S.refl (.int _)⟩
    rw [hk]
    exact atI_nat (by rw [List.getElem?_map, hv]; rfl)
theorem ixN_nat {n k : Nat} (h : k < n) : ixN n (k : Int) = some k := by
  unfold ixN
  rw [if_pos (by omega), if_pos (by omega)]
  rfl
/-- xs[k] = e, xs borrowed -/
theorem s_bset (i j k : Nat) (ns : P → List Int) (put : P → Int → P) {m : M P Int} {ck : Nat} {pk pn ps : Pos} {y : Str} {kk : Int} (hp : PE X (.Name y pn) (tVar i)) (hi : Γ[i]? = some (.bor j)) (hns : ∀ p, (cs p)[j]? = some (ns p)) (hk : kk = (k : Int)) (hkl : ∀ p, k < (ns p).length) (hput : ∀ p z, cs (put p z) = (cs p).set j ((ns p).set k z)) (he : PE X e (xE X.K cs Γ m))
    (ha : ∀ v, assign (.Subscript (.Name y pn) (.Constant (.int kk) ck pk) ps) X.env v = (do
      let ov ← holding [v] (eval (.Name y pn) X.env)
      let iv ← holding [v, ov] (eval (.Constant (.int kk) ck pk) X.env)
      standAt ps
      holding [v, ov, iv] (setItem ov iv v)
      release [v, ov, iv] []) := by intro _; rfl) (hs : swapsWithSole [.Subscript (.Name y pn) (.Constant (.int kk) ck pk) ps] e pos.line X.env = pure false := by rfl) (hw : swappedStores [.Subscript (.Name y pn) (.Constant (.int kk) ck pk) ps] e X.env = pure none := by rfl)
    (h1 : (assignEach [.Subscript (.Name y pn) (.Constant (.int kk) ck pk) ps] X.env).map (·.2) = [assign (.Subscript (.Name y pn) (.Constant (.int kk) ck pk) ps) X.env] := by rfl) :
    PS X (.Assign [.Subscript (.Name y pn) (.Constant (.int kk) ck pk) ps] e pos) (xN X.K cs Γ (fun _ : Unit => Γ) (bd m fun z => puts fun p => put p z)) :=
  ps_imp (ps_asg he (pg_sub hp pe_int set_list ha) hs hw h1) fun D σ H ⟨H0, F0, B, F, p, w, p', S, hm, q⟩ => by
    obtain ⟨z, p1, h1, hm⟩ := bd_some hm
    cases hm
    refine ⟨H0, F0, B, F, p, z, p1, S, h1, fun v H' F' S' T r => ?_⟩
    have ev : v = .int z := Rep.int_eq r
    subst ev
    obtain ⟨a, e1, hb⟩ := S'.slot i _ hi
    obtain ⟨ms, e2, ha⟩ := S'.bor j a hb
    rw [hns] at e2
    cases e2
    refine ⟨_, e1, a, _, kk, k, rfl, rfl, ha, by rw [hk, List.length_map]; exact ixN_nat (hkl p1), ?_⟩
    obtain ⟨S2, A2⟩ := S'.bwrite (ns := (ns p1).set k z) hb
    rw [List.map_set] at S2 A2
    rw [← hput] at S2
    exact q σ _ F' S2 ((S.toAgr T).trans A2)
/-- xs[k], z = e, xs borrowed, e a pair of ints -/
theorem s_bset2 (i j k d : Nat) (ns : P → List Int) (put : P → Int → P) {m : M P (Int × Int)} {ck kt : Nat} {pk pn ps pt pz : Pos} {y z : Str} {kk : Int} (hc : X.calm = true) (hN : X.N.Nodup) (hd : X.N[d]? = some z) (hz : Loc X.env.scope z) (hp : PE X (.Name y pn) (tVar i)) (hi : Γ[i]? = some (.bor j)) (hns : ∀ p, (cs p)[j]? = some (ns p)) (hk : kk = (k : Int)) (hkl : ∀ p, k < (ns p).length)
    (hput : ∀ p z, cs (put p z) = (cs p).set j ((ns p).set k z)) (he : PE X e (xE X.K cs Γ m)) (hl : (Γ[d]?).isSome = true := by rfl) (hf : X.fn z = true ∨ X.env.scope.names.lookup z = some .local := by first | exact .inl rfl | exact .inr rfl | assumption)
    (ha : ∀ v, assign (.Subscript (.Name y pn) (.Constant (.int kk) ck pk) ps) X.env v = (do
      let ov ← holding [v] (eval (.Name y pn) X.env)
      let iv ← holding [v, ov] (eval (.Constant (.int kk) ck pk) X.env)
      standAt ps
      holding [v, ov, iv] (setItem ov iv v)
      release [v, ov, iv] []) := by intro _; rfl) (hn : (assignEach [.Subscript (.Name y pn) (.Constant (.int kk) ck pk) ps, .Name z pz] X.env).length = 2 := by rfl) (hst : (assignEach [.Subscript (.Name y pn) (.Constant (.int kk) ck pk) ps, .Name z pz] X.env).findIdx? (·.1) = none := by rfl)
    (hs1 : (assignEach [.Subscript (.Name y pn) (.Constant (.int kk) ck pk) ps, .Name z pz] X.env).map (·.2) = assign (.Subscript (.Name y pn) (.Constant (.int kk) ck pk) ps) X.env :: (assignEach [.Name z pz] X.env).map (·.2) := by rfl) (hs2 : (assignEach [.Name z pz] X.env).map (·.2) = assign (.Name z pz) X.env :: (assignEach [] X.env).map (·.2) := by rfl)
    (hs : swapsWithSole [.Tuple [.Subscript (.Name y pn) (.Constant (.int kk) ck pk) ps, .Name z pz] kt pt] e pos.line X.env = pure false := by rfl) (hw : swappedStores [.Tuple [.Subscript (.Name y pn) (.Constant (.int kk) ck pk) ps, .Name z pz] kt pt] e X.env = pure none := by rfl)
    (h1 : (assignEach [.Tuple [.Subscript (.Name y pn) (.Constant (.int kk) ck pk) ps, .Name z pz] kt pt] X.env).map (·.2) = [assign (.Tuple [.Subscript (.Name y pn) (.Constant (.int kk) ck pk) ps, .Name z pz] kt pt) X.env] := by rfl) :
    PS X (.Assign [.Tuple [.Subscript (.Name y pn) (.Constant (.int kk) ck pk) ps, .Name z pz] kt pt] e pos) (xN X.K cs Γ (fun r : Int => Γ.set d (dE r)) (bd m fun r => bd (puts fun p => put p r.1) fun _ => rt r.2)) :=
  ps_imp (ps_asg he (pg_tup hc (pgs_cons (pg_sub hp pe_int set_list ha) (pgs_cons (pg_name hN hd hz hf) pgs_nil hs2) hs1) hn hst) hs hw h1) fun D σ H ⟨H0, F0, B, F, p, w, p', S, hm, q⟩ => by
    obtain ⟨r, p1, h1, hm⟩ := bd_some hm
    obtain ⟨u, p2, h2, hm⟩ := bd_some hm
    cases h2
    obtain ⟨rfl, rfl⟩ := rt_some hm
    refine ⟨H0, F0, B, F, p, r, p1, S, h1, fun v H' F' S' T rv => ?_⟩
    have rv : Rep X.K F' H' v (.tuple [.int r.1, .int r.2]) := rv
    cases rv with
    | @tup t xs ds g1 g2 g3 =>
      match xs, g3 with
      | [v1, v2], .cons r1 (.cons r2 .nil) =>
        cases r1
        cases r2
        obtain ⟨a, e1, hb⟩ := S'.slot i _ hi
        obtain ⟨ms, e2, ha⟩ := S'.bor j a hb
        rw [hns] at e2
        cases e2
        refine ⟨t, _, rfl, SqT.of g2, rfl, _, _, rfl, ?_⟩
        refine ⟨_, e1, a, _, kk, k, rfl, rfl, ha, by rw [hk, List.length_map]; exact ixN_nat (hkl p1), ?_⟩
        obtain ⟨S2, A2⟩ := S'.bwrite (ns := (ns p1).set k r.1) hb
        rw [List.map_set] at S2 A2
        rw [← hput] at S2
        exact ⟨_, _, rfl, rfl, q _ _ F' (S2.set1 (s := dE r.2) (v := .int r.2) (.int _) hl) ((S.toAgr T).trans A2)⟩
/-- divmod(a, b) -/
theorem x_divmod {m1 m2 : M P Int} (ha : PE X a (xE X.K cs Γ m1)) (hb : PE X b (xE X.K cs Γ m2)) (hg : Gl X "divmod") (hm : X.mg "divmod" = none) (hs : starEach [a, b] X.env = (false, eval a X.env) :: starEach [b] X.env := by rfl) (hs2 : starEach [b] X.env = (false, eval b X.env) :: starEach [] X.env := by rfl) (hpl : (backTo pos (starEach [b] X.env)).any (·.1) = false := by rfl) :
    PE X (.Call (.Name "divmod" p) [a, b] [] pos) (xE X.K cs Γ (bd m1 fun x => bd m2 fun y => grd (okDiv x y) (rt (x / y, x % y)))) :=
  pe_imp (pe_callB call_divmod hg hm boot_divmod (a_cons ha (a_cons hb a_nil hs2) hs) (by decide) (by decide) hs hpl) fun σ H Q ⟨H0, F0, B, F, p, z, p', S, hm, q⟩ => by
    obtain ⟨y, p1, h1, hm⟩ := bd_some hm
    obtain ⟨u, p2, h2, hm⟩ := bd_some hm
    obtain ⟨hC, hm⟩ := grd_some hm
    obtain ⟨rfl, rfl⟩ := rt_some hm
    refine ⟨H0, F0, B, F, p, (y, u, ()), p2, S, by rw [bd_eq h1, bd_eq (q := p2) (a := (u, ())) (by rw [bd_eq h2]; rfl)]; rfl, fun vs H' F' S' T R => ?_⟩
    obtain ⟨v, w, rfl, R1, R2⟩ := svs2 R
    have e1 : v = .int y := Rep.int_eq R1
    have e2 : w = .int u := Rep.int_eq R2
    subst e1 e2
    unfold okDiv at hC
    rw [Bool.and_eq_true] at hC
    refine ⟨y, u, rfl, ⟨of_decide_eq_true hC.1, of_decide_eq_true hC.2⟩, fun t ht => ?_⟩
    obtain ⟨S2, T2, r2⟩ := tup_new S' ht (vs := [.int (y / u), .int (y % u)]) (ds := [.int (y / u), .int (y % u)]) (.cons (.int _) (.cons (.int _) .nil))
    exact q _ _ _ S2 (T.trans T2) r2
end
end XL

/-! XLA: calls with borrowed lists, slices, zip; the rule of a def. -/
namespace XL
open PySem PySem.Spec L2
open PyProof.Rows hiding St
open Enc (enc)

section
variable {P ι α β γ W W2 R : Type} {cs : P → List (List Int)} {Γ : List Slot}
variable {X : Cx} {a b d e : Expr} {es rest : List Expr} {p pos p2 : Pos} {x y : Str} {st : Stmt} {sts body els : List Stmt}
variable {CX : CXT} {k : Nat} {f : Addr} {fd : FuncData} {ps : List Str}
def viaL {P1 : Type} (get : P → P1) (set : P → P1 → P) (g : M P1 β) : M P β := fun p => match g (get p) with
  | none => none
  | some (b, q) => some (b, set p q)
theorem stp_bor1 {F F' : AS} {H H' : Hp} {B : List Addr} {a : Addr} (T : Stp F F' H H' [a]) (ha : a ∈ B) (tr : ∃ o, H' a = some o) : Stp F F' H H' B :=
  ⟨T.mono, fun b o h hb => T.same b o h (fun z => by
    have e : b = a := by simpa using z
    exact hb (e ▸ ha)), fun b hb ⟨o, h⟩ => by
    by_cases e : b = a
    · subst e; exact tr
    · exact ⟨o, T.same b o h (fun z => e (by simpa using z))⟩, T.new, T.dom⟩
/-- behind the arguments of a call that borrows slot j's list -/
theorem call_bor {s : β → Slot} {ea : W → List PyData} {g : W → M Pot β} {H0 H H1 : Hp} {F0 F F1 : AS} {B : List Addr} {σ : L2.St} {K : PySem.W.Frag} {vs : List V} {w : W} {r : β} {Q : VK} {E : XK} {j : Nat} {al : Addr} {get : P → Pot} {set : P → Pot → P} {p1 : P} {q1 : Pot} (S1 : SR K H0 F0 B (cs p1) Γ σ H1 F1) (T1 : Stp F F1 H H1 B) (rv : Reps K F1 H1 vs (ea w)) (hg : g w (get p1) = some (r, q1)) (hj : B[j]? = some al)
    (hget : ∀ p, (cs p)[j]? = some [(get p).1, (get p).2]) (hset : ∀ p q, cs (set p q) = (cs p).set j [q.1, q.2])
    (q : ∀ v H' F', SR K H0 F0 B (cs (set p1 q1)) Γ σ H' F' → Stp F F' H H' B → SV K F' H H' v (s r) → Q v H') : spM K csP ea s g (V.ref al :: vs) H1 Q E := by
  have hm := List.mem_of_getElem? hj
  refine ⟨F1, [al], get p1, w, r, q1, vs, rfl, rfl, by simp, S1.dom, fun b hb => ?_, fun i b h => ?_, rv, hg, fun v H' F' T bo r2 => ?_⟩
  · have e : b = al := by simpa using hb
    subst e
    exact S1.nB b hm
  · cases i with
    | zero =>
      have e : al = b := Option.some.inj h
      subst e
      obtain ⟨ns, e1, e2⟩ := S1.bor j al hj
      rw [hget] at e1
      cases e1
      exact ⟨_, rfl, e2⟩
    | succ i => simp at h
  · obtain ⟨ns, e1, e2⟩ := bo 0 al rfl
    cases e1
    have T' : Stp F1 F' H1 H' B := stp_bor1 T hm ⟨_, e2⟩
    refine q v H' F' (S1.step' T' fun i b h => ?_) (T1.trans T') (r2.back T1)
    by_cases ei : i = j
    · subst ei
      rw [hj] at h
      cases h
      obtain ⟨ms, e3, _⟩ := S1.bor i al hj
      exact ⟨_, by rw [hset, List.getElem?_set_self (List.getElem?_eq_some_iff.mp e3).1], e2⟩
    · obtain ⟨ms, e3, e4⟩ := S1.bor i b h
      have nb : b ≠ al := fun z => ei (nodup_at S1.bnd h (z ▸ hj))
      exact ⟨ms, by rw [hset, List.getElem?_set_ne (fun z => ei z.symm)]; exact e3, T.same b _ e4 (fun z => nb (by simpa using z))⟩
/-- f(xs, e, ..), xs borrowed (slot i) -/
theorem x_callB (i j : Nat) (get : P → Pot) (set : P → Pot → P) {s : β → Slot} {ss : W → List Slot} {ea : W → List PyData} {g : W → M Pot β} {m : M P W} {pn : Pos} (G : FnG X.prog X.w X.K X.mg X.base CX0 k f fd ps (spM X.K csP ea s g)) (room : Room k X.A) (gd : X.A.guards = some []) (glob : Gl X x) (at_ : X.mg x = some (.ref f)) (kept : PySem.W.keepIn X.K (.ref f) = true)
    (bnd : Binds X.K fd ps []) (hp : PE X (.Name y pn) (tVar i)) (hi : Γ[i]? = some (.bor j)) (ha : PA X es (xA X.K cs Γ ss m)) (hss : ∀ w, ss w = (ea w).map Slot.dat := by intro _; rfl) (hget : ∀ p, (cs p)[j]? = some [(get p).1, (get p).2]) (hset : ∀ p q, cs (set p q) = (cs p).set j [q.1, q.2]) (nodbg : (x == ("__debug__" : Str)) = false := by decide)
    (st1 : starEach (.Name y pn :: es) X.env = (false, eval (.Name y pn) X.env) :: starEach es X.env := by rfl) (st2 : (backTo pos (starEach es X.env)).any (·.1) = false := by rfl) :
    PE X (.Call (.Name x p) (.Name y pn :: es) [] pos) (xV X.K cs Γ s (bd m fun w => viaL get set (g w))) :=
  pe_imp (g_call G room gd glob at_ kept bnd .nil pass0 (pa_cons hp ha st1) nodbg st1 st2) fun σ H Q ⟨H0, F0, B, F, p, z, p', S, hm, q⟩ => by
    obtain ⟨w, p1, h1, hm⟩ := bd_some hm
    obtain ⟨al, e1, hj⟩ := S.slot i _ hi
    refine ⟨_, e1, H0, F0, B, F, p, w, p1, S, h1, fun vs H1 F1 S1 T1 R => ?_⟩
    rw [hss] at R
    show spM X.K csP ea s g ((V.ref al :: vs) ++ []) H1 Q E0
    rw [List.append_nil]
    cases e2 : g w (get p1) with
    | none =>
      unfold viaL at hm
      rw [e2] at hm
      cases hm
    | some r =>
      unfold viaL at hm
      rw [e2] at hm
      cases hm
      exact call_bor S1 T1 R.reps e2 hj hget hset q
theorem viaL_id (g : M P β) : viaL (fun p => p) (fun _ q => q) g = g := by
  funext p
  unfold viaL
  cases g p <;> rfl
/-- .. of the one borrowed list -/
theorem x_callP (i : Nat) {Γ : List Slot} {s : β → Slot} {ss : W → List Slot} {ea : W → List PyData} {g : W → M Pot β} {m : M Pot W} {pn : Pos} (G : FnG X.prog X.w X.K X.mg X.base CX0 k f fd ps (spM X.K csP ea s g)) (room : Room k X.A) (gd : X.A.guards = some []) (glob : Gl X x) (at_ : X.mg x = some (.ref f)) (kept : PySem.W.keepIn X.K (.ref f) = true)
    (bnd : Binds X.K fd ps []) (hp : PE X (.Name y pn) (tVar i)) (hi : Γ[i]? = some (.bor 0)) (ha : PA X es (xA X.K csP Γ ss m)) (hss : ∀ w, ss w = (ea w).map Slot.dat := by intro _; rfl) (nodbg : (x == ("__debug__" : Str)) = false := by decide)
    (st1 : starEach (.Name y pn :: es) X.env = (false, eval (.Name y pn) X.env) :: starEach es X.env := by rfl) (st2 : (backTo pos (starEach es X.env)).any (·.1) = false := by rfl) :
    PE X (.Call (.Name x p) (.Name y pn :: es) [] pos) (xV X.K csP Γ s (bd m g)) := by
  have h := x_callB i 0 (fun p : Pot => p) (fun _ q => q) (cs := csP) (s := s) (m := m) (pos := pos) (p := p) G room gd glob at_ kept bnd hp hi ha hss (fun _ => rfl) (fun _ _ => rfl) nodbg st1 st2
  simp only [viaL_id] at h
  exact h
/-- f(e), e makes the list that f borrows -/
theorem x_callT {s : β → Slot} {g : Unit → M Pot β} {m : M P Pot} (G : FnG X.prog X.w X.K X.mg X.base CX0 k f fd ps (spM X.K csP (fun _ : Unit => []) s g)) (room : Room k X.A) (gd : X.A.guards = some []) (glob : Gl X x) (at_ : X.mg x = some (.ref f)) (kept : PySem.W.keepIn X.K (.ref f) = true)
    (bnd : Binds X.K fd ps []) (he : PE X e (xV X.K cs Γ (fun q : Pot => .own [.int q.1, .int q.2]) m)) (nodbg : (x == ("__debug__" : Str)) = false := by decide)
    (st1 : starEach [e] X.env = (false, eval e X.env) :: starEach [] X.env := by rfl) (st2 : (backTo pos (starEach [] X.env)).any (·.1) = false := by rfl) :
    PE X (.Call (.Name x p) [e] [] pos) (xV X.K cs Γ s (bd m fun q => ofO ((g () q).map (·.1)))) :=
  pe_imp (g_call G room gd glob at_ kept bnd .nil pass0 (pa_cons he pa_nil st1) nodbg st1 st2) fun σ H Q ⟨H0, F0, B, F, p, z, p', S, hm, q⟩ => by
    obtain ⟨w, p1, h1, hm⟩ := bd_some hm
    obtain ⟨h2, rfl⟩ := ofO_some hm
    refine ⟨H0, F0, B, F, p, w, _, S, h1, fun v H1 F1 S1 T1 R => ?_⟩
    obtain ⟨al, vs, rfl, hn, ha, rs, nf⟩ := R
    have ev : vs = [w.1, w.2].map V.int := Reps.to_ints (ns := [w.1, w.2]) rs
    subst ev
    cases e2 : g () w with
    | none => rw [e2] at h2; cases h2
    | some r =>
      rw [e2] at h2
      cases h2
      have nb : al ∉ B := fun z => by
        obtain ⟨o, e⟩ := S.trkB z
        rw [hn] at e; cases e
      refine ⟨F1, [al], w, (), r.1, r.2, [], rfl, rfl, by simp, S1.dom, fun b hb => ?_, fun i b h => ?_, .nil, e2, fun v H' F' T bo r2 => ?_⟩
      · have e : b = al := by simpa using hb
        rw [e]; exact nf
      · cases i with
        | zero =>
          have e : al = b := Option.some.inj h
          subst e
          exact ⟨_, rfl, ha⟩
        | succ i => simp at h
      · have T' : Stp F F' H H' B := by
          refine ⟨fun b h => T.mono b (T1.mono b h), fun b o h hb => T.same b o (T1.same b o h hb) (fun z => ?_), fun b hb h => ?_, fun b h => ?_, T.dom⟩
          · have e : b = al := by simpa using z
            subst e
            rw [hn] at h; cases h
          · obtain ⟨o, e⟩ := T1.brw b hb h
            exact ⟨o, T.same b o e (fun z => by
              have e : b = al := by simpa using z
              exact nb (e ▸ hb))⟩
          · rcases T.new b h with h | h
            · exact T1.new b h
            · exact .inr (T1.back h)
        refine q v H' F' (S.step' T' fun i b h => ?_) T' (r2.back T1)
        obtain ⟨ns, e3, e4⟩ := S1.bor i b h
        exact ⟨ns, e3, T.same b _ e4 (fun z => by
          have e : b = al := by simpa using z
          exact nb (e ▸ List.mem_of_getElem? h))⟩
/-! ### slices -/
def cutA (xs : List α) (lo hi : Option Int) : List α := (xs.drop (HT.sIx xs.length 0 lo)).take (HT.sIx xs.length xs.length hi - HT.sIx xs.length 0 lo)
theorem cut_reps {K : PySem.W.Frag} {F : AS} {H : Hp} {vs : List V} {ds : List PyData} (r : Reps K F H vs ds) (lo hi : Option Int) : Reps K F H (cutV vs lo hi) (cutA ds lo hi) := by
  unfold cutV cutA
  rw [r.len]
  exact (r.drop _).take _
theorem cut_map [Enc α] (l : List α) (lo hi : Option Int) : cutA (l.map enc) lo hi = (cutA l lo hi).map enc := by
  unfold cutA
  rw [List.length_map, ← List.map_drop, ← List.map_take]
theorem cut_mapV (l : List Int) (lo hi : Option Int) : cutV (l.map V.int) lo hi = (cutA l lo hi).map V.int := by
  unfold cutA cutV
  rw [List.length_map, ← List.map_drop, ← List.map_take]
/-- a part of a slice -/
def xP (K : PySem.W.Frag) (cs : P → List (List Int)) (Γ : List Slot) (m : M P (Option Int)) : TO := fun σ H Q =>
  ∃ (H0 : Hp) (F0 : AS) (B : List Addr) (F : AS) (p : P) (a : Option Int) (p' : P), SR K H0 F0 B (cs p) Γ σ H F ∧ m p = some (a, p') ∧ ∀ H' F', SR K H0 F0 B (cs p') Γ σ H' F' → Stp F F' H H' B → Q a H'
theorem po_imp {o : Option Expr} {t t' : TO} (h : PO X o t) (w : ∀ σ H Q, t' σ H Q → t σ H Q) : PO X o t' := ⟨fun pins s σ H Q I q => h.run pins s σ H Q I (w σ H Q q)⟩
theorem p_none : PO X none (xP X.K cs Γ (rt none)) := po_imp po_none fun σ H Q ⟨H0, F0, B, F, p, a, p', S, hm, q⟩ => by
  obtain ⟨rfl, rfl⟩ := rt_some hm
  exact q H F S S.refl
theorem p_some {m : M P Int} (h : PE X e (xE X.K cs Γ m)) : PO X (some e) (xP X.K cs Γ (bd m fun i => rt (some i))) := po_imp (po_some h) fun σ H Q ⟨H0, F0, B, F, p, a, p', S, hm, q⟩ => by
  obtain ⟨i, p1, h1, hm⟩ := bd_some hm
  obtain ⟨rfl, rfl⟩ := rt_some hm
  exact ⟨H0, F0, B, F, p, i, _, S, h1, fun v H' F' S' T r => ⟨i, Rep.int_eq r, q H' F' S' T⟩⟩
variable {lo hi : Option Expr}
theorem x_sl [Enc α] {m : M P (List α)} {m1 m2 : M P (Option Int)} (h : PE X e (xE X.K cs Γ m)) (h1 : PO X lo (xP X.K cs Γ m1)) (h2 : PO X hi (xP X.K cs Γ m2)) : PE X (.Subscript e (.Slice lo hi none p2) pos) (xO X.K cs Γ (bd m fun l => bd m1 fun i => bd m2 fun j => rt (cutA l i j))) :=
  pe_imp (pe_slice sl_list h h1 h2) fun σ H Q ⟨H0, F0, B, F, p, z, p', S, hm, q⟩ => by
    obtain ⟨l, p1, e1, hm⟩ := bd_some hm
    obtain ⟨i, p2, e2, hm⟩ := bd_some hm
    obtain ⟨j, p3, e3, hm⟩ := bd_some hm
    obtain ⟨rfl, rfl⟩ := rt_some hm
    refine ⟨H0, F0, B, F, p, l, p1, S, e1, fun v H1 F1 S1 T1 R1 => ⟨H0, F0, B, F1, p1, i, p2, S1, e2, fun H2 F2 S2 T2 => ⟨H0, F0, B, F2, p2, j, p3, S2, e3, fun H3 F3 S3 T3 => ?_⟩⟩⟩
    obtain ⟨a, vs, rfl, ha, rs⟩ := lst_of (S1.rep (T2.trans T3) R1)
    refine ⟨a, vs, rfl, SqL.of ha, fun t ht => ?_⟩
    have rc := cut_reps rs i j
    rw [cut_map] at rc
    obtain ⟨S4, T4, r4⟩ := own_new S3 ht rc
    exact q _ _ _ S4 (((T1.trans T2).trans T3).trans T4) (((r4.back T3).back T2).back T1)
theorem x_slS {m : M P Scr} {m1 m2 : M P (Option Int)} (h : PE X e (xE X.K cs Γ m)) (h1 : PO X lo (xP X.K cs Γ m1)) (h2 : PO X hi (xP X.K cs Γ m2)) : PE X (.Subscript e (.Slice lo hi none p2) pos) (xO X.K cs Γ (bd m fun l => bd m1 fun i => bd m2 fun j => rt (cutA l.l i j))) :=
  pe_imp (pe_slice sl_list h h1 h2) fun σ H Q ⟨H0, F0, B, F, p, z, p', S, hm, q⟩ => by
    obtain ⟨l, p1, e1, hm⟩ := bd_some hm
    obtain ⟨i, p2, e2, hm⟩ := bd_some hm
    obtain ⟨j, p3, e3, hm⟩ := bd_some hm
    obtain ⟨rfl, rfl⟩ := rt_some hm
    refine ⟨H0, F0, B, F, p, l, p1, S, e1, fun v H1 F1 S1 T1 R1 => ⟨H0, F0, B, F1, p1, i, p2, S1, e2, fun H2 F2 S2 T2 => ⟨H0, F0, B, F2, p2, j, p3, S2, e3, fun H3 F3 S3 T3 => ?_⟩⟩⟩
    obtain ⟨a, rfl, ha⟩ := scr_of (S1.rep (T2.trans T3) R1)
    refine ⟨a, _, rfl, ha, fun t ht => ?_⟩
    rw [cut_mapV]
    obtain ⟨S4, T4, r4⟩ := own_new S3 ht (vs := (cutA l.l i j).map V.int) (ds := (cutA l.l i j).map enc) Reps.ints
    exact q _ _ _ S4 (((T1.trans T2).trans T3).trans T4) (((r4.back T3).back T2).back T1)
/-- xs + ys, lists -/
theorem x_cat [Enc α] {m1 m2 : M P (List α)} (ha : PE X a (xE X.K cs Γ m1)) (hb : PE X b (xE X.K cs Γ m2)) : PE X (.BinOp a .Add b pos) (xO X.K cs Γ (bd m1 fun x => bd m2 fun y => grd (okLen (x.length + y.length)) (rt (x ++ y)))) :=
  pe_imp (pe_op op_cat ha hb) fun σ H Q ⟨H0, F0, B, F, p, z, p', S, hm, q⟩ => by
    obtain ⟨l, p1, e1, hm⟩ := bd_some hm
    obtain ⟨k, p2, e2, hm⟩ := bd_some hm
    obtain ⟨hl, hm⟩ := grd_some hm
    obtain ⟨rfl, rfl⟩ := rt_some hm
    refine ⟨H0, F0, B, F, p, l, p1, S, e1, fun v H1 F1 S1 T1 R1 => ⟨H0, F0, B, F1, p1, k, p2, S1, e2, fun w H2 F2 S2 T2 R2 => ?_⟩⟩
    obtain ⟨a, vs, rfl, ha, rs⟩ := lst_of (S1.rep T2 R1)
    obtain ⟨b, us, rfl, hb, rs2⟩ := lst_of (show Rep X.K F2 H2 w (enc k) from R2)
    have hlen : vs.length + us.length = l.length + k.length := by rw [rs.len, rs2.len, List.length_map, List.length_map]
    refine ⟨a, b, vs, us, rfl, rfl, ha, hb, by rw [hlen]; exact Nat.le_of_lt (okLen_lt hl), fun t ht => ?_⟩
    have rc := rs.app rs2
    rw [← List.map_append] at rc
    obtain ⟨S4, T4, r4⟩ := own_new S2 ht rc
    exact q _ _ _ S4 ((T1.trans T2).trans T4) ((r4.back T2).back T1)
/-- [x, ..] * n -/
theorem x_rep [Enc α] {m1 : M P (List α)} {m2 : M P Int} (ha : PE X a (xE X.K cs Γ m1)) (hb : PE X b (xE X.K cs Γ m2)) : PE X (.BinOp a .Mult b pos) (xO X.K cs Γ (bd m1 fun x => bd m2 fun n => grd (okI62 n && okLen (x.length * n.toNat)) (rt (List.replicate n.toNat x).flatten))) :=
  pe_imp (pe_op op_rep ha hb) fun σ H Q ⟨H0, F0, B, F, p, z, p', S, hm, q⟩ => by
    obtain ⟨l, p1, e1, hm⟩ := bd_some hm
    obtain ⟨n, p2, e2, hm⟩ := bd_some hm
    obtain ⟨hl, hm⟩ := grd_some hm
    obtain ⟨rfl, rfl⟩ := rt_some hm
    rw [Bool.and_eq_true] at hl
    refine ⟨H0, F0, B, F, p, l, p1, S, e1, fun v H1 F1 S1 T1 R1 => ⟨H0, F0, B, F1, p1, n, p2, S1, e2, fun w H2 F2 S2 T2 R2 => ?_⟩⟩
    obtain ⟨a, vs, rfl, ha, rs⟩ := lst_of (S1.rep T2 R1)
    have ew : w = .int n := Rep.int_eq R2
    subst ew
    obtain ⟨b1, b2⟩ := okI62_of hl.1
    have hlen : vs.length = l.length := by rw [rs.len, List.length_map]
    refine ⟨a, n, vs, rfl, rfl, ha, by omega, by omega, by rw [hlen]; exact Nat.le_of_lt (okLen_lt hl.2), fun t ht => ?_⟩
    have rr : ∀ k : Nat, Reps X.K F2 H2 (List.replicate k vs).flatten ((List.replicate k l).flatten.map enc) := by
      intro k
      induction k with
      | zero => exact .nil
      | succ k ih =>
        rw [List.replicate_succ, List.replicate_succ, List.flatten_cons, List.flatten_cons, List.map_append]
        exact rs.app ih
    obtain ⟨S4, T4, r4⟩ := own_new S2 ht (rr n.toNat)
    exact q _ _ _ S4 ((T1.trans T2).trans T4) ((r4.back T2).back T1)
/-- for a, b in zip(xs, ys) -/
theorem i_zip [Enc α] [Enc β] {m1 : M P (List α)} {m2 : M P (List β)} {tes : List Expr} {kk : Nat} {tpos : Pos} (ha : PE X a (xE X.K cs Γ m1)) (hb : PE X b (xE X.K cs Γ m2)) (hg : Gl X "zip") (hm : X.mg "zip" = none)
    (hs : starEach [a, b] X.env = (false, eval a X.env) :: starEach [b] X.env := by rfl) (hs2 : starEach [b] X.env = (false, eval b X.env) :: starEach [] X.env := by rfl)
    (hz : ∀ {t : TA}, PA X [a, b] t → PI X (.Tuple tes kk tpos) (.Call (.Name "zip" p) [a, b] [] pos) (iZip X.K t)) :
    PI X (.Tuple tes kk tpos) (.Call (.Name "zip" p) [a, b] [] pos) (xI X.K cs Γ eL (bd m1 fun x => bd m2 fun y => rt (x.zip y))) :=
  pi_imp (hz (a_cons ha (a_cons hb a_nil hs2) hs)) fun σ H Q ⟨H0, F0, B, F, p, l, p', S, hm, q⟩ => by
    obtain ⟨u, p1, h1, hm⟩ := bd_some hm
    obtain ⟨v, p2, h2, hm⟩ := bd_some hm
    obtain ⟨rfl, rfl⟩ := rt_some hm
    refine ⟨H0, F0, B, F, p, (u, v, ()), p2, S, by rw [bd_eq h1, bd_eq (q := p2) (a := (v, ())) (by rw [bd_eq h2]; rfl)]; rfl, fun vs H' F' S' T R => ?_⟩
    obtain ⟨v1, v2, rfl, R1, R2⟩ := svs2 R
    have R1 : Rep X.K F' H' v1 (enc u) := R1
    have R2 : Rep X.K F' H' v2 (enc v) := R2
    cases R1 with
    | @lst a xs ds f1 f2 f3 =>
      cases R2 with
      | @lst b ys es g1 g2 g3 =>
        refine ⟨a, b, xs, ys, rfl, SqL.of f2, SqL.of g2, q _ H' F' S' T fun F2 H2 hF hH hd i => ⟨fun d hi => ?_, fun hi => ?_⟩⟩
        · have ea : SqL X.K H2 a xs := SqL.of ((hH a f1).trans f2)
          have eb : SqL X.K H2 b ys := SqL.of ((hH b g1).trans g2)
          rw [List.getElem?_map] at hi
          cases e : (u.zip v)[i]? with
          | none => rw [e] at hi; cases hi
          | some z =>
            rw [e] at hi
            have hd2 : enc z = d := Option.some.inj hi
            obtain ⟨z1, z2⟩ := List.getElem?_zip_eq_some.mp e
            obtain ⟨x1, hx1, rx1⟩ := f3.get (i := i) (d := enc z.1) (by rw [List.getElem?_map, z1]; rfl)
            obtain ⟨x2, hx2, rx2⟩ := g3.get (i := i) (d := enc z.2) (by rw [List.getElem?_map, z2]; rfl)
            refine ⟨⟨xs, ys, x1, x2, ea, eb, hx1, hx2⟩, fun x Hy y => ?_⟩
            obtain ⟨t, y1, y2, rfl, nt, rfl, k1, k2⟩ := y
            have k1 := k1 xs ea
            have k2 := k2 ys eb
            rw [hx1] at k1
            rw [hx2] at k2
            cases k1
            cases k2
            refine ⟨addA F2 t, upd_stp nt hd, ?_⟩
            rw [← hd2]
            have ne : ∀ b, F2 b → upd H2 t (.tup [x1, x2]) b = H2 b := fun b h => upd_ne (show b ≠ t from fun z => by
              obtain ⟨o, e⟩ := hd b h
              rw [z, nt] at e; cases e)
            exact .tup (.inr rfl) upd_same (.cons ((rx1.mono hF hH).mono (fun _ h => .inl h) ne) (.cons ((rx2.mono hF hH).mono (fun _ h => .inl h) ne) .nil))
        · rw [List.length_map, List.length_zip] at hi
          refine ⟨xs, ys, SqL.of ((hH a f1).trans f2), SqL.of ((hH b g1).trans g2), ?_⟩
          rw [f3.len, g3.len, List.length_map, List.length_map]
          omega
/-! ### the rule of a def -/
theorem start_sr {K : PySem.W.Frag} {H : Hp} {F : AS} {B : List Addr} {c : List (List Int)} {us : List V} {ds : List PyData} {N : List Str} {r : Nat} (hF : ∀ b, F b → ∃ o, H b = some o) (hB : ∀ b ∈ B, ¬ F b) (nd : B.Nodup) (bo : BorOk H B c) (ru : Reps K F H us ds) (hN : B.length + ds.length + r = N.length) :
    SR K H F B c ((List.range B.length).map Slot.bor ++ ds.map Slot.dat ++ List.replicate r Slot.un) (L2.start N (B.map V.ref ++ us)) H F := by
  have lu := ru.len
  have noown : ∀ (i : Nat) (es : List PyData), ((List.range B.length).map Slot.bor ++ ds.map Slot.dat ++ List.replicate r Slot.un)[i]? ≠ some (.own es) := by
    intro i es h
    have hm := List.mem_of_getElem? h
    simp at hm
  refine ⟨Stp.refl hF, hB, fun b hb => ?_, nd, bo, fun i s h => ?_, fun i j es es' a h => absurd h (noown i es), ?_⟩
  · obtain ⟨j, hj, e⟩ := List.getElem_of_mem hb
    obtain ⟨ns, _, e2⟩ := bo j b (by rw [List.getElem?_eq_getElem hj, e])
    exact ⟨_, e2⟩
  · unfold L2.start
    by_cases h1 : i < B.length
    · rw [List.append_assoc, List.getElem?_append_left (by simpa using h1), List.getElem?_map, List.getElem?_range h1] at h
      cases h
      refine ⟨B[i], ?_, List.getElem?_eq_getElem h1⟩
      rw [List.map_append, List.append_assoc, List.getElem?_append_left (by simpa using h1)]
      simp [List.getElem?_eq_getElem h1]
    · by_cases h2 : i < B.length + ds.length
      · rw [List.getElem?_append_left (by simp; omega), List.getElem?_append_right (by simp; omega), List.getElem?_map] at h
        simp only [List.length_map, List.length_range] at h
        cases e : ds[i - B.length]? with
        | none => rw [e] at h; cases h
        | some d =>
          rw [e] at h
          cases h
          obtain ⟨v, hv, rv⟩ := ru.get e
          refine ⟨v, ?_, rv⟩
          rw [List.map_append, List.getElem?_append_left (by simp; omega), List.getElem?_append_right (by simp; omega), List.getElem?_map]
          simp [hv]
      · rw [List.getElem?_append_right (by simp; omega)] at h
        have hm := List.mem_of_getElem? h
        rw [List.mem_replicate] at hm
        rw [hm.2]
        trivial
  · unfold L2.start
    simp
    omega
/-- a def whose body returns -/
theorem def_R {pr : Program} {wd : World} {K : PySem.W.Frag} {mg : Str → Option Value} {bs : Heap} {x ql : Str} {st : Stmt} {N : List Str} {ea : W → List PyData} {s : R → Slot} {m : W → M P R} (nb r : Nat) (F : Fun K x ql st f fd) (S : FnScope N ps (defScope st)) (hnb : ∀ p, (cs p).length = nb) (hps : ∀ w, nb + (ea w).length = ps.length) (hN : ∀ w, nb + (ea w).length + r = N.length)
    (hb : ∀ (cd : Value) (A : Around) (oe : List Env) (s0 : Shared) (H : Hp) (E : XK), Room k (A.deeper (envOfC ql (defScope st) s0.heap.objs.size f cd)) → A.guards = some [] → ∀ w,
      PSs (cxOf CX0 pr wd K mg bs N ql (defScope st) f cd A oe s0 H E).nox (defBody st) (xR K cs ((List.range nb).map Slot.bor ++ (ea w).map Slot.dat ++ List.replicate r Slot.un) s (m w))) :
    FnG pr wd K mg bs CX0 (k + 1) f fd ps (spM K cs ea s m) := by
  refine fn_g0 F S (fun vs H Q E h => ?_) fun cd A oe s0 H vs Q E room gd h => ?_
  · obtain ⟨F1, B, p, w, z, p', us, rfl, hl, _, _, _, _, ru, _⟩ := h
    rw [List.length_append, List.length_map, hl, hnb, ru.len, hps]
  · obtain ⟨F1, B, p, w, z, p', us, rfl, hl, nd, hF, hB, bo, ru, hm, q⟩ := h
    have hl : B.length = nb := hl.trans (hnb p)
    refine ⟨_, hb cd A oe s0 H E room gd w, H, F1, B, F1, p, z, p', ?_, hm, fun v H' F' S' r2 => q v H' F' S'.stp S'.bor r2⟩
    rw [← hl]
    exact start_sr hF hB nd bo ru (by rw [hl]; exact hN w)
/-- a def whose body falls off its end -/
theorem def_N {pr : Program} {wd : World} {K : PySem.W.Frag} {mg : Str → Option Value} {bs : Heap} {x ql : Str} {st : Stmt} {N : List Str} {ea : W → List PyData} {m : W → M P W2} {Γ' : W → W2 → List Slot} (nb r : Nat) (F : Fun K x ql st f fd) (S : FnScope N ps (defScope st)) (hnb : ∀ p, (cs p).length = nb) (hps : ∀ w, nb + (ea w).length = ps.length) (hN : ∀ w, nb + (ea w).length + r = N.length)
    (hb : ∀ (cd : Value) (A : Around) (oe : List Env) (s0 : Shared) (H : Hp) (E : XK), Room k (A.deeper (envOfC ql (defScope st) s0.heap.objs.size f cd)) → A.guards = some [] → ∀ w,
      PSs (cxOf CX0 pr wd K mg bs N ql (defScope st) f cd A oe s0 H E).nox (defBody st) (xN K cs ((List.range nb).map Slot.bor ++ (ea w).map Slot.dat ++ List.replicate r Slot.un) (Γ' w) (m w))) :
    FnG pr wd K mg bs CX0 (k + 1) f fd ps (spM K cs ea (dE (α := Unit)) fun w => bd (m w) fun _ => rt ()) := by
  refine fn_g0 F S (fun vs H Q E h => ?_) fun cd A oe s0 H vs Q E room gd h => ?_
  · obtain ⟨F1, B, p, w, z, p', us, rfl, hl, _, _, _, _, ru, _⟩ := h
    rw [List.length_append, List.length_map, hl, hnb, ru.len, hps]
  · obtain ⟨F1, B, p, w, z, p', us, rfl, hl, nd, hF, hB, bo, ru, hm, q⟩ := h
    have hl : B.length = nb := hl.trans (hnb p)
    obtain ⟨w2, p1, e1, hm⟩ := bd_some hm
    obtain ⟨rfl, rfl⟩ := rt_some hm
    refine ⟨_, hb cd A oe s0 H E room gd w, H, F1, B, F1, p, w2, p1, ?_, e1, fun σ' H' F' S' _ => q _ H' F' S'.stp S'.bor .non⟩
    rw [← hl]
    exact start_sr hF hB nd bo ru (by rw [hl]; exact hN w)
end
end XL

/-! XLB: bundled defs and their calls. -/
namespace XL
open PySem PySem.Spec L2
open PyProof.Rows hiding St
open Enc (enc)

theorem ofO_run {α : Type} (m : M Unit α) : ofO (run m) = m := by
  funext p
  unfold ofO run
  cases e : m () with
  | none => rfl
  | some x => rfl
/-- a def of the top that keeps its promise -/
structure Fx (pr : Program) (wd : World) (K : PySem.W.Frag) (mg : Str → Option Value) (bs : Heap) (x : Str) (st : Stmt) (ps : List Str) (k : Nat) (sp : Sp) : Prop where
  ex : ∃ (f : Addr) (fd : FuncData), Fun K x x st f fd ∧ FnG pr wd K mg bs CX0 k f fd ps sp ∧ mg x = some (.ref f) ∧ Binds K fd ps []
/-- where a def stands -/
structure At (K : PySem.W.Frag) (mg : Str → Option Value) (x : Str) (st : Stmt) (ps : List Str) : Prop where
  ex : ∃ (f : Addr) (fd : FuncData), Fun K x x st f fd ∧ mg x = some (.ref f) ∧ Binds K fd ps []
section
variable {P α β γ W W2 R : Type} {cs : P → List (List Int)}
variable {pr : Program} {wd : World} {K : PySem.W.Frag} {mg : Str → Option Value} {bs : Heap} {x : Str} {st : Stmt} {ps N : List Str} {k : Nat}
theorem fx_R {ea : W → List PyData} {s : R → Slot} {m : W → M P R} (nb r : Nat) (T : At K mg x st ps) (S : FnScope N ps (defScope st)) (hnb : ∀ p, (cs p).length = nb) (hps : ∀ w, nb + (ea w).length = ps.length) (hN : ∀ w, nb + (ea w).length + r = N.length)
    (hb : ∀ (f : Addr) (cd : Value) (A : Around) (oe : List Env) (s0 : Shared) (H : Hp) (E : XK), Room k (A.deeper (envOfC x (defScope st) s0.heap.objs.size f cd)) → A.guards = some [] → ∀ w,
      PSs (cxOf CX0 pr wd K mg bs N x (defScope st) f cd A oe s0 H E).nox (defBody st) (xR K cs ((List.range nb).map Slot.bor ++ (ea w).map Slot.dat ++ List.replicate r Slot.un) s (m w))) :
    Fx pr wd K mg bs x st ps (k + 1) (spM K cs ea s m) := by
  obtain ⟨f, fd, F, g, b⟩ := T.ex
  exact ⟨f, fd, F, def_R nb r F S hnb hps hN (hb f), g, b⟩
theorem fx_N {ea : W → List PyData} {m : W → M P W2} {Γ' : W → W2 → List Slot} (nb r : Nat) (T : At K mg x st ps) (S : FnScope N ps (defScope st)) (hnb : ∀ p, (cs p).length = nb) (hps : ∀ w, nb + (ea w).length = ps.length) (hN : ∀ w, nb + (ea w).length + r = N.length)
    (hb : ∀ (f : Addr) (cd : Value) (A : Around) (oe : List Env) (s0 : Shared) (H : Hp) (E : XK), Room k (A.deeper (envOfC x (defScope st) s0.heap.objs.size f cd)) → A.guards = some [] → ∀ w,
      PSs (cxOf CX0 pr wd K mg bs N x (defScope st) f cd A oe s0 H E).nox (defBody st) (xN K cs ((List.range nb).map Slot.bor ++ (ea w).map Slot.dat ++ List.replicate r Slot.un) (Γ' w) (m w))) :
    Fx pr wd K mg bs x st ps (k + 1) (spM K cs ea (dE (α := Unit)) fun w => bd (m w) fun _ => rt ()) := by
  obtain ⟨f, fd, F, g, b⟩ := T.ex
  exact ⟨f, fd, F, def_N nb r F S hnb hps hN (hb f), g, b⟩
/-- a pure def as an Option -/
theorem Fx.pure {ea : W → List PyData} {s : R → Slot} {m : W → M Unit R} (h : Fx pr wd K mg bs x st ps k (spM K cs0 ea s m)) (g : W → Option R) (hg : ∀ w, g w = run (m w)) : Fx pr wd K mg bs x st ps k (spF K ea s g) := by
  have e : (fun w => ofO (g w)) = m := by
    funext w
    rw [hg, ofO_run]
  show Fx pr wd K mg bs x st ps k (spM K cs0 ea s fun w => ofO (g w))
  rw [e]
  exact h
end
section
variable {P α β γ W W' W2 R : Type} {cs : P → List (List Int)} {Γ : List Slot}
variable {X : Cx} {a b d e : Expr} {es rest : List Expr} {p pos apos cpos p2 : Pos} {x y : Str} {st : Stmt} {ps : List Str} {k : Nat}
theorem f_call {s : β → Slot} {ss : W → List Slot} {ea : W → List PyData} {g : W → Option β} {m : M P W} (T : Fx X.prog X.w X.K X.mg X.base x st ps k (spF X.K ea s g)) (room : Room k X.A) (gd : X.A.guards = some []) (glob : Gl X x) (ha : PA X (e :: es) (xA X.K cs Γ ss m)) (hss : ∀ w, ss w = (ea w).map Slot.dat := by intro _; rfl)
    (nodbg : (x == ("__debug__" : Str)) = false := by decide) (st1 : starEach (e :: es) X.env = (false, eval e X.env) :: starEach es X.env := by rfl) (st2 : (backTo pos (starEach es X.env)).any (·.1) = false := by rfl) :
    PE X (.Call (.Name x p) (e :: es) [] pos) (xV X.K cs Γ s (bd m fun w => ofO (g w))) := by
  obtain ⟨f, fd, F, G, at_, b⟩ := T.ex
  exact x_call G room gd glob at_ F.kp b ha hss nodbg st1 st2
theorem f_call0 {s : β → Slot} {g : Unit → Option β} (T : Fx X.prog X.w X.K X.mg X.base x st [] k (spF X.K (fun _ : Unit => []) s g)) (room : Room k X.A) (gd : X.A.guards = some []) (glob : Gl X x) (nodbg : (x == ("__debug__" : Str)) = false := by decide) :
    PE X (.Call (.Name x p) [] [] pos) (xV X.K cs Γ s (ofO (g ()))) := by
  obtain ⟨f, fd, F, G, at_, b⟩ := T.ex
  exact x_call0 G room gd glob at_ F.kp b nodbg
theorem f_callK {s : β → Slot} {ks : List Str} {kws : List Keyword} {ss : W → List Slot} {ek : W → List PyData} {ea : W' → List PyData} (ix : List Nat) (perm : W → W') {g : W' → Option β} {m : M P W} (T : Fx X.prog X.w X.K X.mg X.base x st ps k (spF X.K ea s g)) (room : Room k X.A) (gd : X.A.guards = some []) (glob : Gl X x)
    (hkb : ∀ (kV doc pm : Value) (an : Option Addr) (cdv ct : Value) (ws : List Value), ws.length = ks.length → bindArgs (PySem.W.fnOf x x (defArgs st) (defBody st) (defScope st) .none kV doc pm an cdv ct) ⟨[], ks.zip ws⟩ = pure (ps.zip (pickK ix ws)))
    (ha : PK X kws (xA X.K cs Γ ss m)) (hss : ∀ w, ss w = (ek w).map Slot.dat) (hlen : ∀ w, (ek w).length = ks.length) (hp : ∀ w, pickK ix (ek w) = ea (perm w))
    (some_ : (backToKw pos (keywordEach kws X.env)).all (·.1.isSome) = true := by rfl) (names : (backToKw pos (keywordEach kws X.env)).filterMap (·.1) = ks := by rfl)
    (nodbg : (x == ("__debug__" : Str)) = false := by decide) (plain : ((backTo pos (starEach [] X.env)).any (·.1) || (backToKw pos (keywordEach kws X.env)).any (·.1.isNone)) = false := by rfl) :
    PE X (.Call (.Name x p) [] kws pos) (xV X.K cs Γ s (bd m fun w => ofO (g (perm w)))) := by
  obtain ⟨f, fd, F, G, at_, b⟩ := T.ex
  obtain ⟨oc, od, kV, doc, pm, an, cdv, ct, osl, e, lk, hcd⟩ := F.ex
  refine x_callK ix perm G room gd glob at_ F.kp (kb_mk ix fun s ws h => .of_eq ?_) ha hss hlen hp some_ names nodbg plain
  rw [e]
  exact hkb kV doc pm an cdv ct ws h
theorem f_callP (i : Nat) {Γ : List Slot} {s : β → Slot} {ss : W → List Slot} {ea : W → List PyData} {g : W → M Pot β} {m : M Pot W} {pn : Pos} (T : Fx X.prog X.w X.K X.mg X.base x st ps k (spM X.K csP ea s g)) (room : Room k X.A) (gd : X.A.guards = some []) (glob : Gl X x)
    (hp : PE X (.Name y pn) (tVar i)) (hi : Γ[i]? = some (.bor 0)) (ha : PA X es (xA X.K csP Γ ss m)) (hss : ∀ w, ss w = (ea w).map Slot.dat := by intro _; rfl) (nodbg : (x == ("__debug__" : Str)) = false := by decide)
    (st1 : starEach (.Name y pn :: es) X.env = (false, eval (.Name y pn) X.env) :: starEach es X.env := by rfl) (st2 : (backTo pos (starEach es X.env)).any (·.1) = false := by rfl) :
    PE X (.Call (.Name x p) (.Name y pn :: es) [] pos) (xV X.K csP Γ s (bd m g)) := by
  obtain ⟨f, fd, F, G, at_, b⟩ := T.ex
  exact x_callP i G room gd glob at_ F.kp b hp hi ha hss nodbg st1 st2
theorem f_callB (i j : Nat) (get : P → Pot) (set : P → Pot → P) {s : β → Slot} {ss : W → List Slot} {ea : W → List PyData} {g : W → M Pot β} {m : M P W} {pn : Pos} (T : Fx X.prog X.w X.K X.mg X.base x st ps k (spM X.K csP ea s g)) (room : Room k X.A) (gd : X.A.guards = some []) (glob : Gl X x)
    (hp : PE X (.Name y pn) (tVar i)) (hi : Γ[i]? = some (.bor j)) (ha : PA X es (xA X.K cs Γ ss m)) (hget : ∀ p, (cs p)[j]? = some [(get p).1, (get p).2]) (hset : ∀ p q, cs (set p q) = (cs p).set j [q.1, q.2]) (hss : ∀ w, ss w = (ea w).map Slot.dat := by intro _; rfl) (nodbg : (x == ("__debug__" : Str)) = false := by decide)
    (st1 : starEach (.Name y pn :: es) X.env = (false, eval (.Name y pn) X.env) :: starEach es X.env := by rfl) (st2 : (backTo pos (starEach es X.env)).any (·.1) = false := by rfl) :
    PE X (.Call (.Name x p) (.Name y pn :: es) [] pos) (xV X.K cs Γ s (bd m fun w => viaL get set (g w))) := by
  obtain ⟨f, fd, F, G, at_, b⟩ := T.ex
  exact x_callB i j get set G room gd glob at_ F.kp b hp hi ha hss hget hset nodbg st1 st2
theorem f_callT {s : β → Slot} {g : Unit → M Pot β} {m : M P Pot} (T : Fx X.prog X.w X.K X.mg X.base x st ps k (spM X.K csP (fun _ : Unit => []) s g)) (room : Room k X.A) (gd : X.A.guards = some []) (glob : Gl X x) (he : PE X e (xV X.K cs Γ (fun q : Pot => .own [.int q.1, .int q.2]) m)) (nodbg : (x == ("__debug__" : Str)) = false := by decide)
    (st1 : starEach [e] X.env = (false, eval e X.env) :: starEach [] X.env := by rfl) (st2 : (backTo pos (starEach [] X.env)).any (·.1) = false := by rfl) :
    PE X (.Call (.Name x p) [e] [] pos) (xV X.K cs Γ s (bd m fun q => ofO ((g () q).map (·.1)))) := by
  obtain ⟨f, fd, F, G, at_, b⟩ := T.ex
  exact x_callT G room gd glob at_ F.kp b he nodbg st1 st2
/-- the pot's two ints as a display -/
theorem x_pot {m1 m2 : M P Int} (ha : PE X a (xE X.K cs Γ m1)) (hb : PE X b (xE X.K cs Γ m2)) (hs : starEach [a, b] X.env = (false, eval a X.env) :: starEach [b] X.env := by rfl) (hs2 : starEach [b] X.env = (false, eval b X.env) :: starEach [] X.env := by rfl) :
    PE X (.List [a, b] pos) (xV X.K cs Γ (fun q : Pot => .own [.int q.1, .int q.2]) (bd m1 fun x => bd m2 fun y => rt (x, y))) :=
  pe_imp (pe_lst (a_cons ha (a_cons hb a_nil hs2) hs)) fun σ H Q ⟨H0, F0, B, F, p, z, p', S, hm, q⟩ => by
    obtain ⟨y, p1, h1, hm⟩ := bd_some hm
    obtain ⟨u, p2, h2, hm⟩ := bd_some hm
    obtain ⟨rfl, rfl⟩ := rt_some hm
    refine ⟨H0, F0, B, F, p, (y, u, ()), p2, S, by rw [bd_eq h1, bd_eq (q := p2) (a := (u, ())) (by rw [bd_eq h2]; rfl)]; rfl, fun vs H' F' S' T R => ?_⟩
    obtain ⟨v, w, rfl, R1, R2⟩ := svs2 R
    refine ⟨by show 2 ≤ sizeLine; decide, fun t ht => ?_⟩
    obtain ⟨S2, T2, r2⟩ := own_new S' ht (vs := [v, w]) (ds := [.int y, .int u]) (.cons R1 (.cons R2 .nil))
    exact q _ _ _ S2 (T.trans T2) (r2.back T)
/-- an expression for its effect -/
theorem s_drop {s : α → Slot} {m : M P α} (h : PE X e (xV X.K cs Γ s m)) (hs : swapsWith e none pos.line X.env = pure false := by rfl) : PS X (.Expr e pos) (xN X.K cs Γ (fun _ : α => Γ) m) :=
  ps_imp (ps_expr h hs) fun D σ H ⟨H0, F0, B, F, p, z, p', S, hm, q⟩ => ⟨H0, F0, B, F, p, z, p', S, hm, fun v H' F' S' T r => q σ H' F' S' (S.toAgr T)⟩
/-- xs.append(None), xs forgotten -/
theorem s_spoil (i : Nat) {ds : List PyData} {j : Nat} {pc : Pos} (hp : PE X (.Name y p2) (tVar i)) (hi : Γ[i]? = some (.own ds)) (hbase : attributeBase (.Name y p2) "append" X.env (eval (.Name y p2) X.env) = eval (.Name y p2) X.env := by rfl)
    (hfew : ((backTo cpos (starEach (.Constant .none j pc :: []) X.env)).all (fun x => !x.1) && (backToKw cpos (keywordEach [] X.env)).all (fun x => x.1.isSome) && decide ((Expr.Constant .none j pc :: []).length + ([] : List Keyword).length + (if ([] : List Keyword).isEmpty then 0 else 1) < 30)) = true := by rfl)
    (hline : (apos.endLine == cpos.line) = true := by rfl) (hs : starEach [.Constant .none j pc] X.env = (false, eval (.Constant .none j pc) X.env) :: starEach [] X.env := by rfl) (hplain : (backTo cpos (starEach [] X.env)).any (·.1) = false := by rfl)
    (hsw : swapsWith (.Call (.Attribute (.Name y p2) "append" apos) [.Constant .none j pc] [] cpos) none pos.line X.env = pure false := by rfl) :
    PS X (.Expr (.Call (.Attribute (.Name y p2) "append" apos) [.Constant .none j pc] [] cpos) pos) (xN X.K cs Γ (fun _ : Unit => Γ.set i .un) (grd (okLen ds.length) (rt ()))) :=
  ps_imp (ps_expr (pe_bm PySem.F.plainAttrs_list PySem.F.slot_list_append PySem.F.type_list_append mt_append hp (pa_cons pe_non pa_nil hs) hbase hfew hline hs hplain) hsw) fun D σ H ⟨H0, F0, B, F, p, w, p', S, hm, q⟩ => by
    obtain ⟨hl, hm⟩ := grd_some hm
    obtain ⟨rfl, rfl⟩ := rt_some hm
    obtain ⟨a, vs, e1, ha, ra, nf, n0⟩ := S.slot i _ hi
    refine ⟨_, e1, .inl ⟨rfl, _, SqL.of ha⟩, a, vs, .non, rfl, rfl, ha, by rw [ra.len]; exact okLen_lt hl, ?_⟩
    obtain ⟨S2, A2⟩ := S.write (ds' := ds ++ [.none]) hi e1 (ra.app (.one .non))
    refine q σ _ F (S2.le ?_) A2
    have le : ∀ (Γ : List Slot) (i : Nat) (s : Slot), LeG (Γ.set i s) (Γ.set i .un) := by
      intro Γ
      induction Γ with
      | nil => intro i s; exact .nil
      | cons t Γ ih =>
        intro i s
        cases i with
        | zero => exact .drop LeG.refl
        | succ i => exact .keep (ih i s)
    exact le Γ i _
end
end XL

/-! XLC: small things for the printed terms. -/
namespace XL
open PySem PySem.Spec L2
open PyProof.Rows hiding St
open Enc (enc)
theorem hu65 {k : Nat} {A : Around} (r : Room k A) : A.units + 65 < cLine := by have := r.un; omega
theorem hu100 {k : Nat} {A : Around} (r : Room k A) : A.units + 100 < cLine := by have := r.un; omega
theorem okA {Γ : List Slot} {is : List Nat} (h : (is.all fun i => (Γ[i]?).isSome) = true) : ∀ i ∈ is, (Γ[i]?).isSome = true := List.all_eq_true.mp h
section
variable {P α β γ W W' W2 R : Type} {cs : P → List (List Int)} {Γ : List Slot}
variable {X : Cx} {tg a b d e : Expr} {es rest : List Expr} {p pos apos cpos p2 : Pos} {x y : Str} {st : Stmt} {ps : List Str} {k : Nat}
theorem i_tupL [Enc α] {m : M P (Tup α)} (h : PE X e (xE X.K cs Γ m)) : PI X tg e (xI X.K cs Γ eL (bd m fun t => rt t.l)) :=
  pi_imp (i_tup h) fun σ H Q ⟨H0, F0, B, F, p, l, p', S, hm, q⟩ => by
    obtain ⟨t, p1, h1, hm⟩ := bd_some hm
    obtain ⟨rfl, rfl⟩ := rt_some hm
    exact ⟨H0, F0, B, F, p, t, _, S, h1, q⟩
theorem x_globE {i : Int} (hg : Gl X x) (hm : ∃ t, X.mg x = some (.int i t)) (hd : (x == ("__debug__" : Str)) = false := by decide) : PE X (.Name x pos) (xE X.K cs Γ (rt i)) := by
  obtain ⟨t, h⟩ := hm
  exact x_glob hg h hd
theorem x_globSE {i : Str} (hg : Gl X x) (hm : ∃ t, X.mg x = some (.str i t)) (hd : (x == ("__debug__" : Str)) = false := by decide) : PE X (.Name x pos) (xE X.K cs Γ (rt i)) := by
  obtain ⟨t, h⟩ := hm
  exact x_globS hg h hd
end
end XL

/-! XLD: defs that raise own exceptions without a value; try .. except X. -/
namespace XL
open PySem PySem.Spec L2
open PyProof.Rows hiding St
open Enc (enc)

section
variable {P α β γ W W' R : Type}
abbrev WE' (E : XK) : WX := fun cls d _ H => E cls d H
def spX (mg : Str → Option Value) (K : PySem.W.Frag) (cs : P → List (List Int)) (ea : W → List PyData) (s : β → Slot) (f : W → M P (β ⊕ Str)) : Sp := fun vs H Q E =>
  ∃ (F : AS) (B : List Addr) (p : P) (w : W) (r : β ⊕ Str) (p' : P) (us : List V), vs = B.map V.ref ++ us ∧ B.length = (cs p).length ∧ B.Nodup ∧ (∀ b, F b → ∃ o, H b = some o) ∧ (∀ b ∈ B, ¬ F b) ∧ BorOk H B (cs p) ∧ Reps K F H us (ea w) ∧ f w p = some (r, p') ∧
    (∀ b, r = .inl b → ∀ v H' F', Stp F F' H H' B → BorOk H' B (cs p') → SV K F' H H' v (s b) → Q v H') ∧
    ∀ x, r = .inr x → ∀ cls d H' F', Stp F F' H H' B → BorOk H' B (cs p') → mg x = some cls → E cls d H'
abbrev spXF (mg : Str → Option Value) (K : PySem.W.Frag) (ea : W → List PyData) (s : β → Slot) (f : W → Option (β ⊕ Str)) : Sp := spX mg K cs0 ea s fun w => ofO (f w)
def thX (m : M P (α ⊕ Str)) (f : α → M P (β ⊕ Str)) : M P (β ⊕ Str) := bd m fun r => match r with
  | .inl a => f a
  | .inr x => rt (.inr x)
def catX (x : Str) (m : M P (α ⊕ Str)) (ms : M P α) : M P α := bd m fun r => match r with
  | .inl a => rt a
  | .inr z => if z = x then ms else no
def xVX (mg : Str → Option Value) (Wx : WX) (K : PySem.W.Frag) (cs : P → List (List Int)) (Γ : List Slot) (s : β → Slot) (m : M P (β ⊕ Str)) : TE := fun σ H Q =>
  ∃ (H0 : Hp) (F0 : AS) (B : List Addr) (F : AS) (p : P) (r : β ⊕ Str) (p' : P), SR K H0 F0 B (cs p) Γ σ H F ∧ m p = some (r, p') ∧
    (∀ b, r = .inl b → ∀ v H' F', SR K H0 F0 B (cs p') Γ σ H' F' → Stp F F' H H' B → SV K F' H H' v (s b) → Q v H') ∧
    ∀ x, r = .inr x → ∀ cls d H' F', SR K H0 F0 B (cs p') Γ σ H' F' → Stp F F' H H' B → mg x = some cls → Wx cls d σ H'
def xNX (mg : Str → Option Value) (Wx : WX) (K : PySem.W.Frag) (cs : P → List (List Int)) (Γ : List Slot) (Γ' : W → List Slot) (m : M P (W ⊕ Str)) : TS := fun D σ H =>
  ∃ (H0 : Hp) (F0 : AS) (B : List Addr) (F : AS) (p : P) (r : W ⊕ Str) (p' : P), SR K H0 F0 B (cs p) Γ σ H F ∧ m p = some (r, p') ∧
    (∀ w, r = .inl w → ∀ σ' H' F', SR K H0 F0 B (cs p') (Γ' w) σ' H' F' → Agr F F' H H' → D.nx σ' H') ∧
    ∀ x, r = .inr x → ∀ cls d σ' H' F', Agr F F' H H' → SR K H0 F0 B (cs p') Γ σ' H' F' → mg x = some cls → Wx cls d σ' H'
def xRX (mg : Str → Option Value) (E : XK) (K : PySem.W.Frag) (cs : P → List (List Int)) (Γ : List Slot) (s : R → Slot) (m : M P (R ⊕ Str)) : TS := fun D σ H =>
  ∃ (H0 : Hp) (F0 : AS) (B : List Addr) (F : AS) (p : P) (z : R ⊕ Str) (p' : P), SR K H0 F0 B (cs p) Γ σ H F ∧ m p = some (z, p') ∧
    (∀ r, z = .inl r → ∀ v H' F', SR K H0 F0 B (cs p') [] [] H' F' → SV K F' H0 H' v (s r) → D.rt v H') ∧
    ∀ x, z = .inr x → ∀ cls d H' F', SR K H0 F0 B (cs p') [] [] H' F' → mg x = some cls → E cls d H'
end
section
variable {P α β γ W W' W2 R : Type} {cs : P → List (List Int)} {Γ : List Slot}
variable {X : Cx} {a b d e : Expr} {es rest : List Expr} {p pos p2 : Pos} {x y : Str} {st : Stmt} {sts body els : List Stmt} {ps : List Str} {k : Nat} {f : Addr} {fd : FuncData} {mg : Str → Option Value} {E : XK} {Wx : WX}
theorem call_endS {pins : List (Addr × Obj)} {σ : L2.St} {H : Hp} {s : Shared} {Q : VK} {ar : Args} {CX : CXT} (hx : PassesAt CX X σ E) (I : Inv X pins σ H s) (h : codeAny (model X.prog X.w) X.A (.call (.ref f) ar) (CR CX X.stack X.prog X.w H s Q E) s) :
    wpAny (model X.prog X.w) X.A (call (.ref f) ar.pos ar.kw) (EP X pins σ Q) X.xe s := by
  refine wpAny_call (codeAny_mono h fun r s' z => ?_)
  match r, z with
  | .error e, z => exact hx pins H s e s' I z
  | .ok (.ret u), z => exact I.after z
  | .ok .next, z => exact z.elim
  | .ok .brk, z => exact z.elim
  | .ok .cont, z => exact z.elim
theorem g_callS {sp : Sp} {CX : CXT} {Es : L2.St → XK} {t : TA} (G : FnG X.prog X.w X.K X.mg X.base CX k f fd ps sp) (room : Room k X.A) (gd : X.A.guards = some []) (glob : Gl X x) (at_ : X.mg x = some (.ref f)) (kept : PySem.W.keepIn X.K (.ref f) = true)
    (bnd : Binds X.K fd ps []) (hx : ∀ σ, PassesAt CX X σ (Es σ)) (ha : PA X (e :: es) t) (nodbg : (x == ("__debug__" : Str)) = false := by decide)
    (st1 : starEach (e :: es) X.env = (false, eval e X.env) :: starEach es X.env := by rfl) (st2 : (backTo pos (starEach es X.env)).any (·.1) = false := by rfl) :
    PE X (.Call (.Name x p) (e :: es) [] pos) (tCallS sp Es t) := by
  constructor
  intro pins s σ H Q I h
  refine wpAny_Call_Name_kw (ld_glob I glob at_ ?_ nodbg)
  refine PySem.W.callWith_K (h₀ := X.base) I.ok.mod.kin kept (thn (ha.run pos pins s σ H _ I h) ?_) st1 st2
  rintro us s1 ⟨vs, H1, J, rv, q⟩
  have hl : us.length = ps.length := by rw [← rv.length]; exact G.len _ _ _ _ q
  have bb := bnd s1 us J.kIn (by rw [List.append_nil]; exact hl)
  rw [List.append_nil] at bb
  exact ⟨J.kIn, call_endS (ar := ⟨us, []⟩) (hx σ) J (G.run X.A X.stack s1 H1 ⟨us, []⟩ us vs Q (Es σ) room gd J.env0 bb rv q)⟩
/-- f(e, ..), which may raise, data to data -/
theorem x_callX {s : β → Slot} {ss : W → List Slot} {ea : W → List PyData} {g : W → Option (β ⊕ Str)} {m : M P W} (G : FnG X.prog X.w X.K X.mg X.base (L2.CX X.prog X.w) k f fd ps (spXF X.mg X.K ea s g)) (room : Room k X.A) (gd : X.A.guards = some []) (glob : Gl X x) (at_ : X.mg x = some (.ref f)) (kept : PySem.W.keepIn X.K (.ref f) = true)
    (bnd : Binds X.K fd ps []) (tk : Takes X Wx) (ha : PA X (e :: es) (xA X.K cs Γ ss m)) (hss : ∀ w, ss w = (ea w).map Slot.dat := by intro _; rfl) (nodbg : (x == ("__debug__" : Str)) = false := by decide)
    (st1 : starEach (e :: es) X.env = (false, eval e X.env) :: starEach es X.env := by rfl) (st2 : (backTo pos (starEach es X.env)).any (·.1) = false := by rfl) :
    PE X (.Call (.Name x p) (e :: es) [] pos) (xVX X.mg Wx X.K cs Γ s (bd m fun w => ofO (g w))) :=
  pe_imp (g_callS G room gd glob at_ kept bnd (fun σ => passAt tk σ) ha nodbg st1 st2) fun σ H Q ⟨H0, F0, B, F, p, z, p', S, hm, q, q2⟩ => by
    obtain ⟨w, p1, h1, hm⟩ := bd_some hm
    obtain ⟨h2, rfl⟩ := ofO_some hm
    refine ⟨H0, F0, B, F, p, w, _, S, h1, fun vs H1 F1 S1 T1 R => ?_⟩
    rw [hss] at R
    refine ⟨F1, [], (), w, z, (), vs, rfl, rfl, .nil, S1.dom, fun b hb => (nomatch hb), fun j a h => by simp at h, R.reps, by show ofO (g w) () = _; rw [h2]; rfl, fun b e v H' F' T _ r2 => ?_, fun x e cls d H' F' T _ hmg => ?_⟩
    · have nil : ∀ b : Addr, b ∉ ([] : List Addr) := fun b h => nomatch h
      have T' : Stp F1 F' H1 H' B := ⟨T.mono, fun b o h _ => T.same b o h (nil b), fun b _ ⟨o, h⟩ => ⟨o, T.same b o h (nil b)⟩, T.new, T.dom⟩
      refine q b e v H' F' (S1.step T' fun b hb => ?_) (T1.trans T') (r2.back T1)
      obtain ⟨o, e⟩ := S1.trkB hb
      rw [e]
      exact T.same b o e (nil b)
    · have nil : ∀ b : Addr, b ∉ ([] : List Addr) := fun b h => nomatch h
      have T' : Stp F1 F' H1 H' B := ⟨T.mono, fun b o h _ => T.same b o h (nil b), fun b _ ⟨o, h⟩ => ⟨o, T.same b o h (nil b)⟩, T.new, T.dom⟩
      refine q2 x e cls d H' F' (S1.step T' fun b hb => ?_) (T1.trans T') hmg
      obtain ⟨o, e⟩ := S1.trkB hb
      rw [e]
      exact T.same b o e (nil b)
/-! ### statements -/
theorem s_setX (i : Nat) {s : β → Slot} {m : M P (β ⊕ Str)} {y : Str} (hN : X.N.Nodup) (hi : X.N[i]? = some y) (hx : Loc X.env.scope y) (he : PE X e (xVX mg Wx X.K cs Γ s m)) (hl : (Γ[i]?).isSome = true := by rfl) (hs : swapsWith e (some (.Name y p2)) pos.line X.env = pure false := by rfl) (hf : X.fn y = true ∨ X.env.scope.names.lookup y = some .local := by first | exact .inl rfl | exact .inr rfl | assumption) :
    PS X (.Assign [.Name y p2] e pos) (xNX mg Wx X.K cs Γ (fun a => Γ.set i (s a)) m) :=
  ps_imp (ps_set hN hi hx he hs hf) fun D σ H ⟨H0, F0, B, F, p, z, p', S, hm, q, q2⟩ => ⟨H0, F0, B, F, p, z, p', S, hm, fun b e v H' F' S' T r => q b e _ H' F' (S'.set1 (SV.now (Γ2 := Γ) S r) hl) (S.toAgr T),
    fun x e cls d H' F' S' T hmg => q2 x e cls d σ H' F' (S.toAgr T) S' hmg⟩
theorem s_callX {s : β → Slot} {m : M P (β ⊕ Str)} (he : PE X e (xVX mg Wx X.K cs Γ s m)) (hs : swapsWith e none pos.line X.env = pure false := by rfl) :
    PS X (.Expr e pos) (xNX mg Wx X.K cs Γ (fun _ : β => Γ) m) :=
  ps_imp (ps_expr he hs) fun D σ H ⟨H0, F0, B, F, p, z, p', S, hm, q, q2⟩ => ⟨H0, F0, B, F, p, z, p', S, hm, fun b e v H' F' S' T r => q b e σ H' F' S' (S.toAgr T),
    fun x e cls d H' F' S' T hmg => q2 x e cls d σ H' F' (S.toAgr T) S' hmg⟩
/-- X() -/
theorem pmk_0 {C : Addr} {bmB : List Value} {B newId initId : String} (F : ExcBaseFacts B newId initId bmB) (q : PySem.W.excIn X.K C bmB newId = true) (gC : X.mg x = some (.ref C))
    (kC : PySem.W.keepIn X.K (.ref C) = true) (r : Raises X (.ref C)) (hg : Gl X x) (hdb : (x == ("__debug__" : Str)) = false := by decide) :
    PMk X (.Call (.Name x p) [] [] pos) (fun σ H Q => Q (.ref C) none H) := by
  intro pins s σ H Q I h
  refine wpAny_Call_Name_kw (ld_glob I hg gC ?_ hdb)
  refine PySem.W.callWith_K0 I.kIn kC ?_
  show wpAny _ _ (call (.ref C) []) _ _ _
  obtain ⟨bm, N, nm, qn, bs, hdct, sn, sub, ab, col, dd, k0, k1, k2, k3, k5, mN, hC, hN, hni, T⟩ := exc_obj I.kIn q
  exact wpAny_call_exc_subT F T hC hN hni (fun h' e hm => mk_of I hm r h (I.hok.gone hm.new)) (by show 0 ≤ sizeLine; omega)
/-- a class of its own without a value, as the top has it -/
structure ExA (K : PySem.W.Frag) (mg : Str → Option Value) (x : Str) : Prop where
  ex : ∃ C : Addr, mg x = some (.ref C) ∧ PySem.W.excIn K C [.type "RuntimeError", .type "Exception", .type "BaseException", .type "object"] "RuntimeError.__new__" = true ∧ PySem.W.keepIn K (.ref C) = true ∧
    PySem.W.subIn K (.ref C) (.type "BaseException") = some true ∧ PySem.W.typeIn K (.ref C) = some (.type "type") ∧ PySem.W.exmOne K (.ref C) (.ref C) = some true
/-- if ..: raise X() -/
theorem s_raiseX {mc : M P Bool} {pr pc pn : Pos} (hx : ExA X.K X.mg x) (hg : Gl X x) (hcalm : X.calm = true) (tk : Takes X Wx) (hc : PT X e (xT X.K cs Γ mc)) (hdb : (x == ("__debug__" : Str)) = false := by decide) :
    PS X (.If e [.Raise (some (.Call (.Name x pn) [] [] pc)) none pr] [] pos) (xNX X.mg Wx X.K cs Γ (fun _ : Unit => Γ) (bd mc fun b => if b = true then rt (.inr x) else rt (.inl ()))) := by
  obtain ⟨C, gC, q, kC, c1, c2, _⟩ := hx.ex
  refine ps_imp (ps_if hc (pss_one (ps_raise hcalm tk (pmk_0 PySem.F.excBase_RuntimeError q gC kC (raises_own c1 c2) hg hdb))) pss_nil) fun D σ H ⟨H0, F0, B, F, p, z, p', S, hm, q, q2⟩ => ?_
  obtain ⟨b, p1, e1, hm⟩ := bd_some hm
  refine ⟨H0, F0, B, F, p, b, p1, S, e1, fun H1 F1 S1 T1 => ?_⟩
  by_cases hb : b = true
  · rw [if_pos hb] at hm ⊢
    obtain ⟨rfl, rfl⟩ := rt_some hm
    exact q2 x rfl _ _ σ H1 F1 (S.toAgr T1) S1 gC
  · rw [if_neg hb] at hm ⊢
    obtain ⟨rfl, rfl⟩ := rt_some hm
    exact q () rfl σ H1 F1 S1 (S.toAgr T1)
/-! ### blocks -/
theorem b_nilX {Γ' : W → List Slot} (w : W) (h : LeG Γ (Γ' w)) : PSs X [] (xNX mg Wx X.K cs Γ Γ' (rt (.inl w))) :=
  pss_imp pss_nil fun D σ H ⟨H0, F0, B, F, p, z, p', S, hm, q, _⟩ => by
    obtain ⟨rfl, rfl⟩ := rt_some hm
    exact q w rfl σ H F (S.le h) Agr.refl
theorem b_oneX {Γ' : W → List Slot} {m : M P (W ⊕ Str)} (h : PS X st (xNX mg Wx X.K cs Γ Γ' m)) : PSs X [st] (xNX mg Wx X.K cs Γ Γ' m) := pss_one h
theorem b_seqRX {Γ1 : W → List Slot} {s : R → Slot} {m1 : M P (W ⊕ Str)} {m2 : W → M P (R ⊕ Str)} (h1 : PS X st (xNX mg (WE' E) X.K cs Γ Γ1 m1)) (h2 : ∀ w, PSs X sts (xRX mg E X.K cs (Γ1 w) s (m2 w))) : PSs X (st :: sts) (xRX mg E X.K cs Γ s (thX m1 m2)) :=
  pss_imp (pss_cons h1 (pss_ex h2)) fun D σ H ⟨H0, F0, B, F, p, z, p', S, hm, q, q2⟩ => by
    obtain ⟨r, p1, e1, hm⟩ := bd_some hm
    refine ⟨H0, F0, B, F, p, r, p1, S, e1, fun w e σ' H' F' S' A => ?_, fun x e cls d σ' H' F' A S' hmg => ?_⟩
    · subst e
      exact ⟨w, H0, F0, B, F', p1, z, p', S', hm, q, q2⟩
    · subst e
      obtain ⟨rfl, rfl⟩ := rt_some hm
      exact q2 x rfl cls d H' F' S'.bare hmg
theorem b_retX {s : R → Slot} {m : M P R} (h : PSs X sts (xR X.K cs Γ s m)) : PSs X sts (xRX mg E X.K cs Γ s (bd m fun r => rt (.inl r))) :=
  pss_imp h fun D σ H ⟨H0, F0, B, F, p, z, p', S, hm, q, _⟩ => by
    obtain ⟨r, p1, e1, hm⟩ := bd_some hm
    obtain ⟨rfl, rfl⟩ := rt_some hm
    exact ⟨H0, F0, B, F, p, r, p1, S, e1, q r rfl⟩
theorem b_seqRN {Γ1 : W → List Slot} {s : R → Slot} {m1 : M P W} {m2 : W → M P (R ⊕ Str)} (h1 : PS X st (xN X.K cs Γ Γ1 m1)) (h2 : ∀ w, PSs X sts (xRX mg E X.K cs (Γ1 w) s (m2 w))) : PSs X (st :: sts) (xRX mg E X.K cs Γ s (bd m1 m2)) :=
  pss_imp (pss_cons h1 (pss_ex h2)) fun D σ H ⟨H0, F0, B, F, p, z, p', S, hm, q, q2⟩ => by
    obtain ⟨w, p1, e1, hm⟩ := bd_some hm
    exact ⟨H0, F0, B, F, p, w, p1, S, e1, fun σ' H' F' S' A => ⟨w, H0, F0, B, F', p1, z, p', S', hm, q, q2⟩⟩
/-- a value as any data -/
theorem x_anyX [Enc α] {m : M P (α ⊕ Str)} (h : PE X e (xVX mg Wx X.K cs Γ (dE (α := α)) m)) : PE X e (xVX mg Wx X.K cs Γ (dE (α := PyData)) (thX m fun a => rt (.inl (enc a)))) :=
  pe_imp h fun σ H Q ⟨H0, F0, B, F, p, z, p', S, hm, q, q2⟩ => by
    obtain ⟨r, p1, e1, hm⟩ := bd_some hm
    refine ⟨H0, F0, B, F, p, r, p1, S, e1, fun b e v H' F' S' T rv => ?_, fun x e cls d H' F' S' T hmg => ?_⟩
    · subst e
      obtain ⟨rfl, rfl⟩ := rt_some hm
      exact q (enc b) rfl v H' F' S' T rv
    · subst e
      obtain ⟨rfl, rfl⟩ := rt_some hm
      exact q2 x rfl cls d H' F' S' T hmg
/-! ### try .. except X: .. -/
theorem tk_no : Takes X (fun _ _ _ _ => False) := fun u s' ⟨_, _, _, _, _, _, _, _, _, _, _, _, _, _, _, _, w⟩ => w.elim
theorem s_tryOnly {Γ' : W → List Slot} {mb : M P (W ⊕ Str)} {ms : M P W} {b₀ : Stmt} {suite : List Stmt} {np pos' : Pos} (hx : ExA X.K X.mg x) (hs : X.stack = X.env :: X.outer) (hf : X.env.frame = some X.env.locals) (hg : Gl X x)
    (hb : ∀ (Wy : WX) (pn : List (Addr × Obj)) (xe : Value → Shared → Prop), Takes (X.tr pn xe) Wy → PSs (X.tr pn xe) body (xNX X.mg Wy X.K cs Γ Γ' mb))
    (hsu : ∀ (a : Addr) (oe : Obj) (pn : List (Addr × Obj)), PSs (X.suite a ((a, oe) :: pn)) (b₀ :: suite) (xN X.K cs Γ Γ' ms)) (hdb : (x == ("__debug__" : Str)) = false := by decide) :
    PS X (.Try body [.ExceptHandler (some (.Name x np)) none (b₀ :: suite) pos'] [] [] pos) (xN X.K cs Γ Γ' (catX x mb ms)) := by
  obtain ⟨C, gC, q0, kC, c1, c2, c3⟩ := hx.ex
  refine ps_imp (ps_try_only (c := .ref C) (ts := fun a cls d => xN X.K cs Γ Γ' ms) hs hf ⟨hg, hdb, .inl gC⟩ tk_no (fun Wy pn xe tk _ => hb Wy pn xe tk) fun a oe cls d pn _ _ => hsu a oe pn) fun D σ H ⟨H0, F0, B, F, p, z, p', S, hm, q⟩ => ?_
  obtain ⟨r, p1, e1, hm⟩ := bd_some hm
  refine ⟨H0, F0, B, F, p, r, p1, S, e1, fun w e σ' H' F' S' A => ?_, fun y e cls d σ' H' F' A S2 hmg => ?_⟩
  · subst e
    obtain ⟨rfl, rfl⟩ := rt_some hm
    exact q σ' H' F' S' A
  · subst e
    by_cases hy : y = x
    · subst hy
      have hm2 : ms p1 = some (z, p') := by
        have h := hm
        show ms p1 = _
        simpa using h
      rw [gC] at hmg
      cases hmg
      exact ⟨true, c3, fun _ a _ => ⟨H0, F0, B, F', p1, z, p', S2, hm2, fun σ2 H2 F2 S3 A3 => q σ2 H2 F2 S3 (A.trans A3)⟩, fun h => nomatch h⟩
    · have hm2 : (no : M P W) p1 = some (z, p') := by
        have h := hm
        simpa [hy] using h
      cases hm2
end
/-! ### the rule of a def that raises -/
section
variable {P α β γ W W2 R : Type} {cs : P → List (List Int)}
variable {pr : Program} {wd : World} {K : PySem.W.Frag} {mg : Str → Option Value} {bs : Heap} {x : Str} {st : Stmt} {ps N : List Str} {k : Nat} {f : Addr} {fd : FuncData}
structure FxX (pr : Program) (wd : World) (K : PySem.W.Frag) (mg : Str → Option Value) (bs : Heap) (x : Str) (st : Stmt) (ps : List Str) (k : Nat) (sp : Sp) : Prop where
  ex : ∃ (f : Addr) (fd : FuncData), Fun K x x st f fd ∧ FnG pr wd K mg bs (L2.CX pr wd) k f fd ps sp ∧ mg x = some (.ref f) ∧ Binds K fd ps []
theorem spX_len {ea : W → List PyData} {s : R → Slot} {m : W → M P (R ⊕ Str)} {nb : Nat} (hnb : ∀ p, (cs p).length = nb) (hps : ∀ w, nb + (ea w).length = ps.length) : ∀ vs H Q E, spX mg K cs ea s m vs H Q E → vs.length = ps.length := fun vs H Q E h => by
  obtain ⟨F1, B, p, w, z, p', us, rfl, hl, _, _, _, _, ru, _⟩ := h
  rw [List.length_append, List.length_map, hl, hnb, ru.len, hps]
theorem fx_RX {ea : W → List PyData} {s : R → Slot} {m : W → M P (R ⊕ Str)} (nb r : Nat) (T : At K mg x st ps) (S : FnScope N ps (defScope st)) (hnb : ∀ p, (cs p).length = nb) (hps : ∀ w, nb + (ea w).length = ps.length) (hN : ∀ w, nb + (ea w).length + r = N.length)
    (hb : ∀ (f : Addr) (cd : Value) (A : Around) (oe : List Env) (s0 : Shared) (H : Hp) (E : XK), Room k (A.deeper (envOfC x (defScope st) s0.heap.objs.size f cd)) → A.guards = some [] → Takes (cxOf (L2.CX pr wd) pr wd K mg bs N x (defScope st) f cd A oe s0 H E) (WE' E) → ∀ w,
      PSs (cxOf (L2.CX pr wd) pr wd K mg bs N x (defScope st) f cd A oe s0 H E) (defBody st) (xRX mg E K cs ((List.range nb).map Slot.bor ++ (ea w).map Slot.dat ++ List.replicate r Slot.un) s (m w))) :
    FxX pr wd K mg bs x st ps (k + 1) (spX mg K cs ea s m) := by
  obtain ⟨f, fd, F, g, b⟩ := T.ex
  refine ⟨f, fd, F, fn_g F S (spX_len hnb hps) (fun cd A oe s0 H vs Q E room gd h => ?_), g, b⟩
  obtain ⟨F1, B, p, w, z, p', us, rfl, hl, nd, hF, hB, bo, ru, hm, q, q2⟩ := h
  have hl : B.length = nb := hl.trans (hnb p)
  refine ⟨_, hb f cd A oe s0 H E room gd (takes_of rfl rfl rfl rfl) w, H, F1, B, F1, p, z, p', ?_, hm, fun r e v H' F' S' r2 => q r e v H' F' S'.stp S'.bor r2, fun y e cls d H' F' S' hmg => q2 y e cls d H' F' S'.stp S'.bor hmg⟩
  rw [← hl]
  exact start_sr hF hB nd bo ru (by rw [hl]; exact hN w)
theorem fx_NX {ea : W → List PyData} {m : W → M P (W2 ⊕ Str)} {Γ' : W → W2 → List Slot} (nb r : Nat) (T : At K mg x st ps) (S : FnScope N ps (defScope st)) (hnb : ∀ p, (cs p).length = nb) (hps : ∀ w, nb + (ea w).length = ps.length) (hN : ∀ w, nb + (ea w).length + r = N.length)
    (hb : ∀ (f : Addr) (cd : Value) (A : Around) (oe : List Env) (s0 : Shared) (H : Hp) (E : XK), Room k (A.deeper (envOfC x (defScope st) s0.heap.objs.size f cd)) → A.guards = some [] → Takes (cxOf (L2.CX pr wd) pr wd K mg bs N x (defScope st) f cd A oe s0 H E) (WE' E) → ∀ w,
      PSs (cxOf (L2.CX pr wd) pr wd K mg bs N x (defScope st) f cd A oe s0 H E) (defBody st) (xNX mg (WE' E) K cs ((List.range nb).map Slot.bor ++ (ea w).map Slot.dat ++ List.replicate r Slot.un) (Γ' w) (m w))) :
    FxX pr wd K mg bs x st ps (k + 1) (spX mg K cs ea (dE (α := Unit)) fun w => thX (m w) fun _ => rt (.inl ())) := by
  obtain ⟨f, fd, F, g, b⟩ := T.ex
  refine ⟨f, fd, F, fn_g F S (spX_len hnb hps) (fun cd A oe s0 H vs Q E room gd h => ?_), g, b⟩
  obtain ⟨F1, B, p, w, z, p', us, rfl, hl, nd, hF, hB, bo, ru, hm, q, q2⟩ := h
  have hl : B.length = nb := hl.trans (hnb p)
  obtain ⟨y, p1, e1, hm⟩ := bd_some hm
  refine ⟨_, hb f cd A oe s0 H E room gd (takes_of rfl rfl rfl rfl) w, H, F1, B, F1, p, y, p1, ?_, e1, fun r e σ' H' F' S' _ => ?_, fun z e cls d σ' H' F' _ S' hmg => ?_⟩
  · rw [← hl]
    exact start_sr hF hB nd bo ru (by rw [hl]; exact hN w)
  · subst e
    obtain ⟨rfl, rfl⟩ := rt_some hm
    exact q () rfl _ H' F' S'.stp S'.bor .non
  · subst e
    obtain ⟨rfl, rfl⟩ := rt_some hm
    exact q2 z rfl cls d H' F' S'.stp S'.bor hmg
theorem FxX.pure {ea : W → List PyData} {s : R → Slot} {m : W → M Unit (R ⊕ Str)} (h : FxX pr wd K mg bs x st ps k (spX mg K cs0 ea s m)) (g : W → Option (R ⊕ Str)) (hg : ∀ w, g w = run (m w)) : FxX pr wd K mg bs x st ps k (spXF mg K ea s g) := by
  have e : (fun w => ofO (g w)) = m := by
    funext w
    rw [hg, ofO_run]
  show FxX pr wd K mg bs x st ps k (spX mg K cs0 ea s fun w => ofO (g w))
  rw [e]
  exact h
/-- where it does not raise -/
def noX (o : Option (R ⊕ Str)) : Option R := match o with
  | some (.inl r) => some r
  | _ => none
theorem FxX.calm {ea : W → List PyData} {s : R → Slot} {g : W → Option (R ⊕ Str)} (h : FxX pr wd K mg bs x st ps k (spXF mg K ea s g)) : Fx pr wd K mg bs x st ps k (spF K ea s fun w => noX (g w)) := by
  obtain ⟨f, fd, F, G, g1, b⟩ := h.ex
  have key : ∀ {vs H Q E}, spF K ea s (fun w => noX (g w)) vs H Q E → spXF mg K ea s g vs H Q (fun _ _ _ => False) := fun {vs H Q E} h => by
    obtain ⟨F1, B, p, w, z, p', us, e, hl, nd, hF, hB, bo, ru, hm, q⟩ := h
    have hm : ofO (noX (g w)) p = some (z, p') := hm
    obtain ⟨hm, rfl⟩ := ofO_some hm
    have hg : g w = some (.inl z) := by
      unfold noX at hm
      cases e : g w with
      | none => rw [e] at hm; cases hm
      | some y => cases y with
        | inl r => rw [e] at hm; cases hm; rfl
        | inr r => rw [e] at hm; cases hm
    exact ⟨F1, B, p, w, .inl z, _, us, e, hl, nd, hF, hB, bo, ru, by show ofO (g w) p = _; rw [hg]; rfl, fun r e => (by cases e; exact q), fun x e => (by cases e)⟩
  refine ⟨f, fd, F, ⟨fun vs H Q E q => G.len vs H Q _ (key q), fun A oe s0 H ar us vs Q E room gd e0 bi va q => ?_⟩, g1, b⟩
  refine codeAny_mono (G.run A oe s0 H ar us vs Q (fun _ _ _ => False) room gd e0 bi va (key q)) fun r s' z => ?_
  match r, z with
  | .error e, z => obtain ⟨_, _, _, _, _, _, _, _, _, _, _, _, w⟩ := z; exact w.elim
  | .ok (.ret u), z => exact z
  | .ok .next, z => exact z.elim
  | .ok .brk, z => exact z.elim
  | .ok .cont, z => exact z.elim
end
section
variable {P α β γ W W' W2 R : Type} {cs : P → List (List Int)} {Γ : List Slot}
variable {X : Cx} {a b d e : Expr} {es rest : List Expr} {p pos apos cpos p2 : Pos} {x y : Str} {st : Stmt} {ps : List Str} {k : Nat} {Wx : WX}
theorem f_callX {s : β → Slot} {ss : W → List Slot} {ea : W → List PyData} {g : W → Option (β ⊕ Str)} {m : M P W} (T : FxX X.prog X.w X.K X.mg X.base x st ps k (spXF X.mg X.K ea s g)) (tk : Takes X Wx) (room : Room k X.A) (gd : X.A.guards = some []) (glob : Gl X x) (ha : PA X (e :: es) (xA X.K cs Γ ss m)) (hss : ∀ w, ss w = (ea w).map Slot.dat := by intro _; rfl)
    (nodbg : (x == ("__debug__" : Str)) = false := by decide) (st1 : starEach (e :: es) X.env = (false, eval e X.env) :: starEach es X.env := by rfl) (st2 : (backTo pos (starEach es X.env)).any (·.1) = false := by rfl) :
    PE X (.Call (.Name x p) (e :: es) [] pos) (xVX X.mg Wx X.K cs Γ s (bd m fun w => ofO (g w))) := by
  obtain ⟨f, fd, F, G, at_, b⟩ := T.ex
  exact x_callX G room gd glob at_ F.kp b tk ha hss nodbg st1 st2
end
end XL

/-! XLE: two pots of the law's own become borrowed cells. -/
namespace XL
open PySem PySem.Spec L2
open PyProof.Rows hiding St
open Enc (enc)
abbrev Pot2 := Pot × Pot
abbrev csQ : Pot2 → List (List Int) := fun q => [[q.1.1, q.1.2], [q.2.1, q.2.2]]
def Slot.calm : Slot → Bool
  | .un => true
  | .dat _ => true
  | _ => false
def reb {Q P R : Type} (q : Q) (m : M Q R) : M P R := fun p => match m q with
  | none => none
  | some (r, _) => some (r, p)
section
variable {W R : Type} {Γ : List Slot} {X : Cx} {sts : List Stmt}
theorem calm_get {Γ : List Slot} {i j k : Nat} {s : Slot} (h : (((Γ.set i .un).set j .un).all Slot.calm) = true) (hk : Γ[k]? = some s) (hi : k ≠ i) (hj : k ≠ j) : s = .un ∨ ∃ d, s = .dat d := by
  have e : ((Γ.set i .un).set j .un)[k]? = some s := by rw [List.getElem?_set_ne (Ne.symm hj), List.getElem?_set_ne (Ne.symm hi), hk]
  have q := List.all_eq_true.mp h s (List.mem_of_getElem? e)
  cases s with
  | un => exact .inl rfl
  | dat d => exact .inr ⟨d, rfl⟩
  | own ds => cases q
  | bor b => cases q
theorem b_rebase2 (i j : Nat) {q1 q2 : Pot} {s : R → Slot} {m : M Pot2 R} (hi : Γ[i]? = some (.own [.int q1.1, .int q1.2])) (hj : Γ[j]? = some (.own [.int q2.1, .int q2.2])) (hij : i ≠ j) (hno : (((Γ.set i .un).set j .un).all Slot.calm) = true)
    (h : PSs X sts (xR X.K csQ ((Γ.set i (.bor 0)).set j (.bor 1)) s m)) : PSs X sts (xR X.K cs0 Γ s (reb (q1, q2) m)) :=
  pss_imp h fun D σ H ⟨H0, F0, B, F, p, r, p', S, hm, q⟩ => by
    obtain ⟨a1, v1, e1, h1, r1, f1, n1⟩ := S.slot i _ hi
    obtain ⟨a2, v2, e2, h2, r2, f2, n2⟩ := S.slot j _ hj
    have r1 : Reps X.K F H v1 (([q1.1, q1.2] : List Int).map PyData.int) := r1
    have r2 : Reps X.K F H v2 (([q2.1, q2.2] : List Int).map PyData.int) := r2
    have w1 := r1.to_ints
    have w2 := r2.to_ints
    subst w1 w2
    have hne : a1 ≠ a2 := fun z => hij (S.dis i j _ _ a1 hi hj e1 (z ▸ e2))
    have hB : B = [] := by
      cases B with
      | nil => rfl
      | cons b B =>
        obtain ⟨ns, e, _⟩ := S.bor 0 b rfl
        simp at e
    subst hB
    have hm' : ∃ q', m (q1, q2) = some (r, q') ∧ p' = p := by
      unfold reb at hm
      cases e : m (q1, q2) with
      | none => rw [e] at hm; cases hm
      | some z =>
        rw [e] at hm
        cases hm
        exact ⟨z.2, rfl, rfl⟩
    obtain ⟨q', hm2, rfl⟩ := hm'
    have li : i < Γ.length := (List.getElem?_eq_some_iff.mp hi).1
    have lj : j < Γ.length := (List.getElem?_eq_some_iff.mp hj).1
    have S2 : SR X.K H F [a1, a2] (csQ (q1, q2)) ((Γ.set i (.bor 0)).set j (.bor 1)) σ H F := by
      refine ⟨Stp.refl S.dom, ?_, ?_, ?_, ?_, ?_, ?_, ?_⟩
      · intro b hb
        rcases List.mem_cons.mp hb with rfl | hb
        · exact f1
        · rcases List.mem_cons.mp hb with rfl | hb
          · exact f2
          · cases hb
      · intro b hb
        rcases List.mem_cons.mp hb with rfl | hb
        · exact ⟨_, h1⟩
        · rcases List.mem_cons.mp hb with rfl | hb
          · exact ⟨_, h2⟩
          · cases hb
      · exact List.nodup_cons.mpr ⟨by simpa using hne, List.nodup_cons.mpr ⟨by simp, List.nodup_nil⟩⟩
      · intro k a e
        match k, e with
        | 0, e => cases e; exact ⟨_, rfl, h1⟩
        | 1, e => cases e; exact ⟨_, rfl, h2⟩
      · intro k s hk
        by_cases kj : k = j
        · subst kj
          rw [List.getElem?_set_self (by rw [List.length_set]; exact lj)] at hk
          cases hk
          exact ⟨a2, e2, rfl⟩
        · rw [List.getElem?_set_ne (Ne.symm kj)] at hk
          by_cases ki : k = i
          · subst ki
            rw [List.getElem?_set_self li] at hk
            cases hk
            exact ⟨a1, e1, rfl⟩
          · rw [List.getElem?_set_ne (Ne.symm ki)] at hk
            have q := S.slot k s hk
            rcases calm_get hno hk ki kj with rfl | ⟨d, rfl⟩
            · trivial
            · exact q
      · intro k l ds es a hk hl
        exfalso
        by_cases kj : k = j
        · subst kj
          rw [List.getElem?_set_self (by rw [List.length_set]; exact lj)] at hk
          cases hk
        · rw [List.getElem?_set_ne (Ne.symm kj)] at hk
          by_cases ki : k = i
          · subst ki
            rw [List.getElem?_set_self li] at hk
            cases hk
          · rw [List.getElem?_set_ne (Ne.symm ki)] at hk
            rcases calm_get hno hk ki kj with z | ⟨d, z⟩
            · cases z
            · cases z
      · rw [List.length_set, List.length_set]
        exact S.len
    refine ⟨H, F, [a1, a2], F, (q1, q2), r, q', S2, hm2, fun v H' F' S3 rv => q v H' F' ?_ (rv.back S.stp)⟩
    have T : Stp F0 F' H0 H' [] := by
      refine ⟨fun b h => S3.stp.mono b (S.stp.mono b h), fun b o h nb => ?_, fun b h => (nomatch h), fun b h => ?_, S3.stp.dom⟩
      · have e := S.stp.same b o h nb
        refine S3.stp.same b o e fun hb => ?_
        rcases List.mem_cons.mp hb with rfl | hb
        · rw [n1] at h; cases h
        · rcases List.mem_cons.mp hb with rfl | hb
          · rw [n2] at h; cases h
          · cases hb
      · rcases S3.stp.new b h with h | h
        · exact S.stp.new b h
        · exact .inr (S.stp.back h)
    exact ⟨T, fun b hb => (nomatch hb), fun b hb => (nomatch hb), .nil, fun j a e => by simp at e, fun k s hk => by simp at hk, fun k l ds es a hk => by simp at hk, rfl⟩
end
end XL

/-! XLF: the end of a law. -/
namespace XL
open PySem PySem.Spec L2
open PyProof.Rows hiding St
open Enc (enc)
theorem at_mk {K : PySem.W.Frag} {h : Heap} {mg : Str → Option Value} {x : Str} {st : Stmt} {ps : List Str} {f : Addr} {od an : Option Addr} {sl : Array (Option Value)} {oc kV dc pm cd ct : Value} (X : K.In h) (G : h.Ns mainGlobals mg)
    (a : PySem.W.nsIn K mainGlobals x = some (some (.ref f))) (l : K.lookup f = some ⟨oc, od, .func (PySem.W.fnOf x x (defArgs st) (defBody st) (defScope st) .none kV dc pm an cd ct), sl⟩) (c : PySem.W.codeIn K cd x = true) (k : PySem.W.keepIn K (.ref f) = true)
    (hb : ∀ (kV doc pm : Value) (an : Option Addr) (cdv ct : Value) (us : List Value), us.length = ps.length → bindArgs (PySem.W.fnOf x x (defArgs st) (defBody st) (defScope st) .none kV doc pm an cdv ct) ⟨us, []⟩ = pure (ps.zip us)) : At K mg x st ps :=
  ⟨f, _, fun_mk l c k, PySem.W.mg_of X G a, (fun_mk l c k).binds hb⟩
theorem fx_end {pr : Program} {wd : World} {K : PySem.W.Frag} {mg : Str → Option Value} {bs : Heap} {x : Str} {st : Stmt} {ps : List Str} {k : Nat} {sp : Sp} {f : Addr} {fd : FuncData} (T : Fx pr wd K mg bs x st ps k sp) (F : Fun K x x st f fd) (g : mg x = some (.ref f)) : FnG pr wd K mg bs CX0 k f fd ps sp := by
  obtain ⟨f', fd', F', G, g', b⟩ := T.ex
  rw [g] at g'
  cases g'
  obtain ⟨oc, od, kv, doc, pm, an, cd, ct, sl, rfl, look, _⟩ := F.ex
  obtain ⟨oc', od', kv', doc', pm', an', cd', ct', sl', rfl, look', _⟩ := F'.ex
  rw [look] at look'
  have e := Option.some.inj look'
  injection e with e1 e2 e3 e4
  injection e3 with e5
  rw [e5]
  exact G
theorem ex_mk {K : PySem.W.Frag} {h : Heap} {mg : Str → Option Value} {x : Str} {C : Addr} (X : K.In h) (G : h.Ns mainGlobals mg) (a : PySem.W.nsIn K mainGlobals x = some (some (.ref C))) (h1 : PySem.W.excIn K C [.type "RuntimeError", .type "Exception", .type "BaseException", .type "object"] "RuntimeError.__new__" = true)
    (h2 : PySem.W.keepIn K (.ref C) = true) (h3 : PySem.W.subIn K (.ref C) (.type "BaseException") = some true) (h4 : PySem.W.typeIn K (.ref C) = some (.type "type")) (h5 : PySem.W.isClsIn K C = true) (h6 : PySem.W.subIn K (.ref C) (.ref C) = some true) : ExA K mg x :=
  ⟨C, PySem.W.mg_of X G a, h1, h2, h3, h4, by
    have h7 : (PySem.W.clsIn K C).isSome = true := h5
    simp [PySem.W.exmOne, PySem.W.kitCls, h3, h4, h6, h7]⟩
theorem law_sp {n : Nat} {m : Scr → Option Bool} (hm : ∀ ns : List Int, ns.length ≤ n → m ⟨ns⟩ = some true) (K : PySem.W.Frag) (H : Hp) (a : Addr) (ns : List Int) (hl : ns.length ≤ n) (_ : Only H) (hs : SqL K H a (ns.map V.int)) :
    spF K (fun w : Scr × Unit => [enc w.1]) dE (fun w => m w.1) [.ref a] H (fun v _ => v = .bl true) fun _ _ _ => False := by
  refine ⟨fun b => b = a ∧ ∃ o, H a = some o, [], (), (⟨ns⟩, ()), true, (), [.ref a], rfl, rfl, .nil, fun b ⟨e, o⟩ => e ▸ o, fun b hb => (nomatch hb), fun j a e => (by simp at e), .cons ?_ .nil, ?_, fun v H' F' _ _ r => Rep.bl_eq r⟩
  · refine .scr (xs := ns.map V.int) ?_ hs Reps.ints
    rcases hs with (h | ⟨o, h⟩) | h
    · exact .inl ⟨rfl, _, h⟩
    · exact .inl ⟨rfl, _, h⟩
    · exact .inr fun H' => .inr h
  · show ofO (m ⟨ns⟩) () = _
    rw [hm ns hl]
    rfl
end XL

/-! XM: what mirrors compute: equations, a small logic of invariants. -/
namespace XL
open PySem PySem.Spec L2
open PyProof.Rows hiding St
open Enc (enc)
section
variable {P P1 α β γ W R : Type}
theorem bd_rt (a : α) (f : α → M P β) : bd (rt a) f = f a := funext fun _ => rfl
theorem bd_bd (m : M P α) (f : α → M P β) (g : β → M P γ) : bd (bd m f) g = bd m fun a => bd (f a) g := by
  funext p
  show (match (match m p with | none => none | some (a, q) => f a q) with | none => none | some (b, q) => g b q) = _
  unfold bd
  cases m p with
  | none => rfl
  | some x => rfl
theorem bd_some' (a : α) (f : α → M P β) : bd (ofO (some a)) f = f a := funext fun _ => rfl
theorem ofO_some' (a : α) : (ofO (some a) : M P α) = rt a := funext fun _ => rfl
theorem grd_true (m : M P α) : grd true m = m := if_pos (Eq.trans rfl rfl)
theorem bd_grd (c : Bool) (m : M P α) (f : α → M P β) : bd (grd c m) f = grd c (bd m f) := by
  cases c <;> rfl
theorem grd_dec {p : Prop} [Decidable p] (h : p) (m : M P α) : grd (decide p) m = m := by rw [decide_eq_true h]; rfl
theorem bd_ite (c : Bool) (m1 m2 : M P α) (f : α → M P β) : bd (if c = true then m1 else m2) f = if c = true then bd m1 f else bd m2 f := by
  cases c <;> rfl
theorem run_rt (a : α) : run (rt a) = some a := rfl
theorem yes1_eq (a : α) : yes1 a = true := Eq.trans rfl rfl
theorem yes2_eq (a : α) (b : β) : yes2 a b = true := Eq.trans rfl rfl
theorem run_ite (c : Prop) [Decidable c] (m1 m2 : M Unit α) : run (if c then m1 else m2) = if c then run m1 else run m2 := by
  split <;> rfl
theorem okMul_l {i j : Int} (h : i.natAbs < 18446744073709551616) : okMul i j = true := by unfold okMul; rw [decide_eq_true h]; rfl
theorem okMul_r {i j : Int} (h : j.natAbs < 18446744073709551616) : okMul i j = true := by unfold okMul; rw [decide_eq_true h, Bool.or_true]
theorem okDiv_of {i j : Int} (h : 0 < j) (h2 : j < 1073741824) : okDiv i j = true := by unfold okDiv; rw [decide_eq_true h, decide_eq_true h2]; rfl
theorem okMod_of {i j : Int} (h : 0 < j) : okMod i j = true := decide_eq_true h
theorem okLen_of {n : Nat} (h : n < 16777216) : okLen n = true := decide_eq_true h
/-- m answers, keeps I and its answer is Q -/
def Ok (I : P → Prop) (m : M P α) (Q : α → Prop) : Prop := ∀ p, I p → ∃ a q, m p = some (a, q) ∧ I q ∧ Q a
variable {I : P → Prop} {m : M P α} {Q Q' : α → Prop} {S : β → Prop}
theorem Ok.rt {a : α} (h : Q a) : Ok I (rt a) Q := fun p hp => ⟨a, p, rfl, hp, h⟩
theorem Ok.bd {f : α → M P β} (h : Ok I m Q) (g : ∀ a, Q a → Ok I (f a) S) : Ok I (bd m f) S := fun p hp => by
  obtain ⟨a, q, e, hq, ha⟩ := h p hp
  obtain ⟨b, r, e2, hr, hb⟩ := g a ha q hq
  exact ⟨b, r, by rw [bd_eq e]; exact e2, hr, hb⟩
theorem Ok.imp (h : Ok I m Q) (g : ∀ a, Q a → Q' a) : Ok I m Q' := fun p hp => by
  obtain ⟨a, q, e, hq, ha⟩ := h p hp
  exact ⟨a, q, e, hq, g a ha⟩
theorem Ok.grd {c : Bool} (hc : c = true) (h : Ok I m Q) : Ok I (grd c m) Q := by rw [hc]; exact h
theorem Ok.ofO {o : Option α} {a : α} (e : o = some a) (h : Q a) : Ok I (ofO o) Q := by rw [e]; exact Ok.rt h
theorem Ok.ite {c : Prop} [Decidable c] {m1 m2 : M P α} (h1 : c → Ok I m1 Q) (h2 : ¬ c → Ok I m2 Q) : Ok I (if c then m1 else m2) Q := by
  split
  · exact h1 ‹_›
  · exact h2 ‹_›
theorem Ok.gets {f : P → α} (h : ∀ p, I p → Q (f p)) : Ok I (gets f) Q := fun p hp => ⟨f p, p, rfl, hp, h p hp⟩
theorem Ok.puts {f : P → P} (h : ∀ p, I p → I (f p)) : Ok I (puts f) fun _ => True := fun p hp => ⟨(), f p, rfl, h p hp, trivial⟩
theorem Ok.via {I1 : P1 → Prop} {get : P → P1} {set : P → P1 → P} {m : M P1 α} (h : Ok I1 m Q) (hg : ∀ p, I p → I1 (get p)) (hs : ∀ p q, I p → I1 q → I (set p q)) : Ok I (viaL get set m) Q := fun p hp => by
  obtain ⟨a, q, e, hq, ha⟩ := h (get p) (hg p hp)
  exact ⟨a, set p q, by unfold viaL; rw [e], hs p q hp hq, ha⟩
theorem Ok.reb {I2 : β → Prop} {q : β} {m : M β α} (h : Ok I2 m Q) (hq : I2 q) : Ok I (reb q m) Q := fun p hp => by
  obtain ⟨a, r, e, _, ha⟩ := h q hq
  exact ⟨a, p, by unfold XL.reb; rw [e], hp, ha⟩
theorem Ok.run {m : M Unit α} {v : α} (h : Ok (fun _ => True) m (fun a => a = v)) : run m = some v := by
  obtain ⟨a, q, e, _, rfl⟩ := h () trivial
  unfold XL.run
  rw [e]
theorem Ok.run' {m : M Unit α} (h : Ok (fun _ => True) m Q) : ∃ v, XL.run m = some v ∧ Q v := by
  obtain ⟨a, q, e, _, ha⟩ := h () trivial
  exact ⟨a, by unfold XL.run; rw [e], ha⟩
theorem Ok.of_run {m : M Unit α} {v : α} (h : XL.run m = some v) : Ok (fun _ => True) m (fun a => a = v) := fun p _ => ⟨v, (), run_some h, trivial, rfl⟩
theorem Ok.map {f : α → M P β} {J : α → β → Prop} : ∀ {l : List α}, (∀ a ∈ l, Ok I (f a) (J a)) → Ok I (mapMM f l) (fun r : List β => r.length = l.length ∧ ∀ (i : Nat) (a : α) (b : β), l[i]? = some a → r[i]? = some b → J a b)
  | [], _ => Ok.rt ⟨rfl, fun i a b h => by simp at h⟩
  | a :: l, h => Ok.bd (h a List.mem_cons_self) fun b hb => Ok.bd (Ok.map fun x hx => h x (List.mem_cons_of_mem _ hx)) fun r hr => Ok.rt ⟨by rw [List.length_cons, List.length_cons, hr.1], fun i x y hx hy => by
    cases i with
    | zero => cases hx; cases hy; exact hb
    | succ i => exact hr.2 i x y hx hy⟩
/-- .. all of it -/
theorem Ok.mapAll {f : α → M P β} {J : β → Prop} {l : List α} (h : ∀ a ∈ l, Ok I (f a) J) : Ok I (mapMM f l) (fun r => ∀ b ∈ r, J b) :=
  (Ok.map (J := fun _ => J) h).imp fun r hr b hb => by
    obtain ⟨i, hi, e⟩ := List.getElem_of_mem hb
    have hi2 : i < l.length := hr.1 ▸ hi
    exact hr.2 i l[i] b (List.getElem?_eq_getElem hi2) (by rw [List.getElem?_eq_getElem hi, e])
theorem map_eq {f : α → M P β} {g : α → β} {l : List α} (h : ∀ a ∈ l, f a = XL.rt (g a)) : mapMM f l = XL.rt (l.map g) := by
  induction l with
  | nil => rfl
  | cons a l ih =>
    show XL.bd (f a) _ = _
    rw [h a List.mem_cons_self, ih fun x hx => h x (List.mem_cons_of_mem _ hx)]
    rfl
theorem fil_eq {c : α → M P Bool} {f : α → M P β} {t : α → Bool} {g : α → β} {l : List α} (hc : ∀ a ∈ l, c a = XL.rt (t a)) (h : ∀ a ∈ l, t a = true → f a = XL.rt (g a)) : filMM c f l = XL.rt ((l.filter t).map g) := by
  induction l with
  | nil => rfl
  | cons a l ih =>
    show XL.bd (c a) _ = _
    rw [hc a List.mem_cons_self, bd_rt]
    have ih := ih (fun x hx => hc x (List.mem_cons_of_mem _ hx)) fun x hx => h x (List.mem_cons_of_mem _ hx)
    by_cases ht : t a = true
    · rw [if_pos ht, h a List.mem_cons_self ht, bd_rt, ih, List.filter_cons_of_pos ht]
      rfl
    · rw [if_neg ht, ih, List.filter_cons_of_neg ht]
/-- while: a test and a body that are known under J -/
theorem while_eq {c : W → M P Bool} {b : W → M P W} (J : W → Prop) (t : W → Bool) (s : W → W) (μ : W → Nat) (hc : ∀ w, J w → c w = XL.rt (t w)) (hb : ∀ w, J w → t w = true → b w = XL.rt (s w)) (hJ : ∀ w, J w → t w = true → J (s w) ∧ μ (s w) < μ w) :
    ∀ w, J w → μ w < fuel → ∃ w', J w' ∧ t w' = false ∧ whileM c b w = XL.rt w' := by
  have go : ∀ (n : Nat) (w : W), J w → μ w < n → ∃ w', J w' ∧ t w' = false ∧ whileN c b n w = XL.rt w' := by
    intro n
    induction n with
    | zero => intro w _ h; exact absurd h (Nat.not_lt_zero _)
    | succ n ih =>
      intro w hw hn
      show ∃ w', J w' ∧ t w' = false ∧ XL.bd (c w) _ = _
      rw [hc w hw, bd_rt]
      by_cases ht : t w = true
      · rw [if_pos ht, hb w hw ht, bd_rt]
        obtain ⟨j, m⟩ := hJ w hw ht
        exact ih (s w) j (by omega)
      · rw [if_neg ht]
        exact ⟨w, hw, by simpa using ht, rfl⟩
  exact fun w hw hn => go fuel w hw hn
/-- while with an invariant of the pot -/
theorem Ok.while {c : W → M P Bool} {b : W → M P W} (J : W → Prop) (t : W → Bool) (μ : W → Nat) (hc : ∀ w, J w → Ok I (c w) (fun x => x = t w)) (hb : ∀ w, J w → t w = true → Ok I (b w) (fun w' => J w' ∧ μ w' < μ w)) {w : W} (hw : J w) (hm : μ w < fuel) :
    Ok I (whileM c b w) (fun w' => J w' ∧ t w' = false) := by
  have go : ∀ (n : Nat) (w : W), J w → μ w < n → Ok I (whileN c b n w) (fun w' => J w' ∧ t w' = false) := by
    intro n
    induction n with
    | zero => intro w _ h; exact absurd h (Nat.not_lt_zero _)
    | succ n ih =>
      intro w hw hn
      refine Ok.bd (hc w hw) fun x hx => ?_
      subst hx
      by_cases ht : t w = true
      · rw [if_pos ht]
        exact Ok.bd (hb w hw ht) fun w' h' => ih w' h'.1 (by omega)
      · rw [if_neg ht]
        exact Ok.rt ⟨hw, by simpa using ht⟩
  exact go fuel w hw hm
theorem for_eq {b : α → W → M P W} {s : α → W → W} : ∀ {l : List α} {w : W} (J : W → Prop), J w → (∀ a ∈ l, ∀ w, J w → b a w = XL.rt (s a w) ∧ J (s a w)) → forM b l w = XL.rt (l.foldl (fun w a => s a w) w) ∧ J (l.foldl (fun w a => s a w) w)
  | [], w, J, hw, _ => ⟨rfl, hw⟩
  | a :: l, w, J, hw, h => by
    obtain ⟨e, j⟩ := h a List.mem_cons_self w hw
    show XL.bd (b a w) _ = _ ∧ _
    rw [e, bd_rt]
    exact for_eq J j fun x hx => h x (List.mem_cons_of_mem _ hx)
/-- a walk that looks for the first -/
theorem forB_find {b : α → Unit → M P (Unit ⊕ R)} {t : α → Bool} {r : α → R} : ∀ {l : List α}, (∀ a ∈ l, b a () = XL.rt (if t a = true then .inr (r a) else .inl ())) → forB b l () = XL.rt (match l.find? t with | some a => .inr (r a) | none => .inl ())
  | [], _ => rfl
  | a :: l, h => by
    show XL.bd (b a ()) _ = _
    rw [h a List.mem_cons_self, bd_rt]
    by_cases ht : t a = true
    · rw [if_pos ht, List.find?_cons_of_pos ht]
    · rw [if_neg ht, List.find?_cons_of_neg ht]
      exact forB_find fun x hx => h x (List.mem_cons_of_mem _ hx)
end
theorem upto_eq (lo : Int) : ∀ n : Nat, upto lo n = (List.range n).map fun i : Nat => lo + (i : Int) := by
  intro n
  apply List.ext_getElem?
  intro i
  rw [upto_get, List.getElem?_map]
  by_cases h : i < n
  · rw [if_pos h, List.getElem?_range h]; rfl
  · rw [if_neg h, List.getElem?_eq_none (by simpa using h)]; rfl
theorem uptoC_eq (lo c : Int) : ∀ n : Nat, uptoC lo c n = (List.range n).map fun i : Nat => lo + (i : Int) * c := by
  intro n
  apply List.ext_getElem?
  intro i
  rw [uptoC_get, List.getElem?_map]
  by_cases h : i < n
  · rw [if_pos h, List.getElem?_range h]; rfl
  · rw [if_neg h, List.getElem?_eq_none (by simpa using h)]; rfl
theorem rng2_eq {P : Type} {i j : Int} (h1 : okI62 i = true) (h2 : okI62 j = true) : (rng2 i j : M P (List Int)) = rt ((List.range (j - i).toNat).map fun k : Nat => i + (k : Int)) := by
  unfold rng2; rw [h1, h2, upto_eq]; rfl
theorem okI62_of' {i : Int} (h : -4611686018427387904 ≤ i) (h2 : i < 4611686018427387904) : okI62 i = true := by unfold okI62; rw [decide_eq_true h, decide_eq_true h2]; rfl
theorem atI_nat' {α : Type} {xs : List α} {i : Nat} (h : i < xs.length) : atI xs (i : Int) = some xs[i] := by
  exact atI_nat (List.getElem?_eq_getElem h)
theorem okShow_of {d : PyData} (h1 : d.canLay0 = true) (h2 : d.showable = true) (h3 : d.depth ≤ 60) (h4 : d.shown.length ≤ 16777216) : okShow d = true := by
  unfold okShow
  rw [h1, h2, decide_eq_true h3, decide_eq_true h4]; rfl
end XL

/-! XN: plain number theory over Nat: primes, factor lists. -/
namespace XL
def Pr (p : Nat) : Prop := 2 ≤ p ∧ ∀ d, d ∣ p → d = 1 ∨ d = p
theorem Pr.euclid {p a b : Nat} (h : Pr p) (hd : p ∣ a * b) : p ∣ a ∨ p ∣ b := by
  rcases h.2 (Nat.gcd p a) (Nat.gcd_dvd_left p a) with e | e
  · exact .inr (Nat.Coprime.dvd_of_dvd_mul_left e hd)
  · exact .inl (e ▸ Nat.gcd_dvd_right p a)
theorem Pr.of_pow {p a : Nat} (h : Pr p) : ∀ {k : Nat}, p ∣ a ^ k → p ∣ a
  | 0, hd => by
    have := Nat.le_of_dvd (by simp) hd
    have := h.1
    simp at *
    omega
  | k + 1, hd => by
    rw [Nat.pow_succ] at hd
    rcases h.euclid hd with q | q
    · exact Pr.of_pow h q
    · exact q
theorem Pr.eq_of_dvd {p q : Nat} (hp : Pr p) (hq : Pr q) (h : p ∣ q) : p = q := by
  rcases hq.2 p h with e | e
  · have := hp.1; omega
  · exact e
/-- no divisor from 2 below d -/
def ND (d n : Nat) : Prop := ∀ e, 2 ≤ e → e < d → ¬ e ∣ n
theorem ND.mono {d n m : Nat} (h : ND d n) (hd : m ∣ n) : ND d m := fun e h1 h2 q => h e h1 h2 (Nat.dvd_trans q hd)
theorem ND.succ {d n : Nat} (h : ND d n) (hd : ¬ d ∣ n) : ND (d + 1) n := fun e h1 h2 q => by
  by_cases he : e = d
  · exact hd (he ▸ q)
  · exact h e h1 (by omega) q
theorem nd_two (n : Nat) : ND 2 n := fun e h1 h2 => by omega
theorem pr_div {d n : Nat} (h2 : 2 ≤ d) (h : ND d n) (hd : d ∣ n) : Pr d := by
  refine ⟨h2, fun e he => ?_⟩
  by_cases h1 : e = 1
  · exact .inl h1
  · right
    have e0 : 0 < e := Nat.pos_of_dvd_of_pos he (by omega)
    have le := Nat.le_of_dvd (by omega) he
    by_cases h3 : e = d
    · exact h3
    · exact absurd (Nat.dvd_trans he hd) (h e (by omega) (by omega))
theorem pr_left {d n : Nat} (hn : 1 < n) (h : ND d n) (hd : n < d * d) : Pr n := by
  refine ⟨hn, fun e he => ?_⟩
  by_cases h1 : e = 1
  · exact .inl h1
  right
  by_cases h3 : e = n
  · exact h3
  exfalso
  obtain ⟨k, rfl⟩ := he
  have e0 : e ≠ 0 := fun z => by rw [z] at hn; simp at hn
  have k0 : k ≠ 0 := fun z => by rw [z] at hn; simp at hn
  have k1 : k ≠ 1 := fun z => h3 (by rw [z]; simp)
  have he2 : ¬ e < d := fun z => h e (by omega) z ⟨k, rfl⟩
  have hk2 : ¬ k < d := fun z => h k (by omega) z ⟨e, Nat.mul_comm _ _⟩
  have := Nat.mul_le_mul (Nat.le_of_not_lt he2) (Nat.le_of_not_lt hk2)
  omega
theorem ex_pr {n : Nat} (hn : 2 ≤ n) : ∃ p, Pr p ∧ p ∣ n := by
  have go : ∀ k d, d + k = n → 2 ≤ d → ND d n → ∃ p, Pr p ∧ p ∣ n := by
    intro k
    induction k with
    | zero =>
      intro d e h2 h
      have : d = n := by omega
      subst this
      exact ⟨d, pr_div h2 h (Nat.dvd_refl d), Nat.dvd_refl d⟩
    | succ k ih =>
      intro d e h2 h
      by_cases hd : d ∣ n
      · exact ⟨d, pr_div h2 h hd, hd⟩
      · exact ih (d + 1) (by omega) (by omega) (h.succ hd)
  exact go (n - 2) 2 (by omega) (by omega) (nd_two n)
/-! ### a checker -/
def ndB : Nat → Nat → Nat → Bool
  | 0, _, _ => false
  | f + 1, d, n => if n < d * d then true else if n % d = 0 then false else ndB f (d + 1) n
def prB (n : Nat) : Bool := decide (2 ≤ n) && ndB n 2 n
theorem ndB_true : ∀ {f d n : Nat}, 2 ≤ d → 1 < n → ND d n → ndB f d n = true → Pr n
  | 0, _, _, _, _, _, h => by cases h
  | f + 1, d, n, h2, hn, nd, h => by
    unfold ndB at h
    by_cases h1 : n < d * d
    · exact pr_left hn nd h1
    · rw [if_neg h1] at h
      by_cases h3 : n % d = 0
      · rw [if_pos h3] at h; cases h
      · rw [if_neg h3] at h
        exact ndB_true (by omega) hn (nd.succ fun q => h3 (Nat.mod_eq_zero_of_dvd q)) h
theorem ndB_false : ∀ {f d n : Nat}, 2 ≤ d → d ≤ n → n < d + f → ndB f d n = false → ¬ Pr n
  | 0, d, n, h2, hd, hf, h, hp => by omega
  | f + 1, d, n, h2, hd, hf, h, hp => by
    unfold ndB at h
    by_cases h1 : n < d * d
    · rw [if_pos h1] at h; cases h
    · rw [if_neg h1] at h
      have h4 : d * 2 ≤ d * d := Nat.mul_le_mul_left d h2
      by_cases h3 : n % d = 0
      · rcases hp.2 d (Nat.dvd_of_mod_eq_zero h3) with e | e
        · omega
        · subst e
          omega
      · rw [if_neg h3] at h
        exact ndB_false (by omega) (by omega) (by omega) h hp
theorem prB_iff {n : Nat} : prB n = true ↔ Pr n := by
  unfold prB
  by_cases h2 : 2 ≤ n
  · rw [decide_eq_true h2, Bool.true_and]
    constructor
    · exact ndB_true (Nat.le_refl 2) h2 (nd_two n)
    · intro hp
      cases e : ndB n 2 n with
      | true => rfl
      | false => exact absurd hp (ndB_false (Nat.le_refl 2) h2 (by omega) e)
  · rw [decide_eq_false h2, Bool.false_and]
    exact ⟨fun h => (nomatch h), fun h => absurd h.1 h2⟩
theorem prB_false {n : Nat} : prB n = false ↔ ¬ Pr n := by
  rw [← prB_iff]; simp
/-! ### factor lists -/
def pp : List (Nat × Nat) → Nat
  | [] => 1
  | x :: l => x.1 ^ x.2 * pp l
theorem pp_app : ∀ (l k : List (Nat × Nat)), pp (l ++ k) = pp l * pp k
  | [], k => by simp [pp]
  | x :: l, k => by simp only [List.cons_append, pp, pp_app l k, Nat.mul_assoc]
structure Parts (n : Nat) (l : List (Nat × Nat)) : Prop where
  pr : ∀ x ∈ l, Pr x.1 ∧ 1 ≤ x.2
  sorted : l.Pairwise fun x y => x.1 < y.1
  prod : pp l = n
theorem pp_dvd : ∀ {l : List (Nat × Nat)} {x : Nat × Nat}, x ∈ l → x.1 ^ x.2 ∣ pp l
  | y :: l, x, h => by
    rcases List.mem_cons.mp h with rfl | h
    · exact ⟨pp l, rfl⟩
    · exact Nat.dvd_trans (pp_dvd h) ⟨y.1 ^ y.2, Nat.mul_comm _ _⟩
theorem pp_pr : ∀ {l : List (Nat × Nat)} {p : Nat}, Pr p → (∀ x ∈ l, Pr x.1) → p ∣ pp l → ∃ x ∈ l, x.1 = p
  | [], p, hp, _, h => by
    have := Nat.le_of_dvd (by simp [pp]) h
    have := hp.1
    simp [pp] at *
    omega
  | y :: l, p, hp, hl, h => by
    rcases hp.euclid h with q | q
    · exact ⟨y, List.mem_cons_self, (hp.eq_of_dvd (hl y List.mem_cons_self) (hp.of_pow q)).symm⟩
    · obtain ⟨x, hx, e⟩ := pp_pr hp (fun z hz => hl z (List.mem_cons_of_mem _ hz)) q
      exact ⟨x, List.mem_cons_of_mem _ hx, e⟩
/-- p's own power and no more -/
theorem pp_exact : ∀ {l : List (Nat × Nat)} {x : Nat × Nat}, (∀ y ∈ l, Pr y.1) → l.Pairwise (fun x y => x.1 < y.1) → x ∈ l → ∃ m, pp l = x.1 ^ x.2 * m ∧ ¬ x.1 ∣ m
  | y :: l, x, hl, hs, hx => by
    have hs' := List.pairwise_cons.mp hs
    have hl' : ∀ z ∈ l, Pr z.1 := fun z hz => hl z (List.mem_cons_of_mem _ hz)
    rcases List.mem_cons.mp hx with rfl | hx
    · refine ⟨pp l, rfl, fun hd => ?_⟩
      obtain ⟨z, hz, e⟩ := pp_pr (hl x List.mem_cons_self) hl' hd
      have := hs'.1 z hz
      omega
    · obtain ⟨m, e, nd⟩ := pp_exact hl' hs'.2 hx
      refine ⟨y.1 ^ y.2 * m, by rw [pp, e]; exact Nat.mul_left_comm _ _ _, fun hd => ?_⟩
      have px := hl' x hx
      rcases px.euclid hd with q | q
      · have := px.eq_of_dvd (hl y List.mem_cons_self) (px.of_pow q)
        have := hs'.1 x hx
        omega
      · exact nd q
section
variable {n : Nat} {l : List (Nat × Nat)}
theorem Parts.pos (h : Parts n l) : 0 < n := by
  rw [← h.prod]
  have go : ∀ l : List (Nat × Nat), (∀ x ∈ l, Pr x.1 ∧ 1 ≤ x.2) → 0 < pp l := by
    intro l
    induction l with
    | nil => intro _; exact Nat.one_pos
    | cons x l ih =>
      intro h
      have hx := (h x List.mem_cons_self).1.1
      exact Nat.mul_pos (Nat.pow_pos (by omega)) (ih fun y hy => h y (List.mem_cons_of_mem _ hy))
  exact go l h.pr
theorem Parts.dvd (h : Parts n l) {x : Nat × Nat} (hx : x ∈ l) : x.1 ∣ n := by
  rw [← h.prod]
  refine Nat.dvd_trans ?_ (pp_dvd hx)
  obtain ⟨k, hk⟩ : ∃ k, x.2 = k + 1 := ⟨x.2 - 1, by have := (h.pr x hx).2; omega⟩
  rw [hk, Nat.pow_succ]
  exact ⟨x.1 ^ k, Nat.mul_comm _ _⟩
theorem Parts.mem (h : Parts n l) {p : Nat} (hp : Pr p) (hd : p ∣ n) : ∃ x ∈ l, x.1 = p := pp_pr hp (fun x hx => (h.pr x hx).1) (h.prod ▸ hd)
theorem Parts.sq (h : Parts n l) {x : Nat × Nat} (hx : x ∈ l) : 1 < x.2 ↔ x.1 * x.1 ∣ n := by
  obtain ⟨m, e, nd⟩ := pp_exact (fun y hy => (h.pr y hy).1) h.sorted hx
  rw [h.prod] at e
  have p2 := (h.pr x hx).1.1
  have p1 := (h.pr x hx).2
  constructor
  · intro hk
    obtain ⟨k, hk⟩ : ∃ k, x.2 = k + 2 := ⟨x.2 - 2, by omega⟩
    rw [e, hk]
    exact ⟨x.1 ^ k * m, by rw [Nat.pow_add, Nat.pow_two]; simp only [Nat.mul_assoc, Nat.mul_comm, Nat.mul_left_comm]⟩
  · intro hd
    by_cases hk : 1 < x.2
    · exact hk
    · exfalso
      have e1 : x.2 = 1 := by omega
      rw [e, e1, Nat.pow_one] at hd
      exact nd (Nat.dvd_of_mul_dvd_mul_left (by omega) hd)
theorem Parts.of_prime (h : Parts n l) (hp : Pr n) : l = [(n, 1)] := by
  have one : ∀ x ∈ l, x = (n, 1) := fun x hx => by
    have e := (h.pr x hx).1.eq_of_dvd hp (h.dvd hx)
    have h1 : ¬ 1 < x.2 := fun z => by
      have q := (h.sq hx).mp z
      have le := Nat.le_of_dvd h.pos q
      have h2 := hp.1
      rw [e] at le
      have := Nat.mul_le_mul_left n h2
      omega
    have h2 := (h.pr x hx).2
    exact Prod.ext e (show x.2 = 1 by omega)
  match l, h, one with
  | [], h, _ =>
    have := h.prod
    have := hp.1
    simp [pp] at *
    omega
  | [x], _, one => rw [one x List.mem_cons_self]
  | x :: y :: l, h, one =>
    have hs := (List.pairwise_cons.mp h.sorted).1 y List.mem_cons_self
    rw [one x List.mem_cons_self, one y (List.mem_cons_of_mem _ List.mem_cons_self)] at hs
    exact absurd hs (Nat.lt_irrefl _)
theorem Parts.prime_iff (h : Parts n l) : l = [(n, 1)] ↔ Pr n := ⟨fun e => (h.pr (n, 1) (by rw [e]; exact List.mem_cons_self)).1, h.of_prime⟩
end
/-- the primes of n in their order -/
structure Primes (n : Nat) (l : List Nat) : Prop where
  pr : ∀ p ∈ l, Pr p ∧ p ∣ n
  sorted : l.Pairwise fun x y => x < y
  all : ∀ p, Pr p → p ∣ n → p ∈ l
theorem sorted_eq : ∀ {l k : List Nat}, l.Pairwise (fun x y => x < y) → k.Pairwise (fun x y => x < y) → (∀ x, x ∈ l ↔ x ∈ k) → l = k
  | [], [], _, _, _ => rfl
  | [], y :: k, _, _, h => by simpa using (h y).mpr List.mem_cons_self
  | x :: l, [], _, _, h => by simpa using (h x).mp List.mem_cons_self
  | x :: l, y :: k, hl, hk, h => by
    have h1 := List.pairwise_cons.mp hl
    have h2 := List.pairwise_cons.mp hk
    have e : x = y := by
      rcases List.mem_cons.mp ((h x).mp List.mem_cons_self) with e | q
      · exact e
      · rcases List.mem_cons.mp ((h y).mpr List.mem_cons_self) with e | q2
        · exact e.symm
        · have := h1.1 y q2
          have := h2.1 x q
          omega
    subst e
    rw [sorted_eq h1.2 h2.2 fun z => ?_]
    constructor
    · intro hz
      rcases List.mem_cons.mp ((h z).mp (List.mem_cons_of_mem _ hz)) with rfl | q
      · exact absurd (h1.1 z hz) (Nat.lt_irrefl z)
      · exact q
    · intro hz
      rcases List.mem_cons.mp ((h z).mpr (List.mem_cons_of_mem _ hz)) with rfl | q
      · exact absurd (h2.1 z hz) (Nat.lt_irrefl z)
      · exact q
theorem Parts.primes {n : Nat} {l : List (Nat × Nat)} (h : Parts n l) : Primes n (l.map (·.1)) where
  pr := fun p hp => by
    obtain ⟨x, hx, rfl⟩ := List.mem_map.mp hp
    exact ⟨(h.pr x hx).1, h.dvd hx⟩
  sorted := List.pairwise_map.mpr h.sorted
  all := fun p hp hd => by
    obtain ⟨x, hx, e⟩ := h.mem hp hd
    exact List.mem_map.mpr ⟨x, hx, e⟩
theorem Primes.eq {n : Nat} {l k : List Nat} (h : Primes n l) (g : Primes n k) : l = k :=
  sorted_eq h.sorted g.sorted fun x => ⟨fun hx => g.all x (h.pr x hx).1 (h.pr x hx).2, fun hx => h.all x (g.pr x hx).1 (g.pr x hx).2⟩
theorem Primes.prime_iff {n : Nat} {l : List Nat} (h : Primes n l) (h1 : 1 ≤ n) : (1 < n ∧ l = [n]) ↔ Pr n := by
  constructor
  · rintro ⟨_, e⟩
    exact (h.pr n (by rw [e]; exact List.mem_cons_self)).1
  · intro hp
    refine ⟨hp.1, ?_⟩
    refine sorted_eq h.sorted (by simp) fun x => ?_
    constructor
    · intro hx
      have := h.pr x hx
      rw [this.1.eq_of_dvd hp this.2]
      exact List.mem_cons_self
    · intro hx
      have e : x = n := by simpa using hx
      exact e ▸ h.all n hp (Nat.dvd_refl n)
end XL

/-! XO: factoring by trial division, as mirrors have it. -/
namespace XL
def ci (x : Nat × Nat) : Int × Int := (x.1, x.2)
/-- trial division under way -/
structure Tri (n : Nat) (l : List (Nat × Nat)) (left one : Nat) : Prop where
  pr : ∀ x ∈ l, Pr x.1 ∧ 1 ≤ x.2
  lt : ∀ x ∈ l, x.1 < one
  sorted : l.Pairwise fun x y => x.1 < y.1
  prod : pp l * left = n
  nd : ND one left
  one2 : 2 ≤ one
  le : one ≤ n + 1
  pos : 1 ≤ left
theorem pp_len : ∀ {l : List (Nat × Nat)}, (∀ x ∈ l, Pr x.1 ∧ 1 ≤ x.2) → 2 ^ l.length ≤ pp l
  | [], _ => Nat.le_refl _
  | x :: l, h => by
    have ih := pp_len fun y hy => h y (List.mem_cons_of_mem _ hy)
    have hx := h x List.mem_cons_self
    obtain ⟨k, hk⟩ : ∃ k, x.2 = k + 1 := ⟨x.2 - 1, by omega⟩
    have h2 : 2 ≤ x.1 ^ x.2 := by
      rw [hk, Nat.pow_succ]
      have : 0 < x.1 ^ k := Nat.pow_pos (by have := hx.1.1; omega)
      exact Nat.le_trans hx.1.1 (Nat.le_mul_of_pos_left _ this)
    rw [List.length_cons, Nat.pow_succ, Nat.mul_comm]
    exact Nat.mul_le_mul h2 ih
theorem tri_start {n : Nat} (h : 1 ≤ n) : Tri n [] n 2 := ⟨fun x hx => (nomatch hx), fun x hx => (nomatch hx), .nil, Nat.one_mul n, nd_two n, Nat.le_refl 2, by omega, h⟩
section
variable {n left one : Nat} {l : List (Nat × Nat)}
theorem Tri.left_le (h : Tri n l left one) : left ≤ n := by
  have h1 : 1 ≤ pp l := Nat.le_trans Nat.one_le_two_pow (pp_len h.pr)
  rw [← h.prod]
  exact Nat.le_mul_of_pos_left _ h1
theorem Tri.len (h : Tri n l left one) (hn : n < 2 ^ 59) : l.length < 59 := by
  have h1 := pp_len h.pr
  have h2 : pp l ≤ n := by
    rw [← h.prod]
    exact Nat.le_mul_of_pos_right _ h.pos
  exact (Nat.pow_lt_pow_iff_right (by decide : 1 < 2)).mp (Nat.lt_of_le_of_lt (Nat.le_trans h1 h2) hn)
theorem Tri.one_le (h : Tri n l left one) (hs : one * one ≤ left) : one + 1 ≤ n + 1 ∧ one < n + 1 := by
  have h1 := h.left_le
  have h2 := Nat.mul_le_mul_left one h.one2
  have := h.one2
  omega
theorem Tri.step (h : Tri n l left one) (hs : one * one ≤ left) {k a : Nat} (e : one ^ k * a = left) (ha : 1 ≤ a) (na : ¬ one ∣ a) : Tri n (l ++ if 0 < k then [(one, k)] else []) a (one + 1) := by
  have hb := h.one_le hs
  have da : a ∣ left := ⟨one ^ k, by rw [← e, Nat.mul_comm]⟩
  by_cases hk : 0 < k
  · rw [if_pos hk]
    have hp : Pr one := pr_div h.one2 h.nd (by
      obtain ⟨j, rfl⟩ : ∃ j, k = j + 1 := ⟨k - 1, by omega⟩
      exact ⟨one ^ j * a, by rw [← e, Nat.pow_succ]; simp only [Nat.mul_assoc, Nat.mul_comm, Nat.mul_left_comm]⟩)
    refine ⟨fun x hx => ?_, fun x hx => ?_, ?_, ?_, (h.nd.mono da).succ na, by have := h.one2; omega, hb.1, ha⟩
    · rcases List.mem_append.mp hx with q | q
      · exact h.pr x q
      · have : x = (one, k) := by simpa using q
        subst this
        exact ⟨hp, hk⟩
    · rcases List.mem_append.mp hx with q | q
      · have := h.lt x q; omega
      · have : x = (one, k) := by simpa using q
        subst this
        exact Nat.lt_succ_self _
    · refine List.pairwise_append.mpr ⟨h.sorted, by simp, fun x hx y hy => ?_⟩
      have : y = (one, k) := by simpa using hy
      subst this
      exact h.lt x hx
    · rw [pp_app, ← h.prod, ← e]
      simp only [pp, Nat.mul_one, Nat.mul_assoc]
  · have hk0 : k = 0 := by omega
    subst hk0
    rw [if_neg hk, List.append_nil]
    have e2 : a = left := by simpa using e
    subst e2
    exact ⟨h.pr, fun x hx => by have := h.lt x hx; omega, h.sorted, h.prod, h.nd.succ na, by have := h.one2; omega, hb.1, ha⟩
theorem Tri.done (h : Tri n l left one) (hs : ¬ one * one ≤ left) : Parts n (l ++ if 1 < left then [(left, 1)] else []) := by
  by_cases h1 : 1 < left
  · rw [if_pos h1]
    have hp : Pr left := pr_left h1 h.nd (by omega)
    have hle : one ≤ left := by
      by_cases q : one ≤ left
      · exact q
      · exact absurd (Nat.dvd_refl left) (h.nd left (by omega) (by omega))
    refine ⟨fun x hx => ?_, ?_, ?_⟩
    · rcases List.mem_append.mp hx with q | q
      · exact h.pr x q
      · have : x = (left, 1) := by simpa using q
        subst this
        exact ⟨hp, Nat.le_refl 1⟩
    · refine List.pairwise_append.mpr ⟨h.sorted, by simp, fun x hx y hy => ?_⟩
      have : y = (left, 1) := by simpa using hy
      subst this
      have := h.lt x hx
      show x.1 < left
      omega
    · rw [pp_app, ← h.prod]
      simp [pp]
  · have e1 : left = 1 := by have := h.pos; omega
    subst e1
    rw [if_neg h1, List.append_nil]
    exact ⟨h.pr, h.sorted, by have := h.prod; rw [Nat.mul_one] at this; exact this⟩
end
theorem fuel_eq : fuel = 2 ^ 60 := by decide
theorem natAbs_lt {a : Nat} (h : a < 2 ^ 60) : (a : Int).natAbs < 18446744073709551616 := by
  rw [Int.natAbs_natCast]; omega
end XL

/-! XQ: numbers all lie for (Korselt). -/
namespace XL
open PySem
/-- the first prime that bars -/
def badP (n p : Nat) : Bool := decide (p * p ∣ n) || !decide ((n - 1) % (p - 1) = 0)
def barL (n : Nat) (l : List Nat) : Option Nat := l.find? (badP n)
theorem find_map {α β : Type} (f : α → β) (q : β → Bool) : ∀ l : List α, (l.map f).find? q = (l.find? fun x => q (f x)).map f
  | [] => rfl
  | a :: l => by
    rw [List.map_cons]
    by_cases h : q (f a) = true
    · rw [List.find?_cons_of_pos h, List.find?_cons_of_pos (p := fun x => q (f x)) h]; rfl
    · rw [List.find?_cons_of_neg h, List.find?_cons_of_neg (p := fun x => q (f x)) h]; exact find_map f q l
theorem find_congr {α : Type} {q r : α → Bool} : ∀ {l : List α}, (∀ x ∈ l, q x = r x) → l.find? q = l.find? r
  | [], _ => rfl
  | a :: l, h => by
    have h1 := h a List.mem_cons_self
    have h2 := find_congr (l := l) fun x hx => h x (List.mem_cons_of_mem _ hx)
    by_cases e : q a = true
    · rw [List.find?_cons_of_pos e, List.find?_cons_of_pos (h1 ▸ e)]
    · rw [List.find?_cons_of_neg e, List.find?_cons_of_neg (h1 ▸ e), h2]
theorem barL_none {n : Nat} {l : List Nat} (h : Primes n l) : barL n l = none ↔ ∀ p, Pr p → p ∣ n → badP n p = false := by
  unfold barL
  rw [List.find?_eq_none]
  constructor
  · intro q p hp hd
    simpa using q p (h.all p hp hd)
  · intro q p hp
    have := h.pr p hp
    simpa using q p this.1 this.2
theorem badP_false {n p : Nat} (h : badP n p = false) : ¬ p * p ∣ n ∧ (n - 1) % (p - 1) = 0 := by
  unfold badP at h
  simpa using h
theorem pr_two : Pr 2 := prB_iff.mp (by decide)
theorem korselt_odd {n : Nat} (h1 : 1 < n) (np : ¬ Pr n) (h : ∀ p, Pr p → p ∣ n → badP n p = false) : n % 2 = 1 := by
  by_cases odd : n % 2 = 1
  · exact odd
  exfalso
  have h2 : 2 ∣ n := Nat.dvd_of_mod_eq_zero (by omega)
  have n4 := (badP_false (h 2 pr_two h2)).1
  obtain ⟨m, rfl⟩ := h2
  have hm : 2 ≤ m := by
    by_cases q : m = 1
    · subst q; exact absurd pr_two np
    · omega
  obtain ⟨p, hp, hd⟩ := ex_pr hm
  have p2 : p ≠ 2 := fun e => by
    subst e
    exact n4 (Nat.mul_dvd_mul_left 2 hd)
  have podd : p % 2 = 1 := by
    by_cases q : p % 2 = 1
    · exact q
    · have := pr_two.eq_of_dvd hp (Nat.dvd_of_mod_eq_zero (by omega))
      omega
  have e := (badP_false (h p hp (Nat.dvd_trans hd ⟨2, Nat.mul_comm _ _⟩))).2
  have d1 : p - 1 ∣ 2 * m - 1 := Nat.dvd_of_mod_eq_zero e
  have d2 : 2 ∣ p - 1 := Nat.dvd_of_mod_eq_zero (by have := hp.1; omega)
  have := Nat.mod_eq_zero_of_dvd (Nat.dvd_trans d2 d1)
  omega
theorem korselt_three {n : Nat} {l : List Nat} (h1 : 1 < n) (np : ¬ Pr n) {k : List (Nat × Nat)} (P : Parts n k) (e : l = k.map (·.1)) (h : ∀ p, Pr p → p ∣ n → badP n p = false) : ¬ l.length < 3 := by
  subst e
  have one : ∀ x ∈ k, x.2 = 1 := fun x hx => by
    have := (badP_false (h x.1 (P.pr x hx).1 (P.dvd hx))).1
    have q := P.sq hx
    have := (P.pr x hx).2
    omega
  intro hl
  match k, P, one, hl with
  | [], P, _, _ =>
    have := P.prod
    simp [pp] at this
    omega
  | [x], P, one, _ =>
    have e := P.prod
    have o := one x List.mem_cons_self
    simp only [pp, o, Nat.pow_one, Nat.mul_one] at e
    exact np (e ▸ (P.pr x List.mem_cons_self).1)
  | [x, y], P, one, _ =>
    have e := P.prod
    have o1 := one x List.mem_cons_self
    have o2 := one y (List.mem_cons_of_mem _ List.mem_cons_self)
    simp only [pp, o1, o2, Nat.pow_one, Nat.mul_one] at e
    have hx := P.pr x List.mem_cons_self
    have hy := P.pr y (List.mem_cons_of_mem _ List.mem_cons_self)
    have lt := (List.pairwise_cons.mp P.sorted).1 y List.mem_cons_self
    have q := (badP_false (h y.1 hy.1 (P.dvd (List.mem_cons_of_mem _ List.mem_cons_self)))).2
    rw [← e] at q
    have x2 := hx.1.1
    have y2 := hy.1.1
    have ee : x.1 * y.1 - 1 = x.1 * (y.1 - 1) + (x.1 - 1) := by
      obtain ⟨z, hz⟩ : ∃ z, y.1 = z + 1 := ⟨y.1 - 1, by omega⟩
      rw [hz, Nat.mul_succ]
      simp only [Nat.add_sub_cancel]
      omega
    rw [ee, Nat.mul_add_mod_self_right] at q
    have := Nat.le_of_dvd (by omega) (Nat.dvd_of_mod_eq_zero q)
    omega
  | _ :: _ :: _ :: _, _, _, hl => simp at hl; omega
/-! ### a quick look that tells most numbers off -/
def carB : Nat → Nat → Nat → Nat → Bool
  | 0, _, _, _ => true
  | f + 1, d, left, n => if left < d * d then (if left ≤ 1 then true else decide ((n - 1) % (left - 1) = 0)) else
    if left % d = 0 then (if left / d % d = 0 then false else if (n - 1) % (d - 1) = 0 then carB f (d + 1) (left / d) n else false) else carB f (d + 1) left n
theorem carB_false : ∀ {f d left n : Nat}, 2 ≤ d → ND d left → left ∣ n → 0 < n → carB f d left n = false → ∃ p, Pr p ∧ p ∣ n ∧ badP n p = true
  | 0, _, _, _, _, _, _, _, h => by cases h
  | f + 1, d, left, n, h2, nd, hd, h0, h => by
    unfold carB at h
    by_cases c1 : left < d * d
    · rw [if_pos c1] at h
      by_cases c2 : left ≤ 1
      · rw [if_pos c2] at h; cases h
      · rw [if_neg c2] at h
        refine ⟨left, pr_left (by omega) nd c1, hd, ?_⟩
        unfold badP
        rw [h]
        simp
    · rw [if_neg c1] at h
      by_cases c3 : left % d = 0
      · rw [if_pos c3] at h
        have dd : d ∣ left := Nat.dvd_of_mod_eq_zero c3
        have hp := pr_div h2 nd dd
        have hdn := Nat.dvd_trans dd hd
        have el : d * (left / d) = left := Nat.mul_div_cancel' dd
        by_cases c4 : left / d % d = 0
        · refine ⟨d, hp, hdn, ?_⟩
          have : d * d ∣ n := Nat.dvd_trans (el ▸ Nat.mul_dvd_mul_left d (Nat.dvd_of_mod_eq_zero c4)) hd
          unfold badP
          rw [decide_eq_true this]
          rfl
        · rw [if_neg c4] at h
          by_cases c5 : (n - 1) % (d - 1) = 0
          · rw [if_pos c5] at h
            have hq : left / d ∣ left := ⟨d, by rw [Nat.mul_comm]; exact el.symm⟩
            exact carB_false (by omega) ((nd.mono hq).succ fun z => c4 (Nat.mod_eq_zero_of_dvd z)) (Nat.dvd_trans hq hd) h0 h
          · refine ⟨d, hp, hdn, ?_⟩
            unfold badP
            rw [decide_eq_false c5]
            simp
      · rw [if_neg c3] at h
        exact carB_false (by omega) (nd.succ fun z => c3 (Nat.mod_eq_zero_of_dvd z)) hd h0 h
theorem rngSize2 (n : Nat) (h1 : 1 ≤ n) : Builtin.Range.rangeSize 3 ((n : Int) + 1) 2 = (((n - 1) / 2 : Nat) : Int) := by
  have e : Builtin.Range.rangeSize 3 ((n : Int) + 1) 2 = if (3 : Int) < (n : Int) + 1 then ((n : Int) + 1 - 3 - 1) / 2 + 1 else 0 := rfl
  rw [e]
  by_cases h : (3 : Int) < (n : Int) + 1
  · rw [if_pos h]; omega
  · rw [if_neg h]; omega
theorem rngSmall2 (n : Nat) (h1 : 1 ≤ n) (h2 : n < 1000000000) : Builtin.Range.small 3 ((n : Int) + 1) 2 = true := by
  unfold Builtin.Range.small Builtin.Range.rangeFitsLong
  rw [rngSize2 n h1]
  simp
  omega
theorem rng3_eq {P : Type} {i j c : Int} (h1 : c ≠ 0) (h2 : c.natAbs < 1073741824) (h3 : Builtin.Range.small i j c = true) (h4 : 0 ≤ Builtin.Range.rangeSize i j c) : (rng3 i j c : M P (List Int)) = rt (uptoC i c (Builtin.Range.rangeSize i j c).toNat) := by
  unfold rng3
  rw [decide_eq_true h1, decide_eq_true h2, h3, decide_eq_true h4]
  rfl
theorem odds_eq {P : Type} (n : Nat) (h1 : 1 ≤ n) (h2 : n < 1000000000) : (rng3 3 ((n : Int) + 1) 2 : M P (List Int)) = rt (((List.range ((n - 1) / 2)).map fun i => 3 + 2 * i).map fun p : Nat => (p : Int)) := by
  have es := rngSize2 n h1
  rw [rng3_eq (by decide) (by decide) (rngSmall2 n h1 h2) (by rw [es]; omega), es, uptoC_eq]
  congr 1
  rw [Int.toNat_natCast, List.map_map]
  refine List.map_congr_left fun i _ => ?_
  show (3 : Int) + (i : Int) * 2 = ((3 + 2 * i : Nat) : Int)
  omega
end XL

namespace G_k67
open PySem PySem.Spec L2 XL
open PyProof.Rows hiding St
open Enc (enc)
def topS (i : Nat) : Stmt := PySem.Challenge.pw_clockrests_k67_whole_numbers_all_lie_for.main.body.getD i (.Pass ⟨0, 0, 0, 0⟩)
structure Zs (K : PySem.W.Frag) (mg : Str → Option Value) : Prop where
  x_NotComposite : ExA K mg "NotComposite"
  z_abs : mg "abs" = none
  z_all : mg "all" = none
  z_bool : mg "bool" = none
  z_divmod : mg "divmod" = none
  z_int : mg "int" = none
  z_isinstance : mg "isinstance" = none
  z_len : mg "len" = none
  z_max : mg "max" = none
  z_min : mg "min" = none
  z_range : mg "range" = none
  z_repr : mg "repr" = none
  z_sum : mg "sum" = none
  c_MOST_LISTED : ∃ t, mg "MOST_LISTED" = some (.int 10000 t)
  c_MOST_NUMBER : ∃ t, mg "MOST_NUMBER" = some (.int 1000000 t)
/-! is_integer -/
def b_is_integer (a_value : Int) : M Unit Bool :=
  bd (bd (rt a_value) fun v1 => grd (enc v1).canLay0 (rt (isT "int" (enc v1)))) fun v4 => if v4 = true then bd (bd (rt a_value) fun v2 => grd (enc v2).canLay0 (rt (isT "bool" (enc v2)))) fun v3 => rt (!v3) else rt false
def m_is_integer (a_value : Int) : Option Bool := run (b_is_integer a_value)
abbrev s_is_integer : Stmt := topS 1
abbrev N_is_integer : List Str := ["value"]
theorem sc_is_integer : FnScope N_is_integer ["value"] (defScope s_is_integer) := ⟨rfl, rfl, rfl, by decide +kernel, rfl, by decide +kernel, by decide +kernel⟩
abbrev P_is_integer (pr : Program) (wd : World) (K : PySem.W.Frag) (mg : Str → Option Value) (bs : Heap) : Prop := Fx pr wd K mg bs "is_integer" s_is_integer ["value"] 1 (spF K (fun w : Int × Unit => [enc w.1]) (dE) (fun w => m_is_integer w.1))
theorem ok_is_integer {pr : Program} {wd : World} {K : PySem.W.Frag} {mg : Str → Option Value} {bs : Heap} (Z : Zs K mg) (A : At K mg "is_integer" s_is_integer ["value"])  : P_is_integer pr wd K mg bs := by
  have base := fx_R (pr := pr) (wd := wd) (bs := bs) (cs := cs0) (k := 0) (ea := (fun w : Int × Unit => [enc w.1])) (s := dE) (m := fun w => b_is_integer w.1) 0 0 A sc_is_integer (fun _ => rfl) (fun _ => rfl) (fun _ => rfl) (fun f cd A oe s0 H E hr gd ⟨a_value, _u⟩ => by
    show PSs (cxOf CX0 pr wd K mg bs N_is_integer "is_integer" (defScope s_is_integer) f cd A oe s0 H E).nox (defBody s_is_integer) (xR K cs0 [.dat (enc a_value)] (dE) (b_is_integer a_value))
    unfold b_is_integer
    exact b_ret (s_ret (x_and (x_isInt (x_name 0 (pv 0) rfl) rfl Z.z_isinstance rfl Z.z_int) (x_one (x_not (x_isBool (x_name 0 (pv 0) rfl) rfl Z.z_isinstance rfl Z.z_bool))))))
  exact base.pure _ fun _ => rfl
/-! is_within -/
def b_is_within (a_value : Int) (a_least : Int) (a_most : Int) : M Unit Bool :=
  bd (bd (bd (rt a_value) fun v1 => bd (rt ()) fun v2 => rt (v1, v2)) fun w3 => ofO (m_is_integer w3.1)) fun v7 => if v7 = true then bd (rt a_least) fun v4 => bd (rt a_value) fun v5 => if decide (v4 ≤ v5) = true then bd (rt a_most) fun v6 => rt (decide (v5 ≤ v6)) else rt false else rt false
def m_is_within (a_value : Int) (a_least : Int) (a_most : Int) : Option Bool := run (b_is_within a_value a_least a_most)
abbrev s_is_within : Stmt := topS 2
abbrev N_is_within : List Str := ["value", "least", "most"]
theorem sc_is_within : FnScope N_is_within ["value", "least", "most"] (defScope s_is_within) := ⟨rfl, rfl, rfl, by decide +kernel, rfl, by decide +kernel, by decide +kernel⟩
abbrev P_is_within (pr : Program) (wd : World) (K : PySem.W.Frag) (mg : Str → Option Value) (bs : Heap) : Prop := Fx pr wd K mg bs "is_within" s_is_within ["value", "least", "most"] 2 (spF K (fun w : Int × Int × Int × Unit => [enc w.1, enc w.2.1, enc w.2.2.1]) (dE) (fun w => m_is_within w.1 w.2.1 w.2.2.1))
theorem ok_is_within {pr : Program} {wd : World} {K : PySem.W.Frag} {mg : Str → Option Value} {bs : Heap} (Z : Zs K mg) (A : At K mg "is_within" s_is_within ["value", "least", "most"]) (T_is_integer : P_is_integer pr wd K mg bs) : P_is_within pr wd K mg bs := by
  have base := fx_R (pr := pr) (wd := wd) (bs := bs) (cs := cs0) (k := 1) (ea := (fun w : Int × Int × Int × Unit => [enc w.1, enc w.2.1, enc w.2.2.1])) (s := dE) (m := fun w => b_is_within w.1 w.2.1 w.2.2.1) 0 0 A sc_is_within (fun _ => rfl) (fun _ => rfl) (fun _ => rfl) (fun f cd A oe s0 H E hr gd ⟨a_value, a_least, a_most, _u⟩ => by
    show PSs (cxOf CX0 pr wd K mg bs N_is_within "is_within" (defScope s_is_within) f cd A oe s0 H E).nox (defBody s_is_within) (xR K cs0 [.dat (enc a_value), .dat (enc a_least), .dat (enc a_most)] (dE) (b_is_within a_value a_least a_most))
    unfold b_is_within
    exact b_ret (s_ret (x_and (f_call T_is_integer (hr.mono (by decide)) gd rfl (a_cons (x_name 0 (pv 0) rfl) (a_nil))) (x_one (x_chain o_le o_le (x_name 1 (pv 1) rfl) (x_name 0 (pv 0) rfl) (x_name 2 (pv 2) rfl))))))
  exact base.pure _ fun _ => rfl
/-! is_number_value -/
def b_is_number_value (a_value : Int) : M Unit Bool :=
  bd (bd (rt a_value) fun v5 => bd (bd (rt (1 : Int)) fun v3 => bd (bd (rt (1000000 : Int)) fun v1 => bd (rt ()) fun v2 => rt (v1, v2)) fun v4 => rt (v3, v4)) fun v6 => rt (v5, v6)) fun w7 => ofO (m_is_within w7.1 w7.2.1 w7.2.2.1)
def m_is_number_value (a_value : Int) : Option Bool := run (b_is_number_value a_value)
abbrev s_is_number_value : Stmt := topS 10
abbrev N_is_number_value : List Str := ["value"]
theorem sc_is_number_value : FnScope N_is_number_value ["value"] (defScope s_is_number_value) := ⟨rfl, rfl, rfl, by decide +kernel, rfl, by decide +kernel, by decide +kernel⟩
abbrev P_is_number_value (pr : Program) (wd : World) (K : PySem.W.Frag) (mg : Str → Option Value) (bs : Heap) : Prop := Fx pr wd K mg bs "is_number_value" s_is_number_value ["value"] 3 (spF K (fun w : Int × Unit => [enc w.1]) (dE) (fun w => m_is_number_value w.1))
theorem ok_is_number_value {pr : Program} {wd : World} {K : PySem.W.Frag} {mg : Str → Option Value} {bs : Heap} (Z : Zs K mg) (A : At K mg "is_number_value" s_is_number_value ["value"]) (T_is_within : P_is_within pr wd K mg bs) : P_is_number_value pr wd K mg bs := by
  have base := fx_R (pr := pr) (wd := wd) (bs := bs) (cs := cs0) (k := 2) (ea := (fun w : Int × Unit => [enc w.1])) (s := dE) (m := fun w => b_is_number_value w.1) 0 0 A sc_is_number_value (fun _ => rfl) (fun _ => rfl) (fun _ => rfl) (fun f cd A oe s0 H E hr gd ⟨a_value, _u⟩ => by
    show PSs (cxOf CX0 pr wd K mg bs N_is_number_value "is_number_value" (defScope s_is_number_value) f cd A oe s0 H E).nox (defBody s_is_number_value) (xR K cs0 [.dat (enc a_value)] (dE) (b_is_number_value a_value))
    unfold b_is_number_value
    exact b_ret (s_ret (f_call T_is_within (hr.mono (by decide)) gd rfl (a_cons (x_name 0 (pv 0) rfl) (a_cons (x_int) (a_cons (x_globE rfl Z.c_MOST_NUMBER) (a_nil)))))))
  exact base.pure _ fun _ => rfl
/-! parts_of -/
def b_parts_of (a_number : Int) : M Unit (List (Int × Int)) :=
  bd (bd (rt ([] : List (Int × Int))) fun v5 => bd (bd (rt a_number) fun v3 => bd (bd (rt (2 : Int)) fun v1 => bd (rt ()) fun v2 => rt (v1, v2)) fun v4 => rt (v3, v4)) fun v6 => rt (v5, v6)) fun w7 => bd (whileM (fun w8 : (List (Int × Int)) × Int × Int => bd (bd (rt w8.2.2) fun v9 => bd (rt w8.2.2) fun v10 => grd (okMul v9 v10) (rt (v9 * v10))) fun v11 => bd (rt w8.2.1) fun v12 => rt (decide (v11 ≤ v12))) (fun w8 => bd (rt (0 : Int)) fun w13 => bd (whileM (fun w14 : Int × Int => bd (bd (rt w14.1) fun v15 => bd (rt w8.2.2) fun v16 => grd (okMod v15 v16) (rt (v15 % v16))) fun v17 => bd (rt (0 : Int)) fun v18 => rt (decide (v17 = v18))) (fun w14 => bd (bd (bd (rt w14.1) fun v19 => bd (rt w8.2.2) fun v20 => grd (okDiv v19 v20) (rt (v19 / v20))) fun v25 => bd (bd (bd (rt w14.2) fun v21 => bd (rt (1 : Int)) fun v22 => rt (v21 + v22)) fun v23 => bd (rt ()) fun v24 => rt (v23, v24)) fun v26 => rt (v25, v26)) fun w27 => rt ((w27.1, w27.2.1))) ((w8.2.1, w13))) fun w28 => bd (bd (bd (bd (rt w28.2) fun v29 => bd (rt (0 : Int)) fun v30 => rt (decide (v30 < v29))) fun v39 => if v39 = true then bd (bd (bd (bd (rt w8.2.2) fun v33 => bd (bd (rt w28.2) fun v31 => bd (rt ()) fun v32 => rt (v31, v32)) fun v34 => rt (v33, v34)) fun w35 => rt (w35.1, w35.2.1)) fun v36 => bd (rt ([] : List (Int × Int))) fun v37 => rt (v36 :: v37)) fun l38 => grd (okLen l38.length) (rt l38) else rt ([] : List (Int × Int))) fun z40 => grd (okLen (w8.1.length + z40.length)) (rt (w8.1 ++ z40))) fun w41 => bd (bd (rt w8.2.2) fun v42 => bd (rt (1 : Int)) fun v43 => rt (v42 + v43)) fun w44 => rt ((w41, w28.1, w44))) ((w7.1, w7.2.1, w7.2.2.1))) fun w45 => bd (bd (bd (bd (rt w45.2.1) fun v46 => bd (rt (1 : Int)) fun v47 => rt (decide (v47 < v46))) fun v56 => if v56 = true then bd (bd (bd (bd (rt w45.2.1) fun v50 => bd (bd (rt (1 : Int)) fun v48 => bd (rt ()) fun v49 => rt (v48, v49)) fun v51 => rt (v50, v51)) fun w52 => rt (w52.1, w52.2.1)) fun v53 => bd (rt ([] : List (Int × Int))) fun v54 => rt (v53 :: v54)) fun l55 => grd (okLen l55.length) (rt l55) else rt ([] : List (Int × Int))) fun z57 => grd (okLen (w45.1.length + z57.length)) (rt (w45.1 ++ z57))) fun w58 => rt w58
def m_parts_of (a_number : Int) : Option (List (Int × Int)) := run (b_parts_of a_number)
abbrev s_parts_of : Stmt := topS 11
abbrev N_parts_of : List Str := ["number", "found", "left", "one", "times"]
theorem sc_parts_of : FnScope N_parts_of ["number"] (defScope s_parts_of) := ⟨rfl, rfl, rfl, by decide +kernel, rfl, by decide +kernel, by decide +kernel⟩
abbrev P_parts_of (pr : Program) (wd : World) (K : PySem.W.Frag) (mg : Str → Option Value) (bs : Heap) : Prop := Fx pr wd K mg bs "parts_of" s_parts_of ["number"] 1 (spF K (fun w : Int × Unit => [enc w.1]) (dO) (fun w => m_parts_of w.1))
theorem ok_parts_of {pr : Program} {wd : World} {K : PySem.W.Frag} {mg : Str → Option Value} {bs : Heap} (Z : Zs K mg) (A : At K mg "parts_of" s_parts_of ["number"])  : P_parts_of pr wd K mg bs := by
  have base := fx_R (pr := pr) (wd := wd) (bs := bs) (cs := cs0) (k := 0) (ea := (fun w : Int × Unit => [enc w.1])) (s := dO) (m := fun w => b_parts_of w.1) 0 4 A sc_parts_of (fun _ => rfl) (fun _ => rfl) (fun _ => rfl) (fun f cd A oe s0 H E hr gd ⟨a_number, _u⟩ => by
    show PSs (cxOf CX0 pr wd K mg bs N_parts_of "parts_of" (defScope s_parts_of) f cd A oe s0 H E).nox (defBody s_parts_of) (xR K cs0 [.dat (enc a_number), .un, .un, .un, .un] (dO) (b_parts_of a_number))
    unfold b_parts_of
    exact b_seqR (s_par3 1 2 3 rfl sc_parts_of.nd rfl rfl rfl (by decide) (by decide) (by decide) rfl rfl rfl (a_cons (x_lst0) (a_cons (x_name 0 (pv 0) rfl) (a_cons (x_int) (a_nil)))) (fun _ => rfl) (okA rfl) rfl) (fun w7 => b_seqR (s_while (Γ' := (fun w : (List (Int × Int)) × Int × Int => [.dat (enc a_number), .own (w.1.map enc), .dat (enc w.2.1), .dat (enc w.2.2), .un])) ((w7.1, w7.2.1, w7.2.2.1)) PassesOwn.never (.keep (.keep (.keep (.keep (.drop (.nil)))))) (fun w8 => t_cmp0 o_le (x_bin o_mul (x_name 3 (pv 3) rfl) (x_name 3 (pv 3) rfl)) (x_name 2 (pv 2) rfl) (nomark _)) (fun w8 => b_seqN (s_set 4 sc_parts_of.nd rfl (Or.inl rfl) (x_int)) (fun w13 => b_seqN (s_while (Γ' := (fun w : Int × Int => [.dat (enc a_number), .own (w8.1.map enc), .dat (enc w.1), .dat (enc w8.2.2), .dat (enc w.2)])) ((w8.2.1, w13)) PassesOwn.never (.keep (.keep (.keep (.keep (.keep (.nil)))))) (fun w14 => t_cmp0 (o_eq hr.units) (x_bin o_mod (x_name 2 (pv 2) rfl) (x_name 3 (pv 3) rfl)) (x_int) (nomark _)) (fun w14 => b_seqN (s_par2 2 4 rfl sc_parts_of.nd rfl rfl (by decide) rfl rfl (a_cons (x_bin o_div (x_name 2 (pv 2) rfl) (x_name 3 (pv 3) rfl)) (a_cons (x_bin0 o_add (x_name 4 (pv 4) rfl) (x_int)) (a_nil))) (fun _ => rfl) (okA rfl) rfl) (fun w27 => b_nil ((w27.1, w27.2.1)) (.keep (.keep (.keep (.keep (.keep (.nil))))))))) (fun w28 => b_seqN (s_extend 1 (pv 1) rfl (x_dat (α := (Int × Int)) (x_if (t_cmp0 o_gt (x_name 4 (pv 4) rfl) (x_int) (nomark _)) (x_lst (l_cons (α := (Int × Int)) (x_tup2 (a_cons (x_name 3 (pv 3) rfl) (a_cons (x_name 4 (pv 4) rfl) (a_nil)))) (l_nil))) (x_lst0)))) (fun w41 => b_seqN (s_set 3 sc_parts_of.nd rfl (Or.inl rfl) (x_bin0 o_add (x_name 3 (pv 3) rfl) (x_int))) (fun w44 => b_nil ((w41, w28.1, w44)) (.keep (.keep (.keep (.keep (.drop (.nil)))))))))))) (fun w45 => b_seqR (s_extend 1 (pv 1) rfl (x_dat (α := (Int × Int)) (x_if (t_cmp0 o_gt (x_name 2 (pv 2) rfl) (x_int) (nomark _)) (x_lst (l_cons (α := (Int × Int)) (x_tup2 (a_cons (x_name 2 (pv 2) rfl) (a_cons (x_int) (a_nil)))) (l_nil))) (x_lst0)))) (fun w58 => b_ret (s_retOwn 1 (pv 1) rfl)))))
  exact base.pure _ fun _ => rfl
/-! is_prime_of -/
def b_is_prime_of (a_number : Int) : M Unit Bool :=
  bd (bd (bd (rt a_number) fun v1 => bd (rt ()) fun v2 => rt (v1, v2)) fun w3 => ofO (m_parts_of w3.1)) fun v12 => bd (bd (bd (bd (bd (rt a_number) fun v6 => bd (bd (rt (1 : Int)) fun v4 => bd (rt ()) fun v5 => rt (v4, v5)) fun v7 => rt (v6, v7)) fun w8 => rt (w8.1, w8.2.1)) fun v9 => bd (rt ([] : List (Int × Int))) fun v10 => rt (v9 :: v10)) fun l11 => grd (okLen l11.length) (rt l11)) fun v13 => rt (decide (v12 = v13))
def m_is_prime_of (a_number : Int) : Option Bool := run (b_is_prime_of a_number)
abbrev s_is_prime_of : Stmt := topS 12
abbrev N_is_prime_of : List Str := ["number"]
theorem sc_is_prime_of : FnScope N_is_prime_of ["number"] (defScope s_is_prime_of) := ⟨rfl, rfl, rfl, by decide +kernel, rfl, by decide +kernel, by decide +kernel⟩
abbrev P_is_prime_of (pr : Program) (wd : World) (K : PySem.W.Frag) (mg : Str → Option Value) (bs : Heap) : Prop := Fx pr wd K mg bs "is_prime_of" s_is_prime_of ["number"] 2 (spF K (fun w : Int × Unit => [enc w.1]) (dE) (fun w => m_is_prime_of w.1))
theorem ok_is_prime_of {pr : Program} {wd : World} {K : PySem.W.Frag} {mg : Str → Option Value} {bs : Heap} (Z : Zs K mg) (A : At K mg "is_prime_of" s_is_prime_of ["number"]) (T_parts_of : P_parts_of pr wd K mg bs) : P_is_prime_of pr wd K mg bs := by
  have base := fx_R (pr := pr) (wd := wd) (bs := bs) (cs := cs0) (k := 1) (ea := (fun w : Int × Unit => [enc w.1])) (s := dE) (m := fun w => b_is_prime_of w.1) 0 0 A sc_is_prime_of (fun _ => rfl) (fun _ => rfl) (fun _ => rfl) (fun f cd A oe s0 H E hr gd ⟨a_number, _u⟩ => by
    show PSs (cxOf CX0 pr wd K mg bs N_is_prime_of "is_prime_of" (defScope s_is_prime_of) f cd A oe s0 H E).nox (defBody s_is_prime_of) (xR K cs0 [.dat (enc a_number)] (dE) (b_is_prime_of a_number))
    unfold b_is_prime_of
    exact b_ret (s_ret (x_cmp0 (o_eq hr.units) (x_dat (α := (Int × Int)) (f_call T_parts_of (hr.mono (by decide)) gd rfl (a_cons (x_name 0 (pv 0) rfl) (a_nil)))) (x_dat (α := (Int × Int)) (x_lst (l_cons (α := (Int × Int)) (x_tup2 (a_cons (x_name 0 (pv 0) rfl) (a_cons (x_int) (a_nil)))) (l_nil)))) (nomark _))))
  exact base.pure _ fun _ => rfl
/-! want_above -/
def b_want_above (a_number : Int) (a_least : Int) : M Unit Unit :=
  bd (bd (bd (bd (bd (bd (rt a_number) fun v1 => bd (rt ()) fun v2 => rt (v1, v2)) fun w3 => ofO (m_is_number_value w3.1)) fun v4 => rt (!v4)) fun v7 => if v7 = true then rt true else bd (rt a_number) fun v5 => bd (rt a_least) fun v6 => rt (decide (v5 ≤ v6))) fun v8 => grd (!v8) (rt ())) fun u9 => rt (())
def m_want_above (a_number : Int) (a_least : Int) : Option Unit := run (bd (b_want_above a_number a_least) fun _ => rt ())
abbrev s_want_above : Stmt := topS 14
abbrev N_want_above : List Str := ["number", "least"]
theorem sc_want_above : FnScope N_want_above ["number", "least"] (defScope s_want_above) := ⟨rfl, rfl, rfl, by decide +kernel, rfl, by decide +kernel, by decide +kernel⟩
abbrev P_want_above (pr : Program) (wd : World) (K : PySem.W.Frag) (mg : Str → Option Value) (bs : Heap) : Prop := Fx pr wd K mg bs "want_above" s_want_above ["number", "least"] 4 (spF K (fun w : Int × Int × Unit => [enc w.1, enc w.2.1]) (dE) (fun w => m_want_above w.1 w.2.1))
theorem ok_want_above {pr : Program} {wd : World} {K : PySem.W.Frag} {mg : Str → Option Value} {bs : Heap} (Z : Zs K mg) (A : At K mg "want_above" s_want_above ["number", "least"]) (T_is_number_value : P_is_number_value pr wd K mg bs) : P_want_above pr wd K mg bs := by
  have base := fx_N (pr := pr) (wd := wd) (bs := bs) (cs := cs0) (k := 3) (ea := (fun w : Int × Int × Unit => [enc w.1, enc w.2.1])) (m := fun w => b_want_above w.1 w.2.1) (Γ' := fun w _ => [.dat (enc w.1), .dat (enc w.2.1)]) 0 0 A sc_want_above (fun _ => rfl) (fun _ => rfl) (fun _ => rfl) (fun f cd A oe s0 H E hr gd ⟨a_number, a_least, _u⟩ => by
    show PSs (cxOf CX0 pr wd K mg bs N_want_above "want_above" (defScope s_want_above) f cd A oe s0 H E).nox (defBody s_want_above) (xN K cs0 [.dat (enc a_number), .dat (enc a_least)] (fun _ : Unit => [.dat (enc a_number), .dat (enc a_least)]) (b_want_above a_number a_least))
    unfold b_want_above
    exact b_seqN (s_raise (Γ' := []) (PW.pt (w_or (t_not (t_val (f_call T_is_number_value (hr.mono (by decide)) gd rfl (a_cons (x_name 0 (pv 0) rfl) (a_nil))))) (w_or1 (t_cmp0 o_le (x_name 0 (pv 0) rfl) (x_name 1 (pv 1) rfl) (nomark _)))))) (fun u9 => b_nil (()) (.keep (.keep (.nil)))))
  exact base.pure _ fun _ => rfl
/-! want_composite -/
def b_want_composite (a_number : Int) : M Unit (Unit ⊕ Str) :=
  bd (bd (bd (rt a_number) fun v1 => bd (rt (1 : Int)) fun v2 => rt (decide (v1 = v2))) fun v6 => if v6 = true then rt true else bd (bd (rt a_number) fun v3 => bd (rt ()) fun v4 => rt (v3, v4)) fun w5 => ofO (m_is_prime_of w5.1)) fun v7 => if v7 = true then rt (.inr ("NotComposite" : Str)) else rt (.inl ())
def m_want_composite (a_number : Int) : Option (Unit ⊕ Str) := run (thX (b_want_composite a_number) fun _ => rt (.inl ()))
abbrev s_want_composite : Stmt := topS 17
abbrev N_want_composite : List Str := ["number"]
theorem sc_want_composite : FnScope N_want_composite ["number"] (defScope s_want_composite) := ⟨rfl, rfl, rfl, by decide +kernel, rfl, by decide +kernel, by decide +kernel⟩
abbrev P_want_composite (pr : Program) (wd : World) (K : PySem.W.Frag) (mg : Str → Option Value) (bs : Heap) : Prop := FxX pr wd K mg bs "want_composite" s_want_composite ["number"] 3 (spXF mg K (fun w : Int × Unit => [enc w.1]) (dE (α := Unit)) (fun w => m_want_composite w.1))
theorem ok_want_composite {pr : Program} {wd : World} {K : PySem.W.Frag} {mg : Str → Option Value} {bs : Heap} (Z : Zs K mg) (A : At K mg "want_composite" s_want_composite ["number"]) (T_is_prime_of : P_is_prime_of pr wd K mg bs) : P_want_composite pr wd K mg bs := by
  have base := fx_NX (pr := pr) (wd := wd) (bs := bs) (cs := cs0) (k := 2) (ea := (fun w : Int × Unit => [enc w.1])) (m := fun w => b_want_composite w.1) (Γ' := fun w _ => [.dat (enc w.1)]) 0 0 A sc_want_composite (fun _ => rfl) (fun _ => rfl) (fun _ => rfl) (fun f cd A oe s0 H E hr gd tk ⟨a_number, _u⟩ => by
    show PSs (cxOf (L2.CX pr wd) pr wd K mg bs N_want_composite "want_composite" (defScope s_want_composite) f cd A oe s0 H E) (defBody s_want_composite) (xNX mg (WE' E) K cs0 [.dat (enc a_number)] (fun _ : Unit => [.dat (enc a_number)]) (b_want_composite a_number))
    unfold b_want_composite
    exact b_oneX (s_raiseX Z.x_NotComposite rfl rfl tk (PW.pt (w_or (t_cmp0 (o_eq hr.units) (x_name 0 (pv 0) rfl) (x_int) (nomark _)) (w_or1 (t_val (f_call T_is_prime_of (hr.mono (by decide)) gd rfl (a_cons (x_name 0 (pv 0) rfl) (a_nil)))))))))
  exact base.pure _ fun _ => rfl

/-! bar_prime_of -/
def b_bar_prime_of (a_number : Int) : M Unit (Option Int) :=
  andB (bd (bd (bd (rt a_number) fun v2 => bd (rt ()) fun v3 => rt (v2, v3)) fun w4 => ofO (m_parts_of w4.1)) fun l22 => forB (fun x5 (w1 : Unit) => bd (bd (bd (rt x5.2) fun v6 => bd (rt (1 : Int)) fun v7 => rt (decide (v7 < v6))) fun v18 => if v18 = true then rt true else bd (bd (bd (rt a_number) fun v10 => bd (rt (1 : Int)) fun v11 => rt (v10 - v11)) fun v14 => bd (bd (rt x5.1) fun v12 => bd (rt (1 : Int)) fun v13 => rt (v12 - v13)) fun v15 => grd (okMod v14 v15) (rt (v14 % v15))) fun v16 => bd (rt (0 : Int)) fun v17 => rt (!decide (v16 = v17))) fun v19 => if v19 = true then bd (bd (rt x5.1) fun v20 => rt (some v20)) fun r21 => rt (.inr r21) else rt (.inl ())) l22 (())) fun w23 => bd (rt ()) fun _ => rt (none : Option Int)
def m_bar_prime_of (a_number : Int) : Option (Option Int) := run (b_bar_prime_of a_number)
abbrev s_bar_prime_of : Stmt := topS 18
abbrev N_bar_prime_of : List Str := ["number", "prime", "times"]
theorem sc_bar_prime_of : FnScope N_bar_prime_of ["number"] (defScope s_bar_prime_of) := ⟨rfl, rfl, rfl, by decide +kernel, rfl, by decide +kernel, by decide +kernel⟩
abbrev P_bar_prime_of (pr : Program) (wd : World) (K : PySem.W.Frag) (mg : Str → Option Value) (bs : Heap) : Prop := Fx pr wd K mg bs "bar_prime_of" s_bar_prime_of ["number"] 2 (spF K (fun w : Int × Unit => [enc w.1]) (dE) (fun w => m_bar_prime_of w.1))
theorem ok_bar_prime_of {pr : Program} {wd : World} {K : PySem.W.Frag} {mg : Str → Option Value} {bs : Heap} (Z : Zs K mg) (A : At K mg "bar_prime_of" s_bar_prime_of ["number"]) (T_parts_of : P_parts_of pr wd K mg bs) : P_bar_prime_of pr wd K mg bs := by
  have base := fx_R (pr := pr) (wd := wd) (bs := bs) (cs := cs0) (k := 1) (ea := (fun w : Int × Unit => [enc w.1])) (s := dE) (m := fun w => b_bar_prime_of w.1) 0 2 A sc_bar_prime_of (fun _ => rfl) (fun _ => rfl) (fun _ => rfl) (fun f cd A oe s0 H E hr gd ⟨a_number, _u⟩ => by
    show PSs (cxOf CX0 pr wd K mg bs N_bar_prime_of "bar_prime_of" (defScope s_bar_prime_of) f cd A oe s0 H E).nox (defBody s_bar_prime_of) (xR K cs0 [.dat (enc a_number), .un, .un] (dE) (b_bar_prime_of a_number))
    unfold b_bar_prime_of
    exact b_loopR (s_forB (Γ' := (fun w : Unit => [.dat (enc a_number), .un, .un])) (is := [1, 2]) (()) PassesOwn.never rfl (i_list (x_dat (α := (Int × Int)) (f_call T_parts_of (hr.mono (by decide)) gd rfl (a_cons (x_name 0 (pv 0) rfl) (a_nil))))) (pg_tup (n := 2) rfl (Nms.pgs sc_bar_prime_of.nd (Nms.cons rfl (Or.inl rfl) (Or.inl rfl) (Nms.cons rfl (Or.inl rfl) (Or.inl rfl) Nms.nil rfl) rfl)) rfl rfl) (tg_tupS (fun x : (Int × Int) => [enc x.1, enc x.2])) (.keep (.drop (.drop (.nil)))) (fun _ => okA rfl) (fun x5 w1 => b_ifretB (PW.pt (w_or (t_cmp0 o_gt (x_name 2 (pv 2) rfl) (x_int) (nomark _)) (w_or1 (t_cmp0 (o_ne hr.units) (x_bin o_mod (x_bin0 o_sub (x_name 0 (pv 0) rfl) (x_int)) (x_bin0 o_sub (x_name 1 (pv 1) rfl) (x_int))) (x_int) (nomark _))))) (b_ret (s_ret (x_some (α := Int) (x_name 1 (pv 1) rfl)))) (b_nilB (()) (.keep (.drop (.drop (.nil))))))) (fun w23 => b_ret (s_ret (x_noneO (α := Int) (x_non)))))
  exact base.pure _ fun _ => rfl
/-! lies_all -/
def b_lies_all (a_number : Int) : M Unit Bool :=
  bd (bd (rt a_number) fun v1 => bd (rt (1 : Int)) fun v2 => rt (decide (v2 < v1))) fun v12 => if v12 = true then bd (bd (bd (bd (rt a_number) fun v3 => bd (rt ()) fun v4 => rt (v3, v4)) fun w5 => ofO (m_is_prime_of w5.1)) fun v6 => rt (!v6)) fun v11 => if v11 = true then bd (bd (bd (rt a_number) fun v7 => bd (rt ()) fun v8 => rt (v7, v8)) fun w9 => ofO (m_bar_prime_of w9.1)) fun v10 => rt (isN (enc v10)) else rt false else rt false
def m_lies_all (a_number : Int) : Option Bool := run (b_lies_all a_number)
abbrev s_lies_all : Stmt := topS 19
abbrev N_lies_all : List Str := ["number"]
theorem sc_lies_all : FnScope N_lies_all ["number"] (defScope s_lies_all) := ⟨rfl, rfl, rfl, by decide +kernel, rfl, by decide +kernel, by decide +kernel⟩
abbrev P_lies_all (pr : Program) (wd : World) (K : PySem.W.Frag) (mg : Str → Option Value) (bs : Heap) : Prop := Fx pr wd K mg bs "lies_all" s_lies_all ["number"] 3 (spF K (fun w : Int × Unit => [enc w.1]) (dE) (fun w => m_lies_all w.1))
theorem ok_lies_all {pr : Program} {wd : World} {K : PySem.W.Frag} {mg : Str → Option Value} {bs : Heap} (Z : Zs K mg) (A : At K mg "lies_all" s_lies_all ["number"]) (T_bar_prime_of : P_bar_prime_of pr wd K mg bs) (T_is_prime_of : P_is_prime_of pr wd K mg bs) : P_lies_all pr wd K mg bs := by
  have base := fx_R (pr := pr) (wd := wd) (bs := bs) (cs := cs0) (k := 2) (ea := (fun w : Int × Unit => [enc w.1])) (s := dE) (m := fun w => b_lies_all w.1) 0 0 A sc_lies_all (fun _ => rfl) (fun _ => rfl) (fun _ => rfl) (fun f cd A oe s0 H E hr gd ⟨a_number, _u⟩ => by
    show PSs (cxOf CX0 pr wd K mg bs N_lies_all "lies_all" (defScope s_lies_all) f cd A oe s0 H E).nox (defBody s_lies_all) (xR K cs0 [.dat (enc a_number)] (dE) (b_lies_all a_number))
    unfold b_lies_all
    exact b_ret (s_ret (x_and (x_cmp0 o_gt (x_name 0 (pv 0) rfl) (x_int) (nomark _)) (x_and (x_not (f_call T_is_prime_of (hr.mono (by decide)) gd rfl (a_cons (x_name 0 (pv 0) rfl) (a_nil)))) (x_one (x_isNone (α := (Option Int)) (f_call T_bar_prime_of (hr.mono (by decide)) gd rfl (a_cons (x_name 0 (pv 0) rfl) (a_nil)))))))))
  exact base.pure _ fun _ => rfl
/-! do_all_lie -/
def b_do_all_lie (a_number : Int) : M Unit Bool :=
  bd (bd (bd (rt a_number) fun v3 => bd (bd (rt (0 : Int)) fun v1 => bd (rt ()) fun v2 => rt (v1, v2)) fun v4 => rt (v3, v4)) fun w5 => ofO (m_want_above w5.1 w5.2.1)) fun w6 => bd (bd (rt a_number) fun v7 => bd (rt ()) fun v8 => rt (v7, v8)) fun w9 => ofO (m_lies_all w9.1)
def m_do_all_lie (a_number : Int) : Option Bool := run (b_do_all_lie a_number)
abbrev s_do_all_lie : Stmt := topS 20
abbrev N_do_all_lie : List Str := ["number"]
theorem sc_do_all_lie : FnScope N_do_all_lie ["number"] (defScope s_do_all_lie) := ⟨rfl, rfl, rfl, by decide +kernel, rfl, by decide +kernel, by decide +kernel⟩
abbrev P_do_all_lie (pr : Program) (wd : World) (K : PySem.W.Frag) (mg : Str → Option Value) (bs : Heap) : Prop := Fx pr wd K mg bs "do_all_lie" s_do_all_lie ["number"] 5 (spF K (fun w : Int × Unit => [enc w.1]) (dE) (fun w => m_do_all_lie w.1))
theorem ok_do_all_lie {pr : Program} {wd : World} {K : PySem.W.Frag} {mg : Str → Option Value} {bs : Heap} (Z : Zs K mg) (A : At K mg "do_all_lie" s_do_all_lie ["number"]) (T_lies_all : P_lies_all pr wd K mg bs) (T_want_above : P_want_above pr wd K mg bs) : P_do_all_lie pr wd K mg bs := by
  have base := fx_R (pr := pr) (wd := wd) (bs := bs) (cs := cs0) (k := 4) (ea := (fun w : Int × Unit => [enc w.1])) (s := dE) (m := fun w => b_do_all_lie w.1) 0 0 A sc_do_all_lie (fun _ => rfl) (fun _ => rfl) (fun _ => rfl) (fun f cd A oe s0 H E hr gd ⟨a_number, _u⟩ => by
    show PSs (cxOf CX0 pr wd K mg bs N_do_all_lie "do_all_lie" (defScope s_do_all_lie) f cd A oe s0 H E).nox (defBody s_do_all_lie) (xR K cs0 [.dat (enc a_number)] (dE) (b_do_all_lie a_number))
    unfold b_do_all_lie
    exact b_seqR (s_drop (f_call T_want_above (hr.mono (by decide)) gd rfl (a_cons (x_name 0 (pv 0) rfl) (a_cons (x_int) (a_nil))))) (fun w6 => b_ret (s_ret (f_call T_lies_all (hr.mono (by decide)) gd rfl (a_cons (x_name 0 (pv 0) rfl) (a_nil))))))
  exact base.pure _ fun _ => rfl
/-! bar_prime -/
def b_bar_prime (a_number : Int) : M Unit ((Option Int) ⊕ Str) :=
  bd (bd (bd (rt a_number) fun v3 => bd (bd (rt (0 : Int)) fun v1 => bd (rt ()) fun v2 => rt (v1, v2)) fun v4 => rt (v3, v4)) fun w5 => ofO (m_want_above w5.1 w5.2.1)) fun w6 => thX (bd (bd (rt a_number) fun v7 => bd (rt ()) fun v8 => rt (v7, v8)) fun w9 => ofO (m_want_composite w9.1)) fun u10 => bd (bd (bd (rt a_number) fun v11 => bd (rt ()) fun v12 => rt (v11, v12)) fun w13 => ofO (m_bar_prime_of w13.1)) fun r14 => rt (.inl r14)
def m_bar_prime (a_number : Int) : Option ((Option Int) ⊕ Str) := run (b_bar_prime a_number)
abbrev s_bar_prime : Stmt := topS 21
abbrev N_bar_prime : List Str := ["number"]
theorem sc_bar_prime : FnScope N_bar_prime ["number"] (defScope s_bar_prime) := ⟨rfl, rfl, rfl, by decide +kernel, rfl, by decide +kernel, by decide +kernel⟩
abbrev P_bar_prime (pr : Program) (wd : World) (K : PySem.W.Frag) (mg : Str → Option Value) (bs : Heap) : Prop := FxX pr wd K mg bs "bar_prime" s_bar_prime ["number"] 5 (spXF mg K (fun w : Int × Unit => [enc w.1]) (dE) (fun w => m_bar_prime w.1))
theorem ok_bar_prime {pr : Program} {wd : World} {K : PySem.W.Frag} {mg : Str → Option Value} {bs : Heap} (Z : Zs K mg) (A : At K mg "bar_prime" s_bar_prime ["number"]) (T_bar_prime_of : P_bar_prime_of pr wd K mg bs) (T_want_above : P_want_above pr wd K mg bs) (T_want_composite : P_want_composite pr wd K mg bs) : P_bar_prime pr wd K mg bs := by
  have base := fx_RX (pr := pr) (wd := wd) (bs := bs) (cs := cs0) (k := 4) (ea := (fun w : Int × Unit => [enc w.1])) (s := dE) (m := fun w => b_bar_prime w.1) 0 0 A sc_bar_prime (fun _ => rfl) (fun _ => rfl) (fun _ => rfl) (fun f cd A oe s0 H E hr gd tk ⟨a_number, _u⟩ => by
    show PSs (cxOf (L2.CX pr wd) pr wd K mg bs N_bar_prime "bar_prime" (defScope s_bar_prime) f cd A oe s0 H E) (defBody s_bar_prime) (xRX mg E K cs0 [.dat (enc a_number)] (dE) (b_bar_prime a_number))
    unfold b_bar_prime
    exact b_seqRN (s_drop (f_call T_want_above (hr.mono (by decide)) gd rfl (a_cons (x_name 0 (pv 0) rfl) (a_cons (x_int) (a_nil))))) (fun w6 => b_seqRX (s_callX (f_callX T_want_composite tk (hr.mono (by decide)) gd rfl (a_cons (x_name 0 (pv 0) rfl) (a_nil)))) (fun u10 => b_retX (b_ret (s_ret (f_call T_bar_prime_of (hr.mono (by decide)) gd rfl (a_cons (x_name 0 (pv 0) rfl) (a_nil))))))))
  exact base.pure _ fun _ => rfl

/-! all_liars_to -/
def b_all_liars_to (a_number : Int) : M Unit (List Int) :=
  bd (bd (bd (rt a_number) fun v3 => bd (bd (rt (0 : Int)) fun v1 => bd (rt ()) fun v2 => rt (v1, v2)) fun v4 => rt (v3, v4)) fun w5 => ofO (m_want_above w5.1 w5.2.1)) fun w6 => bd (bd (rt a_number) fun v7 => bd (rt (10000 : Int)) fun v8 => rt (decide (v8 < v7))) fun v9 => grd (!v9) (bd (bd (rt (3 : Int)) fun v12 => bd (bd (rt a_number) fun v10 => bd (rt (1 : Int)) fun v11 => rt (v10 + v11)) fun v13 => bd (rt (2 : Int)) fun v14 => rng3 v12 v13 v14) fun l16 => bd (filMM (fun x15 => bd (bd (rt x15) fun v18 => bd (rt ()) fun v19 => rt (v18, v19)) fun w20 => ofO (m_lies_all w20.1)) (fun x15 => rt x15) l16) fun r17 => grd (okLen r17.length) (rt r17))
def m_all_liars_to (a_number : Int) : Option (List Int) := run (b_all_liars_to a_number)
abbrev s_all_liars_to : Stmt := topS 22
abbrev N_all_liars_to : List Str := ["number", "one"]
theorem sc_all_liars_to : FnScope N_all_liars_to ["number"] (defScope s_all_liars_to) := ⟨rfl, rfl, rfl, by decide +kernel, rfl, by decide +kernel, by decide +kernel⟩
abbrev P_all_liars_to (pr : Program) (wd : World) (K : PySem.W.Frag) (mg : Str → Option Value) (bs : Heap) : Prop := Fx pr wd K mg bs "all_liars_to" s_all_liars_to ["number"] 5 (spF K (fun w : Int × Unit => [enc w.1]) (dO) (fun w => m_all_liars_to w.1))
theorem ok_all_liars_to {pr : Program} {wd : World} {K : PySem.W.Frag} {mg : Str → Option Value} {bs : Heap} (Z : Zs K mg) (A : At K mg "all_liars_to" s_all_liars_to ["number"]) (T_lies_all : P_lies_all pr wd K mg bs) (T_want_above : P_want_above pr wd K mg bs) : P_all_liars_to pr wd K mg bs := by
  have base := fx_R (pr := pr) (wd := wd) (bs := bs) (cs := cs0) (k := 4) (ea := (fun w : Int × Unit => [enc w.1])) (s := dO) (m := fun w => b_all_liars_to w.1) 0 1 A sc_all_liars_to (fun _ => rfl) (fun _ => rfl) (fun _ => rfl) (fun f cd A oe s0 H E hr gd ⟨a_number, _u⟩ => by
    show PSs (cxOf CX0 pr wd K mg bs N_all_liars_to "all_liars_to" (defScope s_all_liars_to) f cd A oe s0 H E).nox (defBody s_all_liars_to) (xR K cs0 [.dat (enc a_number), .un] (dO) (b_all_liars_to a_number))
    unfold b_all_liars_to
    exact b_seqR (s_drop (f_call T_want_above (hr.mono (by decide)) gd rfl (a_cons (x_name 0 (pv 0) rfl) (a_cons (x_int) (a_nil))))) (fun w6 => b_raise (t_cmp0 o_gt (x_name 0 (pv 0) rfl) (x_globE rfl Z.c_MOST_LISTED) (nomark _)) (b_ret (s_ret (x_lcif (own := [("one", 1)]) (is := [1]) rfl sc_all_liars_to.nd (i_rng3 (x_int) (x_bin0 o_add (x_name 0 (pv 0) rfl) (x_int)) (x_int) rfl Z.z_range) (blkOk_by (own := [("one", 1)]) (N := N_all_liars_to) (sc := defScope s_all_liars_to) (by decide +kernel)) (fun _ _ _ _ _ => pg_name (i := 1) sc_all_liars_to.nd rfl (Or.inl rfl)) (tg_name 1) (by decide) (okA rfl) (fun _ _ _ _ _ x15 => t_val (f_call T_lies_all (hr.mono (by decide)) gd rfl (a_cons (x_name 1 (pv 1) rfl) (a_nil)))) (fun _ _ _ _ _ x15 => x_name 1 (pv 1) rfl))))))
  exact base.pure _ fun _ => rfl
/-! _law_pot -/
def b__law_pot (a_script : Scr) (a_k : Int) : M Unit Pot :=
  bd (bd (bd (rt a_k) fun v2 => bd (bd (rt a_script) fun v1 => grd (yes1 v1) (rt ((v1.l.length : Int)))) fun v3 => rt (decide (v2 < v3))) fun v45 => if v45 = true then bd (bd (rt a_script) fun v46 => bd (rt a_k) fun v47 => ofO (atI v46.l v47)) fun v48 => grd (yes1 v48) (rt (if v48 < 0 then -v48 else v48)) else bd (bd (bd (rt (2633 : Int)) fun v57 => bd (rt a_k) fun v58 => grd (okMul v57 v58) (rt (v57 * v58))) fun v59 => bd (rt (1867 : Int)) fun v60 => rt (v59 + v60)) fun v85 => bd (bd (bd (bd (bd (rt a_script) fun l78 => bd (rt none) fun v79 => bd (bd (rt (1 : Int)) fun v77 => rt (some v77)) fun v80 => rt (cutA l78.l v79 v80)) fun v81 => grd (yes1 v81) (rt (v81.sum))) fun v82 => grd (yes1 v82) (rt (v82))) fun v83 => bd (rt (1000003 : Int)) fun v84 => grd (okMod v83 v84) (rt (v83 % v84))) fun v86 => rt (v85 + v86)) fun w87 => bd (bd (rt (0 : Int)) fun v92 => bd (bd (rt w87) fun v90 => bd (bd (rt (10 : Int)) fun v88 => bd (rt (18 : Int)) fun v89 => grd (okPow v88 v89) (rt (v88 ^ v89.toNat))) fun v91 => rt (v90 - v91)) fun v93 => grd (yes2 v92 v93) (rt (if v93 > v92 then v93 else v92))) fun v504 => bd (bd (bd (bd (bd (bd (bd (bd (bd (rt w87) fun v488 => grd (yes1 v488) (rt (v488))) fun v489 => bd (rt (2147483549 : Int)) fun v490 => grd (okMod v489 v490) (rt (v489 % v490))) fun v491 => bd (rt (40253 : Int)) fun v492 => grd (okMul v491 v492) (rt (v491 * v492))) fun v495 => bd (bd (rt (8933 : Int)) fun v493 => bd (rt a_k) fun v494 => grd (okMul v493 v494) (rt (v493 * v494))) fun v496 => rt (v495 + v496)) fun v497 => bd (rt (71 : Int)) fun v498 => rt (v497 + v498)) fun v499 => grd (yes1 v499) (rt (v499))) fun v500 => bd (rt (2147483563 : Int)) fun v501 => grd (okMod v500 v501) (rt (v500 % v501))) fun v502 => bd (rt (1 : Int)) fun v503 => rt (v502 + v503)) fun v505 => rt (v504, v505)
def m__law_pot (a_script : Scr) (a_k : Int) : Option Pot := run (b__law_pot a_script a_k)
abbrev s__law_pot : Stmt := topS 24
abbrev N__law_pot : List Str := ["script", "k", "cell"]
theorem sc__law_pot : FnScope N__law_pot ["script", "k"] (defScope s__law_pot) := ⟨rfl, rfl, rfl, by decide +kernel, rfl, by decide +kernel, by decide +kernel⟩
abbrev P__law_pot (pr : Program) (wd : World) (K : PySem.W.Frag) (mg : Str → Option Value) (bs : Heap) : Prop := Fx pr wd K mg bs "_law_pot" s__law_pot ["script", "k"] 1 (spF K (fun w : Scr × Int × Unit => [enc w.1, enc w.2.1]) ((fun q : Pot => .own [.int q.1, .int q.2])) (fun w => m__law_pot w.1 w.2.1))
theorem ok__law_pot {pr : Program} {wd : World} {K : PySem.W.Frag} {mg : Str → Option Value} {bs : Heap} (Z : Zs K mg) (A : At K mg "_law_pot" s__law_pot ["script", "k"])  : P__law_pot pr wd K mg bs := by
  have base := fx_R (pr := pr) (wd := wd) (bs := bs) (cs := cs0) (k := 0) (ea := (fun w : Scr × Int × Unit => [enc w.1, enc w.2.1])) (s := (fun q : Pot => .own [.int q.1, .int q.2])) (m := fun w => b__law_pot w.1 w.2.1) 0 1 A sc__law_pot (fun _ => rfl) (fun _ => rfl) (fun _ => rfl) (fun f cd A oe s0 H E hr gd ⟨a_script, a_k, _u⟩ => by
    show PSs (cxOf CX0 pr wd K mg bs N__law_pot "_law_pot" (defScope s__law_pot) f cd A oe s0 H E).nox (defBody s__law_pot) (xR K cs0 [.dat (enc a_script), .dat (enc a_k), .un] ((fun q : Pot => .own [.int q.1, .int q.2])) (b__law_pot a_script a_k))
    unfold b__law_pot
    exact b_seqR (s_set 2 sc__law_pot.nd rfl (Or.inl rfl) (x_if (t_cmp0 o_lt (x_name 1 (pv 1) rfl) (c_1 k_lenS (fun h1 h2 => pe_callB h1 rfl Z.z_len (by decide +kernel) h2) (x_name 0 (pv 0) rfl)) (nomark _)) (c_1 k_abs (fun h1 h2 => pe_callB h1 rfl Z.z_abs (by decide +kernel) h2) (x_ixS (x_name 0 (pv 0) rfl) (x_name 1 (pv 1) rfl) (fun _ _ => rfl))) (x_bin0 o_add (x_bin0 o_add (x_bin o_mul (x_int) (x_name 1 (pv 1) rfl)) (x_int)) (x_bin o_mod (c_1 k_int (fun h1 h2 => pe_callTy h1 rfl Z.z_int (by decide +kernel) h2) (c_1 (k_sum rfl) (fun h1 h2 => pe_callB h1 rfl Z.z_sum (by decide +kernel) h2) (x_dat (α := Int) (x_slS (x_name 0 (pv 0) rfl) (p_none) (p_some (x_int)))))) (x_int))))) (fun w87 => b_ret (s_ret (x_pot (c_2 (k_max2 rfl) (fun h1 h2 => pe_callB h1 rfl Z.z_max (by decide +kernel) h2) (x_int) (x_bin0 o_sub (x_name 2 (pv 2) rfl) (x_bin o_pow (x_int) (x_int)))) (x_bin0 o_add (x_bin o_mod (c_1 k_int (fun h1 h2 => pe_callTy h1 rfl Z.z_int (by decide +kernel) h2) (x_bin0 o_add (x_bin0 o_add (x_bin o_mul (x_bin o_mod (c_1 k_int (fun h1 h2 => pe_callTy h1 rfl Z.z_int (by decide +kernel) h2) (x_name 2 (pv 2) rfl)) (x_int)) (x_int)) (x_bin o_mul (x_int) (x_name 1 (pv 1) rfl))) (x_int))) (x_int)) (x_int))))))
  exact base.pure _ fun _ => rfl
/-! _law_draw -/
def b__law_draw (a_size : Int) : M Pot Int :=
  bd (bd (gets fun q : Pot => q.1) fun v1 => bd (rt (0 : Int)) fun v2 => rt (decide (v2 < v1))) fun v3 => if v3 = true then bd (bd (bd (gets fun q : Pot => q.1) fun v4 => bd (rt a_size) fun v5 => grd (okDiv v4 v5) (rt (v4 / v5, v4 % v5))) fun r6 => bd (puts fun q : Pot => (r6.1, q.2)) fun _ => rt r6.2) fun w7 => rt w7 else bd (bd (bd (bd (bd (bd (gets fun q : Pot => q.2) fun v29 => bd (rt (40692 : Int)) fun v30 => grd (okMul v29 v30) (rt (v29 * v30))) fun v31 => bd (rt (8933 : Int)) fun v32 => rt (v31 + v32)) fun v33 => grd (yes1 v33) (rt (v33))) fun v34 => bd (rt (2147483587 : Int)) fun v35 => grd (okMod v34 v35) (rt (v34 % v35))) fun z36 => puts fun q : Pot => (q.1, z36)) fun w37 => bd (bd (bd (bd (bd (bd (gets fun q : Pot => q.2) fun v136 => bd (gets fun q : Pot => q.2) fun v137 => grd (okMul v136 v137) (rt (v136 * v137))) fun v138 => grd (yes1 v138) (rt (v138))) fun v139 => bd (rt (2147483549 : Int)) fun v140 => grd (okMod v139 v140) (rt (v139 % v140))) fun v141 => bd (rt (43 : Int)) fun v142 => grd (okDiv v141 v142) (rt (v141 / v142))) fun v143 => grd (yes1 v143) (rt (v143))) fun v144 => bd (rt a_size) fun v145 => grd (okMod v144 v145) (rt (v144 % v145))
abbrev m__law_draw (a_size : Int) : M Pot Int := b__law_draw a_size
abbrev s__law_draw : Stmt := topS 25
abbrev N__law_draw : List Str := ["pot", "size", "digit"]
theorem sc__law_draw : FnScope N__law_draw ["pot", "size"] (defScope s__law_draw) := ⟨rfl, rfl, rfl, by decide +kernel, rfl, by decide +kernel, by decide +kernel⟩
abbrev P__law_draw (pr : Program) (wd : World) (K : PySem.W.Frag) (mg : Str → Option Value) (bs : Heap) : Prop := Fx pr wd K mg bs "_law_draw" s__law_draw ["pot", "size"] 1 (spM K csP (fun w : Int × Unit => [enc w.1]) (dE) (fun w => m__law_draw w.1))
theorem ok__law_draw {pr : Program} {wd : World} {K : PySem.W.Frag} {mg : Str → Option Value} {bs : Heap} (Z : Zs K mg) (A : At K mg "_law_draw" s__law_draw ["pot", "size"])  : P__law_draw pr wd K mg bs := by
  have base := fx_R (pr := pr) (wd := wd) (bs := bs) (cs := csP) (k := 0) (ea := (fun w : Int × Unit => [enc w.1])) (s := dE) (m := fun w => b__law_draw w.1) 1 1 A sc__law_draw (fun _ => rfl) (fun _ => rfl) (fun _ => rfl) (fun f cd A oe s0 H E hr gd ⟨a_size, _u⟩ => by
    show PSs (cxOf CX0 pr wd K mg bs N__law_draw "_law_draw" (defScope s__law_draw) f cd A oe s0 H E).nox (defBody s__law_draw) (xR K csP [.bor 0, .dat (enc a_size), .un] (dE) (b__law_draw a_size))
    unfold b__law_draw
    exact b_ifret (t_cmp0 o_gt (x_bget 0 0 0 (fun q : Pot => [q.1, q.2]) (fun q : Pot => q.1) (pv 0) rfl (fun _ => rfl) rfl (fun _ => rfl)) (x_int) (nomark _)) (b_seqR (s_bset2 0 0 0 2 (fun q : Pot => [q.1, q.2]) (fun (q : Pot) z => (z, q.2)) rfl sc__law_draw.nd rfl (Or.inl rfl) (pv 0) rfl (fun _ => rfl) rfl (fun _ => by show 0 < 2; decide) (fun _ _ => rfl) (x_divmod (x_bget 0 0 0 (fun q : Pot => [q.1, q.2]) (fun q : Pot => q.1) (pv 0) rfl (fun _ => rfl) rfl (fun _ => rfl)) (x_name 1 (pv 1) rfl) rfl Z.z_divmod)) (fun w7 => b_ret (s_ret (x_name 2 (pv 2) rfl)))) (b_seqR (s_bset 0 0 1 (fun q : Pot => [q.1, q.2]) (fun (q : Pot) z => (q.1, z)) (pv 0) rfl (fun _ => rfl) rfl (fun _ => by show 1 < 2; decide) (fun _ _ => rfl) (x_bin o_mod (c_1 k_int (fun h1 h2 => pe_callTy h1 rfl Z.z_int (by decide +kernel) h2) (x_bin0 o_add (x_bin o_mul (x_bget 0 0 1 (fun q : Pot => [q.1, q.2]) (fun q : Pot => q.2) (pv 0) rfl (fun _ => rfl) rfl (fun _ => rfl)) (x_int)) (x_int))) (x_int))) (fun w37 => b_ret (s_ret (x_bin o_mod (c_1 k_int (fun h1 h2 => pe_callTy h1 rfl Z.z_int (by decide +kernel) h2) (x_bin o_div (x_bin o_mod (c_1 k_int (fun h1 h2 => pe_callTy h1 rfl Z.z_int (by decide +kernel) h2) (x_bin o_mul (x_bget 0 0 1 (fun q : Pot => [q.1, q.2]) (fun q : Pot => q.2) (pv 0) rfl (fun _ => rfl) rfl (fun _ => rfl)) (x_bget 0 0 1 (fun q : Pot => [q.1, q.2]) (fun q : Pot => q.2) (pv 0) rfl (fun _ => rfl) rfl (fun _ => rfl)))) (x_int)) (x_int))) (x_name 1 (pv 1) rfl))))))
  exact base
/-! _law_pick -/
def b__law_pick (a_some : (List Int)) : M Pot Int :=
  bd (rt a_some) fun v5 => bd (bd (bd (bd (rt a_some) fun v1 => grd (yes1 v1) (rt ((v1.length : Int)))) fun v2 => bd (rt ()) fun v3 => rt (v2, v3)) fun w4 => m__law_draw w4.1) fun v6 => ofO (atI v5 v6)
abbrev m__law_pick (a_some : (List Int)) : M Pot Int := b__law_pick a_some
abbrev s__law_pick : Stmt := topS 26
abbrev N__law_pick : List Str := ["pot", "some"]
theorem sc__law_pick : FnScope N__law_pick ["pot", "some"] (defScope s__law_pick) := ⟨rfl, rfl, rfl, by decide +kernel, rfl, by decide +kernel, by decide +kernel⟩
abbrev P__law_pick (pr : Program) (wd : World) (K : PySem.W.Frag) (mg : Str → Option Value) (bs : Heap) : Prop := Fx pr wd K mg bs "_law_pick" s__law_pick ["pot", "some"] 2 (spM K csP (fun w : (List Int) × Unit => [enc w.1]) (dE) (fun w => m__law_pick w.1))
theorem ok__law_pick {pr : Program} {wd : World} {K : PySem.W.Frag} {mg : Str → Option Value} {bs : Heap} (Z : Zs K mg) (A : At K mg "_law_pick" s__law_pick ["pot", "some"]) (T__law_draw : P__law_draw pr wd K mg bs) : P__law_pick pr wd K mg bs := by
  have base := fx_R (pr := pr) (wd := wd) (bs := bs) (cs := csP) (k := 1) (ea := (fun w : (List Int) × Unit => [enc w.1])) (s := dE) (m := fun w => b__law_pick w.1) 1 0 A sc__law_pick (fun _ => rfl) (fun _ => rfl) (fun _ => rfl) (fun f cd A oe s0 H E hr gd ⟨a_some, _u⟩ => by
    show PSs (cxOf CX0 pr wd K mg bs N__law_pick "_law_pick" (defScope s__law_pick) f cd A oe s0 H E).nox (defBody s__law_pick) (xR K csP [.bor 0, .dat (enc a_some)] (dE) (b__law_pick a_some))
    unfold b__law_pick
    exact b_ret (s_ret (x_ix (x_name 1 (pv 1) rfl) (f_callP 0 T__law_draw (hr.mono (by decide)) gd rfl (pv 0) rfl (a_cons (c_1 k_len (fun h1 h2 => pe_callB h1 rfl Z.z_len (by decide +kernel) h2) (x_name 1 (pv 1) rfl)) (a_nil))) (fun _ _ => rfl))))
  exact base
/-! _law_power -/
def b__law_power (a_number : Int) (a_base : Int) (a_times : Int) : M Unit Int :=
  bd (bd (bd (bd (rt (1 : Int)) fun v2 => grd (yes1 v2) (rt (v2))) fun v3 => bd (rt a_number) fun v4 => grd (okMod v3 v4) (rt (v3 % v4))) fun v13 => bd (bd (bd (bd (rt a_base) fun v6 => grd (yes1 v6) (rt (v6))) fun v7 => bd (rt a_number) fun v8 => grd (okMod v7 v8) (rt (v7 % v8))) fun v11 => bd (bd (rt a_times) fun v9 => bd (rt ()) fun v10 => rt (v9, v10)) fun v12 => rt (v11, v12)) fun v14 => rt (v13, v14)) fun w15 => bd (whileM (fun w16 : Int × Int × Int => bd (rt w16.2.2) fun v17 => bd (rt (0 : Int)) fun v18 => rt (decide (v18 < v17))) (fun w16 => bd (bd (bd (bd (bd (rt w16.2.2) fun v20 => grd (yes1 v20) (rt (v20))) fun v21 => bd (rt (2 : Int)) fun v22 => grd (okMod v21 v22) (rt (v21 % v22))) fun v23 => bd (rt (1 : Int)) fun v24 => rt (decide (v23 = v24))) fun v37 => if v37 = true then bd (bd (bd (rt w16.1) fun v45 => bd (rt w16.2.1) fun v46 => grd (okMul v45 v46) (rt (v45 * v46))) fun v47 => grd (yes1 v47) (rt (v47))) fun v48 => bd (rt a_number) fun v49 => grd (okMod v48 v49) (rt (v48 % v49)) else rt w16.1) fun w50 => bd (bd (bd (bd (bd (rt w16.2.1) fun v58 => bd (rt w16.2.1) fun v59 => grd (okMul v58 v59) (rt (v58 * v59))) fun v60 => grd (yes1 v60) (rt (v60))) fun v61 => bd (rt a_number) fun v62 => grd (okMod v61 v62) (rt (v61 % v62))) fun v67 => bd (bd (bd (rt w16.2.2) fun v63 => bd (rt (2 : Int)) fun v64 => grd (okDiv v63 v64) (rt (v63 / v64))) fun v65 => bd (rt ()) fun v66 => rt (v65, v66)) fun v68 => rt (v67, v68)) fun w69 => rt ((w50, w69.1, w69.2.1))) ((w15.1, w15.2.1, w15.2.2.1))) fun w70 => rt w70.1
def m__law_power (a_number : Int) (a_base : Int) (a_times : Int) : Option Int := run (b__law_power a_number a_base a_times)
abbrev s__law_power : Stmt := topS 27
abbrev N__law_power : List Str := ["number", "base", "times", "found", "here", "left"]
theorem sc__law_power : FnScope N__law_power ["number", "base", "times"] (defScope s__law_power) := ⟨rfl, rfl, rfl, by decide +kernel, rfl, by decide +kernel, by decide +kernel⟩
abbrev P__law_power (pr : Program) (wd : World) (K : PySem.W.Frag) (mg : Str → Option Value) (bs : Heap) : Prop := Fx pr wd K mg bs "_law_power" s__law_power ["number", "base", "times"] 1 (spF K (fun w : Int × Int × Int × Unit => [enc w.1, enc w.2.1, enc w.2.2.1]) (dE) (fun w => m__law_power w.1 w.2.1 w.2.2.1))
theorem ok__law_power {pr : Program} {wd : World} {K : PySem.W.Frag} {mg : Str → Option Value} {bs : Heap} (Z : Zs K mg) (A : At K mg "_law_power" s__law_power ["number", "base", "times"])  : P__law_power pr wd K mg bs := by
  have base := fx_R (pr := pr) (wd := wd) (bs := bs) (cs := cs0) (k := 0) (ea := (fun w : Int × Int × Int × Unit => [enc w.1, enc w.2.1, enc w.2.2.1])) (s := dE) (m := fun w => b__law_power w.1 w.2.1 w.2.2.1) 0 3 A sc__law_power (fun _ => rfl) (fun _ => rfl) (fun _ => rfl) (fun f cd A oe s0 H E hr gd ⟨a_number, a_base, a_times, _u⟩ => by
    show PSs (cxOf CX0 pr wd K mg bs N__law_power "_law_power" (defScope s__law_power) f cd A oe s0 H E).nox (defBody s__law_power) (xR K cs0 [.dat (enc a_number), .dat (enc a_base), .dat (enc a_times), .un, .un, .un] (dE) (b__law_power a_number a_base a_times))
    unfold b__law_power
    exact b_seqR (s_par3 3 4 5 rfl sc__law_power.nd rfl rfl rfl (by decide) (by decide) (by decide) rfl rfl rfl (a_cons (x_bin o_mod (c_1 k_int (fun h1 h2 => pe_callTy h1 rfl Z.z_int (by decide +kernel) h2) (x_int)) (x_name 0 (pv 0) rfl)) (a_cons (x_bin o_mod (c_1 k_int (fun h1 h2 => pe_callTy h1 rfl Z.z_int (by decide +kernel) h2) (x_name 1 (pv 1) rfl)) (x_name 0 (pv 0) rfl)) (a_cons (x_name 2 (pv 2) rfl) (a_nil)))) (fun _ => rfl) (okA rfl) rfl) (fun w15 => b_seqR (s_while (Γ' := (fun w : Int × Int × Int => [.dat (enc a_number), .dat (enc a_base), .dat (enc a_times), .dat (enc w.1), .dat (enc w.2.1), .dat (enc w.2.2)])) ((w15.1, w15.2.1, w15.2.2.1)) PassesOwn.never (.keep (.keep (.keep (.keep (.keep (.keep (.nil))))))) (fun w16 => t_cmp0 o_gt (x_name 5 (pv 5) rfl) (x_int) (nomark _)) (fun w16 => b_seqN (s_set 3 sc__law_power.nd rfl (Or.inl rfl) (x_if (t_cmp0 (o_eq hr.units) (x_bin o_mod (c_1 k_int (fun h1 h2 => pe_callTy h1 rfl Z.z_int (by decide +kernel) h2) (x_name 5 (pv 5) rfl)) (x_int)) (x_int) (nomark _)) (x_bin o_mod (c_1 k_int (fun h1 h2 => pe_callTy h1 rfl Z.z_int (by decide +kernel) h2) (x_bin o_mul (x_name 3 (pv 3) rfl) (x_name 4 (pv 4) rfl))) (x_name 0 (pv 0) rfl)) (x_name 3 (pv 3) rfl))) (fun w50 => b_seqN (s_par2 4 5 rfl sc__law_power.nd rfl rfl (by decide) rfl rfl (a_cons (x_bin o_mod (c_1 k_int (fun h1 h2 => pe_callTy h1 rfl Z.z_int (by decide +kernel) h2) (x_bin o_mul (x_name 4 (pv 4) rfl) (x_name 4 (pv 4) rfl))) (x_name 0 (pv 0) rfl)) (a_cons (x_bin o_div (x_name 5 (pv 5) rfl) (x_int)) (a_nil))) (fun _ => rfl) (okA rfl) rfl) (fun w69 => b_nil ((w50, w69.1, w69.2.1)) (.keep (.keep (.keep (.keep (.keep (.keep (.nil))))))))))) (fun w70 => b_ret (s_ret (x_name 3 (pv 3) rfl)))))
  exact base.pure _ fun _ => rfl
/-! _law_primes -/
def b__law_primes (a_number : Int) : M Unit (List Int) :=
  bd (bd (rt ([] : List Int)) fun v5 => bd (bd (rt a_number) fun v3 => bd (bd (rt (2 : Int)) fun v1 => bd (rt ()) fun v2 => rt (v1, v2)) fun v4 => rt (v3, v4)) fun v6 => rt (v5, v6)) fun w7 => bd (whileM (fun w8 : (List Int) × Int × Int => bd (bd (rt w8.2.2) fun v9 => bd (rt w8.2.2) fun v10 => grd (okMul v9 v10) (rt (v9 * v10))) fun v11 => bd (rt w8.2.1) fun v12 => rt (decide (v11 ≤ v12))) (fun w8 => bd (bd (bd (bd (bd (rt w8.2.1) fun v14 => grd (yes1 v14) (rt (v14))) fun v15 => bd (rt w8.2.2) fun v16 => grd (okMod v15 v16) (rt (v15 % v16))) fun v17 => bd (rt (0 : Int)) fun v18 => rt (decide (v17 = v18))) fun v19 => if v19 = true then bd (bd (rt w8.2.2) fun z20 => grd (okLen w8.1.length) (rt (w8.1 ++ [z20]))) fun w21 => bd (whileM (fun w22 : Int => bd (bd (bd (rt w22) fun v24 => grd (yes1 v24) (rt (v24))) fun v25 => bd (rt w8.2.2) fun v26 => grd (okMod v25 v26) (rt (v25 % v26))) fun v27 => bd (rt (0 : Int)) fun v28 => rt (decide (v27 = v28))) (fun w22 => bd (bd (rt w22) fun v29 => bd (rt w8.2.2) fun v30 => grd (okDiv v29 v30) (rt (v29 / v30))) fun w31 => rt (w31)) (w8.2.1)) fun w32 => rt ((w21, w32)) else rt ((w8.1, w8.2.1))) fun w33 => bd (bd (rt w8.2.2) fun v34 => bd (rt (1 : Int)) fun v35 => rt (v34 + v35)) fun w36 => rt ((w33.1, w33.2, w36))) ((w7.1, w7.2.1, w7.2.2.1))) fun w37 => bd (rt w37.1) fun v44 => bd (bd (bd (rt w37.2.1) fun v38 => bd (rt (1 : Int)) fun v39 => rt (decide (v39 < v38))) fun v43 => if v43 = true then bd (bd (rt w37.2.1) fun v40 => bd (rt ([] : List Int)) fun v41 => rt (v40 :: v41)) fun l42 => grd (okLen l42.length) (rt l42) else rt ([] : List Int)) fun v45 => grd (okLen (v44.length + v45.length)) (rt (v44 ++ v45))
def m__law_primes (a_number : Int) : Option (List Int) := run (b__law_primes a_number)
abbrev s__law_primes : Stmt := topS 28
abbrev N__law_primes : List Str := ["number", "found", "left", "one"]
theorem sc__law_primes : FnScope N__law_primes ["number"] (defScope s__law_primes) := ⟨rfl, rfl, rfl, by decide +kernel, rfl, by decide +kernel, by decide +kernel⟩
abbrev P__law_primes (pr : Program) (wd : World) (K : PySem.W.Frag) (mg : Str → Option Value) (bs : Heap) : Prop := Fx pr wd K mg bs "_law_primes" s__law_primes ["number"] 1 (spF K (fun w : Int × Unit => [enc w.1]) (dO) (fun w => m__law_primes w.1))
theorem ok__law_primes {pr : Program} {wd : World} {K : PySem.W.Frag} {mg : Str → Option Value} {bs : Heap} (Z : Zs K mg) (A : At K mg "_law_primes" s__law_primes ["number"])  : P__law_primes pr wd K mg bs := by
  have base := fx_R (pr := pr) (wd := wd) (bs := bs) (cs := cs0) (k := 0) (ea := (fun w : Int × Unit => [enc w.1])) (s := dO) (m := fun w => b__law_primes w.1) 0 3 A sc__law_primes (fun _ => rfl) (fun _ => rfl) (fun _ => rfl) (fun f cd A oe s0 H E hr gd ⟨a_number, _u⟩ => by
    show PSs (cxOf CX0 pr wd K mg bs N__law_primes "_law_primes" (defScope s__law_primes) f cd A oe s0 H E).nox (defBody s__law_primes) (xR K cs0 [.dat (enc a_number), .un, .un, .un] (dO) (b__law_primes a_number))
    unfold b__law_primes
    exact b_seqR (s_par3 1 2 3 rfl sc__law_primes.nd rfl rfl rfl (by decide) (by decide) (by decide) rfl rfl rfl (a_cons (x_lst0) (a_cons (x_name 0 (pv 0) rfl) (a_cons (x_int) (a_nil)))) (fun _ => rfl) (okA rfl) rfl) (fun w7 => b_seqR (s_while (Γ' := (fun w : (List Int) × Int × Int => [.dat (enc a_number), .own (w.1.map enc), .dat (enc w.2.1), .dat (enc w.2.2)])) ((w7.1, w7.2.1, w7.2.2.1)) PassesOwn.never (.keep (.keep (.keep (.keep (.nil))))) (fun w8 => t_cmp0 o_le (x_bin o_mul (x_name 3 (pv 3) rfl) (x_name 3 (pv 3) rfl)) (x_name 2 (pv 2) rfl) (nomark _)) (fun w8 => b_seqN (s_ifN (Γ' := (fun w : (List Int) × Int => [.dat (enc a_number), .own (w.1.map enc), .dat (enc w.2), .dat (enc w8.2.2)])) (t_cmp0 (o_eq hr.units) (x_bin o_mod (c_1 k_int (fun h1 h2 => pe_callTy h1 rfl Z.z_int (by decide +kernel) h2) (x_name 2 (pv 2) rfl)) (x_name 3 (pv 3) rfl)) (x_int) (nomark _)) (b_seqN (s_append 1 (pv 1) rfl (x_name 3 (pv 3) rfl)) (fun w21 => b_seqN (s_while (Γ' := (fun w : Int => [.dat (enc a_number), .own (w21.map enc), .dat (enc w), .dat (enc w8.2.2)])) (w8.2.1) PassesOwn.never (.keep (.keep (.keep (.keep (.nil))))) (fun w22 => t_cmp0 (o_eq hr.units) (x_bin o_mod (c_1 k_int (fun h1 h2 => pe_callTy h1 rfl Z.z_int (by decide +kernel) h2) (x_name 2 (pv 2) rfl)) (x_name 3 (pv 3) rfl)) (x_int) (nomark _)) (fun w22 => b_seqN (s_set 2 sc__law_primes.nd rfl (Or.inl rfl) (x_bin o_div (x_name 2 (pv 2) rfl) (x_name 3 (pv 3) rfl))) (fun w31 => b_nil (w31) (.keep (.keep (.keep (.keep (.nil)))))))) (fun w32 => b_nil ((w21, w32)) (.keep (.keep (.keep (.keep (.nil)))))))) (b_nil ((w8.1, w8.2.1)) (.keep (.keep (.keep (.keep (.nil))))))) (fun w33 => b_seqN (s_set 3 sc__law_primes.nd rfl (Or.inl rfl) (x_bin0 o_add (x_name 3 (pv 3) rfl) (x_int))) (fun w36 => b_nil ((w33.1, w33.2, w36)) (.keep (.keep (.keep (.keep (.nil))))))))) (fun w37 => b_frzR 1 rfl (b_ret (s_ret (x_cat (x_name 1 (pv 1) rfl) (x_dat (α := Int) (x_if (t_cmp0 o_gt (x_name 2 (pv 2) rfl) (x_int) (nomark _)) (x_lst (l_cons (α := Int) (x_name 2 (pv 2) rfl) (l_nil))) (x_lst0)))))))))
  exact base.pure _ fun _ => rfl
/-! _law_is_prime -/
def b__law_is_prime (a_number : Int) : M Unit Bool :=
  bd (bd (rt a_number) fun v1 => bd (rt (1 : Int)) fun v2 => rt (decide (v2 < v1))) fun v11 => if v11 = true then bd (bd (bd (rt a_number) fun v3 => bd (rt ()) fun v4 => rt (v3, v4)) fun w5 => ofO (m__law_primes w5.1)) fun v9 => bd (bd (bd (rt a_number) fun v6 => bd (rt ([] : List Int)) fun v7 => rt (v6 :: v7)) fun l8 => grd (okLen l8.length) (rt l8)) fun v10 => rt (decide (v9 = v10)) else rt false
def m__law_is_prime (a_number : Int) : Option Bool := run (b__law_is_prime a_number)
abbrev s__law_is_prime : Stmt := topS 29
abbrev N__law_is_prime : List Str := ["number"]
theorem sc__law_is_prime : FnScope N__law_is_prime ["number"] (defScope s__law_is_prime) := ⟨rfl, rfl, rfl, by decide +kernel, rfl, by decide +kernel, by decide +kernel⟩
abbrev P__law_is_prime (pr : Program) (wd : World) (K : PySem.W.Frag) (mg : Str → Option Value) (bs : Heap) : Prop := Fx pr wd K mg bs "_law_is_prime" s__law_is_prime ["number"] 2 (spF K (fun w : Int × Unit => [enc w.1]) (dE) (fun w => m__law_is_prime w.1))
theorem ok__law_is_prime {pr : Program} {wd : World} {K : PySem.W.Frag} {mg : Str → Option Value} {bs : Heap} (Z : Zs K mg) (A : At K mg "_law_is_prime" s__law_is_prime ["number"]) (T__law_primes : P__law_primes pr wd K mg bs) : P__law_is_prime pr wd K mg bs := by
  have base := fx_R (pr := pr) (wd := wd) (bs := bs) (cs := cs0) (k := 1) (ea := (fun w : Int × Unit => [enc w.1])) (s := dE) (m := fun w => b__law_is_prime w.1) 0 0 A sc__law_is_prime (fun _ => rfl) (fun _ => rfl) (fun _ => rfl) (fun f cd A oe s0 H E hr gd ⟨a_number, _u⟩ => by
    show PSs (cxOf CX0 pr wd K mg bs N__law_is_prime "_law_is_prime" (defScope s__law_is_prime) f cd A oe s0 H E).nox (defBody s__law_is_prime) (xR K cs0 [.dat (enc a_number)] (dE) (b__law_is_prime a_number))
    unfold b__law_is_prime
    exact b_ret (s_ret (x_and (x_cmp0 o_gt (x_name 0 (pv 0) rfl) (x_int) (nomark _)) (x_one (x_cmp0 (o_eq hr.units) (x_dat (α := Int) (f_call T__law_primes (hr.mono (by decide)) gd rfl (a_cons (x_name 0 (pv 0) rfl) (a_nil)))) (x_dat (α := Int) (x_lst (l_cons (α := Int) (x_name 0 (pv 0) rfl) (l_nil)))) (nomark _))))))
  exact base.pure _ fun _ => rfl
/-! _law_common -/
def b__law_common (a_near : Int) (a_far : Int) : M Unit Int :=
  bd (whileM (fun w1 : Int × Int => bd (rt w1.2) fun v2 => bd (rt (0 : Int)) fun v3 => rt (decide (v3 < v2))) (fun w1 => bd (bd (rt w1.2) fun v10 => bd (bd (bd (bd (rt w1.1) fun v5 => grd (yes1 v5) (rt (v5))) fun v6 => bd (rt w1.2) fun v7 => grd (okMod v6 v7) (rt (v6 % v7))) fun v8 => bd (rt ()) fun v9 => rt (v8, v9)) fun v11 => rt (v10, v11)) fun w12 => rt ((w12.1, w12.2.1))) ((a_near, a_far))) fun w13 => rt w13.1
def m__law_common (a_near : Int) (a_far : Int) : Option Int := run (b__law_common a_near a_far)
abbrev s__law_common : Stmt := topS 30
abbrev N__law_common : List Str := ["near", "far"]
theorem sc__law_common : FnScope N__law_common ["near", "far"] (defScope s__law_common) := ⟨rfl, rfl, rfl, by decide +kernel, rfl, by decide +kernel, by decide +kernel⟩
abbrev P__law_common (pr : Program) (wd : World) (K : PySem.W.Frag) (mg : Str → Option Value) (bs : Heap) : Prop := Fx pr wd K mg bs "_law_common" s__law_common ["near", "far"] 1 (spF K (fun w : Int × Int × Unit => [enc w.1, enc w.2.1]) (dE) (fun w => m__law_common w.1 w.2.1))
theorem ok__law_common {pr : Program} {wd : World} {K : PySem.W.Frag} {mg : Str → Option Value} {bs : Heap} (Z : Zs K mg) (A : At K mg "_law_common" s__law_common ["near", "far"])  : P__law_common pr wd K mg bs := by
  have base := fx_R (pr := pr) (wd := wd) (bs := bs) (cs := cs0) (k := 0) (ea := (fun w : Int × Int × Unit => [enc w.1, enc w.2.1])) (s := dE) (m := fun w => b__law_common w.1 w.2.1) 0 0 A sc__law_common (fun _ => rfl) (fun _ => rfl) (fun _ => rfl) (fun f cd A oe s0 H E hr gd ⟨a_near, a_far, _u⟩ => by
    show PSs (cxOf CX0 pr wd K mg bs N__law_common "_law_common" (defScope s__law_common) f cd A oe s0 H E).nox (defBody s__law_common) (xR K cs0 [.dat (enc a_near), .dat (enc a_far)] (dE) (b__law_common a_near a_far))
    unfold b__law_common
    exact b_seqR (s_while (Γ' := (fun w : Int × Int => [.dat (enc w.1), .dat (enc w.2)])) ((a_near, a_far)) PassesOwn.never (.keep (.keep (.nil))) (fun w1 => t_cmp0 o_gt (x_name 1 (pv 1) rfl) (x_int) (nomark _)) (fun w1 => b_seqN (s_par2 0 1 rfl sc__law_common.nd rfl rfl (by decide) rfl rfl (a_cons (x_name 1 (pv 1) rfl) (a_cons (x_bin o_mod (c_1 k_int (fun h1 h2 => pe_callTy h1 rfl Z.z_int (by decide +kernel) h2) (x_name 0 (pv 0) rfl)) (x_name 1 (pv 1) rfl)) (a_nil))) (fun _ => rfl) (okA rfl) rfl) (fun w12 => b_nil ((w12.1, w12.2.1)) (.keep (.keep (.nil)))))) (fun w13 => b_ret (s_ret (x_name 0 (pv 0) rfl))))
  exact base.pure _ fun _ => rfl
/-! _law_number -/
def b__law_number (a_least : Int) : M Pot Int :=
  bd (bd (bd (rt (6 : Int)) fun v1 => bd (rt ()) fun v2 => rt (v1, v2)) fun w3 => m__law_draw w3.1) fun w4 => bd (bd (rt w4) fun v5 => bd (rt (0 : Int)) fun v6 => rt (decide (v5 = v6))) fun v7 => if v7 = true then bd (rt a_least) fun v11 => bd (bd (bd (rt (60 : Int)) fun v8 => bd (rt ()) fun v9 => rt (v8, v9)) fun w10 => m__law_draw w10.1) fun v12 => grd (yes2 v11 v12) (rt (if v12 > v11 then v12 else v11)) else bd (bd (rt w4) fun v13 => bd (rt (1 : Int)) fun v14 => rt (decide (v13 = v14))) fun v15 => if v15 = true then bd (rt a_least) fun v50 => bd (bd (bd (bd (bd (rt (561 : Int)) fun v44 => bd (bd (rt (1105 : Int)) fun v42 => bd (bd (rt (1729 : Int)) fun v40 => bd (bd (rt (2465 : Int)) fun v38 => bd (bd (rt (2821 : Int)) fun v36 => bd (bd (rt (6601 : Int)) fun v34 => bd (bd (rt (8911 : Int)) fun v32 => bd (bd (rt (2047 : Int)) fun v30 => bd (bd (rt (3277 : Int)) fun v28 => bd (bd (rt (4033 : Int)) fun v26 => bd (bd (bd (rt (1373653 : Int)) fun v16 => bd (rt (11 : Int)) fun v17 => grd (okDiv v16 v17) (rt (v16 / v17))) fun v24 => bd (bd (rt (999983 : Int)) fun v22 => bd (bd (rt (65537 : Int)) fun v20 => bd (bd (rt (524287 : Int)) fun v18 => bd (rt ([] : List Int)) fun v19 => rt (v18 :: v19)) fun v21 => rt (v20 :: v21)) fun v23 => rt (v22 :: v23)) fun v25 => rt (v24 :: v25)) fun v27 => rt (v26 :: v27)) fun v29 => rt (v28 :: v29)) fun v31 => rt (v30 :: v31)) fun v33 => rt (v32 :: v33)) fun v35 => rt (v34 :: v35)) fun v37 => rt (v36 :: v37)) fun v39 => rt (v38 :: v39)) fun v41 => rt (v40 :: v41)) fun v43 => rt (v42 :: v43)) fun v45 => rt (v44 :: v45)) fun l46 => grd (okLen l46.length) (rt l46)) fun v47 => bd (rt ()) fun v48 => rt (v47, v48)) fun w49 => m__law_pick w49.1) fun v51 => grd (yes2 v50 v51) (rt (if v51 > v50 then v51 else v50)) else bd (bd (rt w4) fun v52 => bd (rt (2 : Int)) fun v53 => rt (decide (v52 = v53))) fun v54 => if v54 = true then bd (rt a_least) fun v72 => bd (bd (bd (rt (2 : Int)) fun v63 => bd (bd (bd (rt (990 : Int)) fun v60 => bd (rt ()) fun v61 => rt (v60, v61)) fun w62 => m__law_draw w62.1) fun v64 => rt (v63 + v64)) fun v70 => bd (bd (rt (2 : Int)) fun v68 => bd (bd (bd (rt (990 : Int)) fun v65 => bd (rt ()) fun v66 => rt (v65, v66)) fun w67 => m__law_draw w67.1) fun v69 => rt (v68 + v69)) fun v71 => grd (okMul v70 v71) (rt (v70 * v71))) fun v73 => grd (yes2 v72 v73) (rt (if v73 > v72 then v73 else v72)) else bd (bd (rt w4) fun v74 => bd (rt (3 : Int)) fun v75 => rt (decide (v74 = v75))) fun v76 => if v76 = true then bd (bd (rt (2 : Int)) fun v80 => bd (bd (bd (rt (90 : Int)) fun v77 => bd (rt ()) fun v78 => rt (v77, v78)) fun w79 => m__law_draw w79.1) fun v81 => rt (v80 + v81)) fun w82 => bd (rt a_least) fun v101 => bd (bd (bd (rt w82) fun v85 => bd (rt w82) fun v86 => grd (okMul v85 v86) (rt (v85 * v86))) fun v99 => bd (bd (rt (1 : Int)) fun v97 => bd (bd (bd (bd (rt (2 : Int)) fun v90 => bd (rt ()) fun v91 => rt (v90, v91)) fun w92 => m__law_draw w92.1) fun v95 => bd (bd (rt w82) fun v93 => bd (rt (1 : Int)) fun v94 => rt (v93 - v94)) fun v96 => grd (okMul v95 v96) (rt (v95 * v96))) fun v98 => rt (v97 + v98)) fun v100 => grd (okMul v99 v100) (rt (v99 * v100))) fun v102 => grd (yes2 v101 v102) (rt (if v102 > v101 then v102 else v101)) else bd (rt a_least) fun v115 => bd (bd (rt (1 : Int)) fun v113 => bd (bd (bd (bd (bd (rt w4) fun v103 => bd (rt (4 : Int)) fun v104 => rt (decide (v103 = v104))) fun v107 => if v107 = true then rt (1000 : Int) else bd (rt (10 : Int)) fun v108 => bd (rt (6 : Int)) fun v109 => grd (okPow v108 v109) (rt (v108 ^ v109.toNat))) fun v110 => bd (rt ()) fun v111 => rt (v110, v111)) fun w112 => m__law_draw w112.1) fun v114 => rt (v113 + v114)) fun v116 => grd (yes2 v115 v116) (rt (if v116 > v115 then v116 else v115))
abbrev m__law_number (a_least : Int) : M Pot Int := b__law_number a_least
abbrev s__law_number : Stmt := topS 31
abbrev N__law_number : List Str := ["pot", "least", "way", "root"]
theorem sc__law_number : FnScope N__law_number ["pot", "least"] (defScope s__law_number) := ⟨rfl, rfl, rfl, by decide +kernel, rfl, by decide +kernel, by decide +kernel⟩
abbrev P__law_number (pr : Program) (wd : World) (K : PySem.W.Frag) (mg : Str → Option Value) (bs : Heap) : Prop := Fx pr wd K mg bs "_law_number" s__law_number ["pot", "least"] 3 (spM K csP (fun w : Int × Unit => [enc w.1]) (dE) (fun w => m__law_number w.1))
theorem ok__law_number {pr : Program} {wd : World} {K : PySem.W.Frag} {mg : Str → Option Value} {bs : Heap} (Z : Zs K mg) (A : At K mg "_law_number" s__law_number ["pot", "least"]) (T__law_draw : P__law_draw pr wd K mg bs) (T__law_pick : P__law_pick pr wd K mg bs) : P__law_number pr wd K mg bs := by
  have base := fx_R (pr := pr) (wd := wd) (bs := bs) (cs := csP) (k := 2) (ea := (fun w : Int × Unit => [enc w.1])) (s := dE) (m := fun w => b__law_number w.1) 1 2 A sc__law_number (fun _ => rfl) (fun _ => rfl) (fun _ => rfl) (fun f cd A oe s0 H E hr gd ⟨a_least, _u⟩ => by
    show PSs (cxOf CX0 pr wd K mg bs N__law_number "_law_number" (defScope s__law_number) f cd A oe s0 H E).nox (defBody s__law_number) (xR K csP [.bor 0, .dat (enc a_least), .un, .un] (dE) (b__law_number a_least))
    unfold b__law_number
    exact b_seqR (s_set 2 sc__law_number.nd rfl (Or.inl rfl) (f_callP 0 T__law_draw (hr.mono (by decide)) gd rfl (pv 0) rfl (a_cons (x_int) (a_nil)))) (fun w4 => b_ifret (t_cmp0 (o_eq hr.units) (x_name 2 (pv 2) rfl) (x_int) (nomark _)) (b_ret (s_ret (c_2 (k_max2 rfl) (fun h1 h2 => pe_callB h1 rfl Z.z_max (by decide +kernel) h2) (x_name 1 (pv 1) rfl) (f_callP 0 T__law_draw (hr.mono (by decide)) gd rfl (pv 0) rfl (a_cons (x_int) (a_nil)))))) (b_ifret (t_cmp0 (o_eq hr.units) (x_name 2 (pv 2) rfl) (x_int) (nomark _)) (b_ret (s_ret (c_2 (k_max2 rfl) (fun h1 h2 => pe_callB h1 rfl Z.z_max (by decide +kernel) h2) (x_name 1 (pv 1) rfl) (f_callP 0 T__law_pick (hr.mono (by decide)) gd rfl (pv 0) rfl (a_cons (x_dat (α := Int) (x_lst (l_cons (α := Int) (x_int) (l_cons (α := Int) (x_int) (l_cons (α := Int) (x_int) (l_cons (α := Int) (x_int) (l_cons (α := Int) (x_int) (l_cons (α := Int) (x_int) (l_cons (α := Int) (x_int) (l_cons (α := Int) (x_int) (l_cons (α := Int) (x_int) (l_cons (α := Int) (x_int) (l_cons (α := Int) (x_bin o_div (x_int) (x_int)) (l_cons (α := Int) (x_int) (l_cons (α := Int) (x_int) (l_cons (α := Int) (x_int) (l_nil))))))))))))))))) (a_nil)))))) (b_ifret (t_cmp0 (o_eq hr.units) (x_name 2 (pv 2) rfl) (x_int) (nomark _)) (b_ret (s_ret (c_2 (k_max2 rfl) (fun h1 h2 => pe_callB h1 rfl Z.z_max (by decide +kernel) h2) (x_name 1 (pv 1) rfl) (x_bin o_mul (x_bin0 o_add (x_int) (f_callP 0 T__law_draw (hr.mono (by decide)) gd rfl (pv 0) rfl (a_cons (x_int) (a_nil)))) (x_bin0 o_add (x_int) (f_callP 0 T__law_draw (hr.mono (by decide)) gd rfl (pv 0) rfl (a_cons (x_int) (a_nil)))))))) (b_ifret (t_cmp0 (o_eq hr.units) (x_name 2 (pv 2) rfl) (x_int) (nomark _)) (b_seqR (s_set 3 sc__law_number.nd rfl (Or.inl rfl) (x_bin0 o_add (x_int) (f_callP 0 T__law_draw (hr.mono (by decide)) gd rfl (pv 0) rfl (a_cons (x_int) (a_nil))))) (fun w82 => b_ret (s_ret (c_2 (k_max2 rfl) (fun h1 h2 => pe_callB h1 rfl Z.z_max (by decide +kernel) h2) (x_name 1 (pv 1) rfl) (x_bin o_mul (x_bin o_mul (x_name 3 (pv 3) rfl) (x_name 3 (pv 3) rfl)) (x_bin0 o_add (x_int) (x_bin o_mul (f_callP 0 T__law_draw (hr.mono (by decide)) gd rfl (pv 0) rfl (a_cons (x_int) (a_nil))) (x_bin0 o_sub (x_name 3 (pv 3) rfl) (x_int))))))))) (b_ret (s_ret (c_2 (k_max2 rfl) (fun h1 h2 => pe_callB h1 rfl Z.z_max (by decide +kernel) h2) (x_name 1 (pv 1) rfl) (x_bin0 o_add (x_int) (f_callP 0 T__law_draw (hr.mono (by decide)) gd rfl (pv 0) rfl (a_cons (x_if (t_cmp0 (o_eq hr.units) (x_name 2 (pv 2) rfl) (x_int) (nomark _)) (x_int) (x_bin o_pow (x_int) (x_int))) (a_nil))))))))))))
  exact base
/-! _law_heard -/
def b__law_heard (a_number : Int) : M Unit PyData :=
  bd (bd (rt ()) fun v1 => rt (enc v1)) fun w2 => bd (catX ("NotComposite" : Str) (thX (bd (bd (rt a_number) fun v3 => bd (rt ()) fun v4 => rt (v3, v4)) fun w5 => ofO (m_bar_prime w5.1)) fun v6 => rt (.inl (enc v6))) (bd (bd (rt (PySem.Str.ofString "none")) fun v8 => rt (enc v8)) fun w9 => rt (w9))) fun w13 => rt w13
def m__law_heard (a_number : Int) : Option PyData := run (b__law_heard a_number)
abbrev s__law_heard : Stmt := topS 32
abbrev N__law_heard : List Str := ["number", "told"]
theorem sc__law_heard : FnScope N__law_heard ["number"] (defScope s__law_heard) := ⟨rfl, rfl, rfl, by decide +kernel, rfl, by decide +kernel, by decide +kernel⟩
abbrev P__law_heard (pr : Program) (wd : World) (K : PySem.W.Frag) (mg : Str → Option Value) (bs : Heap) : Prop := Fx pr wd K mg bs "_law_heard" s__law_heard ["number"] 6 (spF K (fun w : Int × Unit => [enc w.1]) (dE) (fun w => m__law_heard w.1))
theorem ok__law_heard {pr : Program} {wd : World} {K : PySem.W.Frag} {mg : Str → Option Value} {bs : Heap} (Z : Zs K mg) (A : At K mg "_law_heard" s__law_heard ["number"]) (T_bar_prime : P_bar_prime pr wd K mg bs) : P__law_heard pr wd K mg bs := by
  have base := fx_R (pr := pr) (wd := wd) (bs := bs) (cs := cs0) (k := 5) (ea := (fun w : Int × Unit => [enc w.1])) (s := dE) (m := fun w => b__law_heard w.1) 0 1 A sc__law_heard (fun _ => rfl) (fun _ => rfl) (fun _ => rfl) (fun f cd A oe s0 H E hr gd ⟨a_number, _u⟩ => by
    show PSs (cxOf CX0 pr wd K mg bs N__law_heard "_law_heard" (defScope s__law_heard) f cd A oe s0 H E).nox (defBody s__law_heard) (xR K cs0 [.dat (enc a_number), .un] (dE) (b__law_heard a_number))
    unfold b__law_heard
    exact b_seqR (s_set 1 sc__law_heard.nd rfl (Or.inl rfl) (x_any (α := Unit) (x_non))) (fun w2 => b_seqR (s_tryOnly (Γ' := (fun w : PyData => [.dat (enc a_number), .dat (enc w)])) Z.x_NotComposite rfl rfl rfl (fun Wy pn xe tk => b_oneX (s_setX 1 sc__law_heard.nd rfl (Or.inl rfl) (x_anyX (α := (Option Int)) (f_callX T_bar_prime tk (hr.mono (by decide)) gd rfl (a_cons (x_name 0 (pv 0) rfl) (a_nil)))))) (fun a oe pn => b_seqN (s_set 1 sc__law_heard.nd rfl (Or.inl rfl) (x_any (α := Str) (x_str))) (fun w9 => b_nil (w9) (.keep (.keep (.nil)))))) (fun w13 => b_ret (s_ret (x_name 1 (pv 1) rfl)))))
  exact base.pure _ fun _ => rfl
/-! _law_bar -/
def b__law_bar (a_number : Int) : M Unit (Option Int) :=
  andB (bd (bd (bd (rt a_number) fun v2 => bd (rt ()) fun v3 => rt (v2, v3)) fun w4 => ofO (m__law_primes w4.1)) fun l34 => forB (fun x5 (w1 : Unit) => bd (bd (bd (bd (bd (rt a_number) fun v7 => grd (yes1 v7) (rt (v7))) fun v10 => bd (bd (rt x5) fun v8 => bd (rt x5) fun v9 => grd (okMul v8 v9) (rt (v8 * v9))) fun v11 => grd (okMod v10 v11) (rt (v10 % v11))) fun v12 => bd (rt (0 : Int)) fun v13 => rt (decide (v12 = v13))) fun v30 => if v30 = true then rt true else bd (bd (bd (bd (rt a_number) fun v21 => bd (rt (1 : Int)) fun v22 => rt (v21 - v22)) fun v23 => grd (yes1 v23) (rt (v23))) fun v26 => bd (bd (rt x5) fun v24 => bd (rt (1 : Int)) fun v25 => rt (v24 - v25)) fun v27 => grd (okMod v26 v27) (rt (v26 % v27))) fun v28 => bd (rt (0 : Int)) fun v29 => rt (!decide (v28 = v29))) fun v31 => if v31 = true then bd (bd (rt x5) fun v32 => rt (some v32)) fun r33 => rt (.inr r33) else rt (.inl ())) l34 (())) fun w35 => bd (rt ()) fun _ => rt (none : Option Int)
def m__law_bar (a_number : Int) : Option (Option Int) := run (b__law_bar a_number)
abbrev s__law_bar : Stmt := topS 33
abbrev N__law_bar : List Str := ["number", "prime"]
theorem sc__law_bar : FnScope N__law_bar ["number"] (defScope s__law_bar) := ⟨rfl, rfl, rfl, by decide +kernel, rfl, by decide +kernel, by decide +kernel⟩
abbrev P__law_bar (pr : Program) (wd : World) (K : PySem.W.Frag) (mg : Str → Option Value) (bs : Heap) : Prop := Fx pr wd K mg bs "_law_bar" s__law_bar ["number"] 2 (spF K (fun w : Int × Unit => [enc w.1]) (dE) (fun w => m__law_bar w.1))
theorem ok__law_bar {pr : Program} {wd : World} {K : PySem.W.Frag} {mg : Str → Option Value} {bs : Heap} (Z : Zs K mg) (A : At K mg "_law_bar" s__law_bar ["number"]) (T__law_primes : P__law_primes pr wd K mg bs) : P__law_bar pr wd K mg bs := by
  have base := fx_R (pr := pr) (wd := wd) (bs := bs) (cs := cs0) (k := 1) (ea := (fun w : Int × Unit => [enc w.1])) (s := dE) (m := fun w => b__law_bar w.1) 0 1 A sc__law_bar (fun _ => rfl) (fun _ => rfl) (fun _ => rfl) (fun f cd A oe s0 H E hr gd ⟨a_number, _u⟩ => by
    show PSs (cxOf CX0 pr wd K mg bs N__law_bar "_law_bar" (defScope s__law_bar) f cd A oe s0 H E).nox (defBody s__law_bar) (xR K cs0 [.dat (enc a_number), .un] (dE) (b__law_bar a_number))
    unfold b__law_bar
    exact b_loopR (s_forB (Γ' := (fun w : Unit => [.dat (enc a_number), .un])) (is := [1]) (()) PassesOwn.never rfl (i_list (x_dat (α := Int) (f_call T__law_primes (hr.mono (by decide)) gd rfl (a_cons (x_name 0 (pv 0) rfl) (a_nil))))) (pg_name (i := 1) sc__law_bar.nd rfl (Or.inl rfl)) (tg_name 1) (.keep (.drop (.nil))) (fun _ => okA rfl) (fun x5 w1 => b_ifretB (PW.pt (w_or (t_cmp0 (o_eq hr.units) (x_bin o_mod (c_1 k_int (fun h1 h2 => pe_callTy h1 rfl Z.z_int (by decide +kernel) h2) (x_name 0 (pv 0) rfl)) (x_bin o_mul (x_name 1 (pv 1) rfl) (x_name 1 (pv 1) rfl))) (x_int) (nomark _)) (w_or1 (t_cmp0 (o_ne hr.units) (x_bin o_mod (c_1 k_int (fun h1 h2 => pe_callTy h1 rfl Z.z_int (by decide +kernel) h2) (x_bin0 o_sub (x_name 0 (pv 0) rfl) (x_int))) (x_bin0 o_sub (x_name 1 (pv 1) rfl) (x_int))) (x_int) (nomark _))))) (b_ret (s_ret (x_some (α := Int) (x_name 1 (pv 1) rfl)))) (b_nilB (()) (.keep (.drop (.nil)))))) (fun w35 => b_ret (s_ret (x_noneO (α := Int) (x_non)))))
  exact base.pure _ fun _ => rfl
/-! _law_number_right -/
def b__law_number_right (a_number : Int) : M Unit Bool :=
  bd (bd (bd (rt a_number) fun v1 => bd (rt ()) fun v2 => rt (v1, v2)) fun w3 => ofO (m__law_is_prime w3.1)) fun w4 => bd (bd (bd (rt a_number) fun v5 => bd (rt (1 : Int)) fun v6 => rt (decide (v6 < v5))) fun v13 => if v13 = true then bd (bd (rt w4) fun v7 => rt (!v7)) fun v12 => if v12 = true then bd (bd (bd (rt a_number) fun v8 => bd (rt ()) fun v9 => rt (v8, v9)) fun w10 => ofO (m__law_bar w10.1)) fun v11 => rt (isN (enc v11)) else rt false else rt false) fun w14 => bd (bd (bd (bd (bd (bd (bd (rt a_number) fun v21 => bd (rt ()) fun v22 => rt (v21, v22)) fun w23 => ofO (m_do_all_lie w23.1)) fun v29 => bd (bd (bd (bd (rt a_number) fun v24 => bd (rt ()) fun v25 => rt (v24, v25)) fun w26 => ofO (m_do_all_lie w26.1)) fun v27 => bd (rt ([] : List Bool)) fun v28 => rt (v27 :: v28)) fun v30 => rt (v29 :: v30)) fun l31 => grd (okLen l31.length) (rt l31)) fun v32 => grd (okShow (enc v32)) (rt ((enc v32).shown))) fun v39 => bd (bd (bd (bd (rt w14) fun v35 => bd (bd (rt w14) fun v33 => bd (rt ([] : List Bool)) fun v34 => rt (v33 :: v34)) fun v36 => rt (v35 :: v36)) fun l37 => grd (okLen l37.length) (rt l37)) fun v38 => grd (okShow (enc v38)) (rt ((enc v38).shown))) fun v40 => rt (!decide (v39 = v40))) fun v41 => if v41 = true then rt false else bd (bd (bd (bd (rt a_number) fun v42 => bd (rt (1 : Int)) fun v43 => rt (decide (v42 = v43))) fun v44 => if v44 = true then rt true else rt w4) fun v48 => if v48 = true then bd (rt (PySem.Str.ofString "none")) fun v49 => rt (enc v49) else bd (bd (bd (rt a_number) fun v50 => bd (rt ()) fun v51 => rt (v50, v51)) fun w52 => ofO (m__law_bar w52.1)) fun v53 => rt (enc v53)) fun w54 => bd (bd (bd (bd (bd (bd (rt a_number) fun v55 => bd (rt ()) fun v56 => rt (v55, v56)) fun w57 => ofO (m__law_heard w57.1)) fun v58 => grd (okShow (enc v58)) (rt ((enc v58).shown))) fun v60 => bd (bd (rt w54) fun v59 => grd (okShow (enc v59)) (rt ((enc v59).shown))) fun v61 => rt (!decide (v60 = v61))) fun v76 => if v76 = true then rt true else bd (rt w14) fun v75 => if v75 = true then bd (bd (bd (bd (rt a_number) fun v63 => grd (yes1 v63) (rt (v63))) fun v64 => bd (rt (2 : Int)) fun v65 => grd (okMod v64 v65) (rt (v64 % v65))) fun v66 => bd (rt (0 : Int)) fun v67 => rt (decide (v66 = v67))) fun v74 => if v74 = true then rt true else bd (bd (bd (bd (rt a_number) fun v68 => bd (rt ()) fun v69 => rt (v68, v69)) fun w70 => ofO (m__law_primes w70.1)) fun v71 => grd (yes1 v71) (rt ((v71.length : Int)))) fun v72 => bd (rt (3 : Int)) fun v73 => rt (decide (v72 < v73)) else rt false) fun v77 => if v77 = true then rt false else rt true
def m__law_number_right (a_number : Int) : Option Bool := run (b__law_number_right a_number)
abbrev s__law_number_right : Stmt := topS 34
abbrev N__law_number_right : List Str := ["number", "is_prime", "due", "bar"]
theorem sc__law_number_right : FnScope N__law_number_right ["number"] (defScope s__law_number_right) := ⟨rfl, rfl, rfl, by decide +kernel, rfl, by decide +kernel, by decide +kernel⟩
abbrev P__law_number_right (pr : Program) (wd : World) (K : PySem.W.Frag) (mg : Str → Option Value) (bs : Heap) : Prop := Fx pr wd K mg bs "_law_number_right" s__law_number_right ["number"] 7 (spF K (fun w : Int × Unit => [enc w.1]) (dE) (fun w => m__law_number_right w.1))
theorem ok__law_number_right {pr : Program} {wd : World} {K : PySem.W.Frag} {mg : Str → Option Value} {bs : Heap} (Z : Zs K mg) (A : At K mg "_law_number_right" s__law_number_right ["number"]) (T__law_bar : P__law_bar pr wd K mg bs) (T__law_heard : P__law_heard pr wd K mg bs) (T__law_is_prime : P__law_is_prime pr wd K mg bs) (T__law_primes : P__law_primes pr wd K mg bs) (T_do_all_lie : P_do_all_lie pr wd K mg bs) : P__law_number_right pr wd K mg bs := by
  have base := fx_R (pr := pr) (wd := wd) (bs := bs) (cs := cs0) (k := 6) (ea := (fun w : Int × Unit => [enc w.1])) (s := dE) (m := fun w => b__law_number_right w.1) 0 3 A sc__law_number_right (fun _ => rfl) (fun _ => rfl) (fun _ => rfl) (fun f cd A oe s0 H E hr gd ⟨a_number, _u⟩ => by
    show PSs (cxOf CX0 pr wd K mg bs N__law_number_right "_law_number_right" (defScope s__law_number_right) f cd A oe s0 H E).nox (defBody s__law_number_right) (xR K cs0 [.dat (enc a_number), .un, .un, .un] (dE) (b__law_number_right a_number))
    unfold b__law_number_right
    exact b_seqR (s_set 1 sc__law_number_right.nd rfl (Or.inl rfl) (f_call T__law_is_prime (hr.mono (by decide)) gd rfl (a_cons (x_name 0 (pv 0) rfl) (a_nil)))) (fun w4 => b_seqR (s_set 2 sc__law_number_right.nd rfl (Or.inl rfl) (x_and (x_cmp0 o_gt (x_name 0 (pv 0) rfl) (x_int) (nomark _)) (x_and (x_not (x_name 1 (pv 1) rfl)) (x_one (x_isNone (α := (Option Int)) (f_call T__law_bar (hr.mono (by decide)) gd rfl (a_cons (x_name 0 (pv 0) rfl) (a_nil)))))))) (fun w14 => b_ifret (t_cmp0 o_neS (c_1 (k_repr gd (hu100 hr)) (fun h1 h2 => pe_callB h1 rfl Z.z_repr (by decide +kernel) h2) (x_dat (α := Bool) (x_lst (l_cons (α := Bool) (f_call T_do_all_lie (hr.mono (by decide)) gd rfl (a_cons (x_name 0 (pv 0) rfl) (a_nil))) (l_cons (α := Bool) (f_callK (g := fun w : Int × Unit => m_do_all_lie w.1) (ks := ["number"]) (ek := fun w : Int × Unit => [enc w.1]) [0] (fun w26 : Int × Unit => (w26.1, ())) T_do_all_lie (hr.mono (by decide)) gd rfl (fun _ _ _ _ _ _ ws h => match ws, h with | [_], _ => rfl) (k_cons (x_name 0 (pv 0) rfl) (k_nil)) (fun _ => rfl) (fun _ => rfl) (fun _ => rfl)) (l_nil)))))) (c_1 (k_repr gd (hu100 hr)) (fun h1 h2 => pe_callB h1 rfl Z.z_repr (by decide +kernel) h2) (x_dat (α := Bool) (x_lst (l_cons (α := Bool) (x_name 2 (pv 2) rfl) (l_cons (α := Bool) (x_name 2 (pv 2) rfl) (l_nil)))))) (nomark _)) (b_ret (s_ret (x_bl))) (b_seqR (s_set 3 sc__law_number_right.nd rfl (Or.inl rfl) (x_if (PW.pt (w_or (t_cmp0 (o_eq hr.units) (x_name 0 (pv 0) rfl) (x_int) (nomark _)) (w_or1 (t_val (x_name 1 (pv 1) rfl))))) (x_any (α := Str) (x_str)) (x_any (α := (Option Int)) (f_call T__law_bar (hr.mono (by decide)) gd rfl (a_cons (x_name 0 (pv 0) rfl) (a_nil)))))) (fun w54 => b_ifret (PW.pt (w_or (t_cmp0 o_neS (c_1 (k_repr gd (hu100 hr)) (fun h1 h2 => pe_callB h1 rfl Z.z_repr (by decide +kernel) h2) (f_call T__law_heard (hr.mono (by decide)) gd rfl (a_cons (x_name 0 (pv 0) rfl) (a_nil)))) (c_1 (k_repr gd (hu100 hr)) (fun h1 h2 => pe_callB h1 rfl Z.z_repr (by decide +kernel) h2) (x_name 3 (pv 3) rfl)) (nomark _)) (w_or1 (PW.pt (w_and (t_val (x_name 2 (pv 2) rfl)) (w_and1 (PW.pt (w_or (t_cmp0 (o_eq hr.units) (x_bin o_mod (c_1 k_int (fun h1 h2 => pe_callTy h1 rfl Z.z_int (by decide +kernel) h2) (x_name 0 (pv 0) rfl)) (x_int)) (x_int) (nomark _)) (w_or1 (t_cmp0 o_lt (c_1 k_len (fun h1 h2 => pe_callB h1 rfl Z.z_len (by decide +kernel) h2) (x_dat (α := Int) (f_call T__law_primes (hr.mono (by decide)) gd rfl (a_cons (x_name 0 (pv 0) rfl) (a_nil))))) (x_int) (nomark _))))))))))) (b_ret (s_ret (x_bl))) (b_ret (s_ret (x_bl))))))))
  exact base.pure _ fun _ => rfl
/-! _law_units_right -/
def b__law_units_right (a_number : Int) : M Pot Bool :=
  bd (bd (bd (rt (1 : Int)) fun v1 => bd (rt a_number) fun v2 => rng2 v1 v2) fun l4 => bd (filMM (fun x3 => bd (bd (bd (rt x3) fun v8 => bd (bd (rt a_number) fun v6 => bd (rt ()) fun v7 => rt (v6, v7)) fun v9 => rt (v8, v9)) fun w10 => ofO (m__law_common w10.1 w10.2.1)) fun v11 => bd (rt (1 : Int)) fun v12 => rt (decide (v11 = v12))) (fun x3 => rt x3) l4) fun r5 => grd (okLen r5.length) (rt r5)) fun w13 => bd (bd (bd (rt w13) fun l26 => bd (mapMM (fun x14 => bd (bd (bd (rt a_number) fun v21 => bd (bd (rt x14) fun v19 => bd (bd (bd (rt a_number) fun v15 => bd (rt (1 : Int)) fun v16 => rt (v15 - v16)) fun v17 => bd (rt ()) fun v18 => rt (v17, v18)) fun v20 => rt (v19, v20)) fun v22 => rt (v21, v22)) fun w23 => ofO (m__law_power w23.1 w23.2.1 w23.2.2.1)) fun v24 => bd (rt (1 : Int)) fun v25 => rt (decide (v24 = v25))) l26) fun r27 => grd (okLen r27.length) (rt r27)) fun v28 => grd (yes1 v28) (rt (v28.all fun b => b))) fun w29 => bd (bd (bd (rt a_number) fun v30 => bd (rt ()) fun v31 => rt (v30, v31)) fun w32 => ofO (m_do_all_lie w32.1)) fun v41 => bd (bd (rt w29) fun v40 => if v40 = true then bd (bd (rt a_number) fun v33 => bd (rt (2 : Int)) fun v34 => rt (decide (v34 < v33))) fun v39 => if v39 = true then bd (bd (bd (rt a_number) fun v35 => bd (rt ()) fun v36 => rt (v35, v36)) fun w37 => ofO (m__law_is_prime w37.1)) fun v38 => rt (!v38) else rt false else rt false) fun v42 => rt (decide (v41 = v42))
abbrev m__law_units_right (a_number : Int) : M Pot Bool := b__law_units_right a_number
abbrev s__law_units_right : Stmt := topS 35
abbrev N__law_units_right : List Str := ["pot", "number", "units", "one", "all_lie"]
theorem sc__law_units_right : FnScope N__law_units_right ["pot", "number"] (defScope s__law_units_right) := ⟨rfl, rfl, rfl, by decide +kernel, rfl, by decide +kernel, by decide +kernel⟩
abbrev P__law_units_right (pr : Program) (wd : World) (K : PySem.W.Frag) (mg : Str → Option Value) (bs : Heap) : Prop := Fx pr wd K mg bs "_law_units_right" s__law_units_right ["pot", "number"] 6 (spM K csP (fun w : Int × Unit => [enc w.1]) (dE) (fun w => m__law_units_right w.1))
theorem ok__law_units_right {pr : Program} {wd : World} {K : PySem.W.Frag} {mg : Str → Option Value} {bs : Heap} (Z : Zs K mg) (A : At K mg "_law_units_right" s__law_units_right ["pot", "number"]) (T__law_common : P__law_common pr wd K mg bs) (T__law_is_prime : P__law_is_prime pr wd K mg bs) (T__law_power : P__law_power pr wd K mg bs) (T_do_all_lie : P_do_all_lie pr wd K mg bs) : P__law_units_right pr wd K mg bs := by
  have base := fx_R (pr := pr) (wd := wd) (bs := bs) (cs := csP) (k := 5) (ea := (fun w : Int × Unit => [enc w.1])) (s := dE) (m := fun w => b__law_units_right w.1) 1 3 A sc__law_units_right (fun _ => rfl) (fun _ => rfl) (fun _ => rfl) (fun f cd A oe s0 H E hr gd ⟨a_number, _u⟩ => by
    show PSs (cxOf CX0 pr wd K mg bs N__law_units_right "_law_units_right" (defScope s__law_units_right) f cd A oe s0 H E).nox (defBody s__law_units_right) (xR K csP [.bor 0, .dat (enc a_number), .un, .un, .un] (dE) (b__law_units_right a_number))
    unfold b__law_units_right
    exact b_seqR (s_lcif 2 (own := [("one", 3)]) (is := [3]) rfl sc__law_units_right.nd rfl rfl (sw_true rfl rfl rfl (by decide +kernel)) (i_rng2 (x_int) (x_name 1 (pv 1) rfl) rfl Z.z_range) (blkOk_by (own := [("one", 3)]) (N := N__law_units_right) (sc := defScope s__law_units_right) (by decide +kernel)) (fun _ _ _ _ _ => pg_name (i := 3) sc__law_units_right.nd rfl (Or.inl rfl)) (tg_name 3) (by decide) (okA rfl) (fun _ _ _ _ _ x3 => t_cmp0 (o_eq hr.units) (f_call T__law_common (hr.mono (by decide)) gd rfl (a_cons (x_name 3 (pv 3) rfl) (a_cons (x_name 1 (pv 1) rfl) (a_nil)))) (x_int) (nomark _)) (fun _ _ _ _ _ x3 => x_name 3 (pv 3) rfl)) (fun w13 => b_frzR 2 rfl (b_seqR (s_set 4 sc__law_units_right.nd rfl (Or.inl rfl) (c_1 (k_all rfl) (fun h1 h2 => pe_callB h1 rfl Z.z_all (by decide +kernel) h2) (x_dat (α := Bool) (x_lc (own := [("one", 3)]) (is := [3]) rfl sc__law_units_right.nd (i_list (x_name 2 (pv 2) rfl)) (blkOk_by (own := [("one", 3)]) (N := N__law_units_right) (sc := defScope s__law_units_right) (by decide +kernel)) (fun _ _ _ _ _ => pg_name (i := 3) sc__law_units_right.nd rfl (Or.inl rfl)) (tg_name 3) (by decide) (okA rfl) (fun _ _ _ _ _ x14 => x_cmp0 (o_eq hr.units) (f_call T__law_power (hr.mono (by decide)) gd rfl (a_cons (x_name 1 (pv 1) rfl) (a_cons (x_name 3 (pv 3) rfl) (a_cons (x_bin0 o_sub (x_name 1 (pv 1) rfl) (x_int)) (a_nil))))) (x_int) (nomark _)))))) (fun w29 => b_ret (s_ret (x_cmp0 (o_eq hr.units) (f_call T_do_all_lie (hr.mono (by decide)) gd rfl (a_cons (x_name 1 (pv 1) rfl) (a_nil))) (x_and (x_name 4 (pv 4) rfl) (x_and (x_cmp0 o_gt (x_name 1 (pv 1) rfl) (x_int) (nomark _)) (x_one (x_not (f_call T__law_is_prime (hr.mono (by decide)) gd rfl (a_cons (x_name 1 (pv 1) rfl) (a_nil))))))) (nomark _)))))))
  exact base
/-! _law_threes_right -/
def b__law_threes_right  : M Pot Bool :=
  bd (bd (rt (1 : Int)) fun v4 => bd (bd (bd (rt (8 : Int)) fun v1 => bd (rt ()) fun v2 => rt (v1, v2)) fun w3 => m__law_draw w3.1) fun v5 => rt (v4 + v5)) fun w6 => bd (bd (bd (bd (rt (6 : Int)) fun v9 => bd (rt w6) fun v10 => grd (okMul v9 v10) (rt (v9 * v10))) fun v11 => bd (rt (1 : Int)) fun v12 => rt (v11 + v12)) fun v29 => bd (bd (bd (bd (rt (12 : Int)) fun v15 => bd (rt w6) fun v16 => grd (okMul v15 v16) (rt (v15 * v16))) fun v17 => bd (rt (1 : Int)) fun v18 => rt (v17 + v18)) fun v27 => bd (bd (bd (bd (rt (18 : Int)) fun v21 => bd (rt w6) fun v22 => grd (okMul v21 v22) (rt (v21 * v22))) fun v23 => bd (rt (1 : Int)) fun v24 => rt (v23 + v24)) fun v25 => bd (rt ()) fun v26 => rt (v25, v26)) fun v28 => rt (v27, v28)) fun v30 => rt (v29, v30)) fun w31 => bd (bd (bd (bd (bd (bd (bd (bd (rt w31.1) fun v36 => bd (bd (rt w31.2.1) fun v34 => bd (bd (rt w31.2.2.1) fun v32 => bd (rt ([] : List Int)) fun v33 => rt (v32 :: v33)) fun v35 => rt (v34 :: v35)) fun v37 => rt (v36 :: v37)) fun l38 => grd (okLen l38.length) (rt (Tup.mk l38))) fun v39 => rt v39.l) fun l44 => bd (mapMM (fun x40 => bd (bd (rt x40) fun v41 => bd (rt ()) fun v42 => rt (v41, v42)) fun w43 => ofO (m__law_is_prime w43.1)) l44) fun r45 => grd (okLen r45.length) (rt r45)) fun v46 => grd (yes1 v46) (rt (v46.all fun b => b))) fun v47 => rt (!v47)) fun v58 => if v58 = true then rt true else bd (bd (bd (rt w31.1) fun v50 => bd (rt w31.2.1) fun v51 => grd (okMul v50 v51) (rt (v50 * v51))) fun v52 => bd (rt w31.2.2.1) fun v53 => grd (okMul v52 v53) (rt (v52 * v53))) fun v56 => bd (bd (rt (10 : Int)) fun v54 => bd (rt (6 : Int)) fun v55 => grd (okPow v54 v55) (rt (v54 ^ v55.toNat))) fun v57 => rt (decide (v57 < v56))) fun v59 => if v59 = true then rt true else bd (bd (bd (bd (bd (bd (rt w31.1) fun v62 => bd (rt w31.2.1) fun v63 => grd (okMul v62 v63) (rt (v62 * v63))) fun v64 => bd (rt w31.2.2.1) fun v65 => grd (okMul v64 v65) (rt (v64 * v65))) fun v66 => bd (rt ()) fun v67 => rt (v66, v67)) fun w68 => ofO (m_do_all_lie w68.1)) fun v69 => bd (rt true) fun v70 => rt (decide (v69 = v70))) fun v89 => if v89 = true then bd (bd (bd (bd (bd (bd (rt w31.1) fun v73 => bd (rt w31.2.1) fun v74 => grd (okMul v73 v74) (rt (v73 * v74))) fun v75 => bd (rt w31.2.2.1) fun v76 => grd (okMul v75 v76) (rt (v75 * v76))) fun v77 => bd (rt ()) fun v78 => rt (v77, v78)) fun w79 => ofO (noX (m_bar_prime w79.1))) fun v80 => rt (isN (enc v80))) fun v88 => if v88 = true then bd (bd (bd (bd (rt w31.1) fun v81 => bd (rt w31.2.1) fun v82 => grd (okMul v81 v82) (rt (v81 * v82))) fun v83 => bd (rt ()) fun v84 => rt (v83, v84)) fun w85 => ofO (m_do_all_lie w85.1)) fun v86 => bd (rt false) fun v87 => rt (decide (v86 = v87)) else rt false else rt false
abbrev m__law_threes_right  : M Pot Bool := b__law_threes_right 
abbrev s__law_threes_right : Stmt := topS 36
abbrev N__law_threes_right : List Str := ["pot", "step", "near", "middle", "far", "one"]
theorem sc__law_threes_right : FnScope N__law_threes_right ["pot"] (defScope s__law_threes_right) := ⟨rfl, rfl, rfl, by decide +kernel, rfl, by decide +kernel, by decide +kernel⟩
abbrev P__law_threes_right (pr : Program) (wd : World) (K : PySem.W.Frag) (mg : Str → Option Value) (bs : Heap) : Prop := Fx pr wd K mg bs "_law_threes_right" s__law_threes_right ["pot"] 6 (spM K csP (fun w : Unit => []) (dE) (fun w => m__law_threes_right ))
theorem ok__law_threes_right {pr : Program} {wd : World} {K : PySem.W.Frag} {mg : Str → Option Value} {bs : Heap} (Z : Zs K mg) (A : At K mg "_law_threes_right" s__law_threes_right ["pot"]) (T__law_draw : P__law_draw pr wd K mg bs) (T__law_is_prime : P__law_is_prime pr wd K mg bs) (T_bar_prime : P_bar_prime pr wd K mg bs) (T_do_all_lie : P_do_all_lie pr wd K mg bs) : P__law_threes_right pr wd K mg bs := by
  have base := fx_R (pr := pr) (wd := wd) (bs := bs) (cs := csP) (k := 5) (ea := (fun w : Unit => [])) (s := dE) (m := fun w => b__law_threes_right ) 1 5 A sc__law_threes_right (fun _ => rfl) (fun _ => rfl) (fun _ => rfl) (fun f cd A oe s0 H E hr gd _u => by
    show PSs (cxOf CX0 pr wd K mg bs N__law_threes_right "_law_threes_right" (defScope s__law_threes_right) f cd A oe s0 H E).nox (defBody s__law_threes_right) (xR K csP [.bor 0, .un, .un, .un, .un, .un] (dE) (b__law_threes_right ))
    unfold b__law_threes_right
    exact b_seqR (s_set 1 sc__law_threes_right.nd rfl (Or.inl rfl) (x_bin0 o_add (x_int) (f_callP 0 T__law_draw (hr.mono (by decide)) gd rfl (pv 0) rfl (a_cons (x_int) (a_nil))))) (fun w6 => b_seqR (s_par3 2 3 4 rfl sc__law_threes_right.nd rfl rfl rfl (by decide) (by decide) (by decide) rfl rfl rfl (a_cons (x_bin0 o_add (x_bin o_mul (x_int) (x_name 1 (pv 1) rfl)) (x_int)) (a_cons (x_bin0 o_add (x_bin o_mul (x_int) (x_name 1 (pv 1) rfl)) (x_int)) (a_cons (x_bin0 o_add (x_bin o_mul (x_int) (x_name 1 (pv 1) rfl)) (x_int)) (a_nil)))) (fun _ => rfl) (okA rfl) rfl) (fun w31 => b_ifret (PW.pt (w_or (t_not (t_val (c_1 (k_all rfl) (fun h1 h2 => pe_callB h1 rfl Z.z_all (by decide +kernel) h2) (x_dat (α := Bool) (x_lc (own := [("one", 5)]) (is := [5]) rfl sc__law_threes_right.nd (i_tupL (x_tupL (l_cons (α := Int) (x_name 2 (pv 2) rfl) (l_cons (α := Int) (x_name 3 (pv 3) rfl) (l_cons (α := Int) (x_name 4 (pv 4) rfl) (l_nil)))))) (blkOk_by (own := [("one", 5)]) (N := N__law_threes_right) (sc := defScope s__law_threes_right) (by decide +kernel)) (fun _ _ _ _ _ => pg_name (i := 5) sc__law_threes_right.nd rfl (Or.inl rfl)) (tg_name 5) (by decide) (okA rfl) (fun _ _ _ _ _ x40 => f_call T__law_is_prime (hr.mono (by decide)) gd rfl (a_cons (x_name 5 (pv 5) rfl) (a_nil)))))))) (w_or1 (t_cmp0 o_gt (x_bin o_mul (x_bin o_mul (x_name 2 (pv 2) rfl) (x_name 3 (pv 3) rfl)) (x_name 4 (pv 4) rfl)) (x_bin o_pow (x_int) (x_int)) (nomark _))))) (b_ret (s_ret (x_bl))) (b_ret (s_ret (x_and (x_cmp0 o_isB (f_call T_do_all_lie (hr.mono (by decide)) gd rfl (a_cons (x_bin o_mul (x_bin o_mul (x_name 2 (pv 2) rfl) (x_name 3 (pv 3) rfl)) (x_name 4 (pv 4) rfl)) (a_nil))) (x_bl) (nomark _)) (x_and (x_isNone (α := (Option Int)) (f_call (T_bar_prime.calm) (hr.mono (by decide)) gd rfl (a_cons (x_bin o_mul (x_bin o_mul (x_name 2 (pv 2) rfl) (x_name 3 (pv 3) rfl)) (x_name 4 (pv 4) rfl)) (a_nil)))) (x_one (x_cmp0 o_isB (f_call T_do_all_lie (hr.mono (by decide)) gd rfl (a_cons (x_bin o_mul (x_name 2 (pv 2) rfl) (x_name 3 (pv 3) rfl)) (a_nil))) (x_bl) (nomark _))))))))))
  exact base
/-! _law_list_right -/
def b__law_list_right  : M Pot Bool :=
  bd (bd (rt (1 : Int)) fun v4 => bd (bd (bd (rt (10000 : Int)) fun v1 => bd (rt ()) fun v2 => rt (v1, v2)) fun w3 => m__law_draw w3.1) fun v5 => rt (v4 + v5)) fun w6 => bd (bd (bd (bd (rt (561 : Int)) fun v19 => bd (bd (rt (1105 : Int)) fun v17 => bd (bd (rt (1729 : Int)) fun v15 => bd (bd (rt (2465 : Int)) fun v13 => bd (bd (rt (2821 : Int)) fun v11 => bd (bd (rt (6601 : Int)) fun v9 => bd (bd (rt (8911 : Int)) fun v7 => bd (rt ([] : List Int)) fun v8 => rt (v7 :: v8)) fun v10 => rt (v9 :: v10)) fun v12 => rt (v11 :: v12)) fun v14 => rt (v13 :: v14)) fun v16 => rt (v15 :: v16)) fun v18 => rt (v17 :: v18)) fun v20 => rt (v19 :: v20)) fun l21 => grd (okLen l21.length) (rt l21)) fun l23 => bd (filMM (fun x22 => bd (rt x22) fun v25 => bd (rt w6) fun v26 => rt (decide (v25 ≤ v26))) (fun x22 => rt x22) l23) fun r24 => grd (okLen r24.length) (rt r24)) fun w27 => bd (bd (bd (rt w6) fun v28 => bd (rt ()) fun v29 => rt (v28, v29)) fun w30 => ofO (m_all_liars_to w30.1)) fun w31 => bd (bd (bd (bd (bd (rt w31) fun v40 => bd (bd (bd (bd (rt w6) fun v35 => bd (rt ()) fun v36 => rt (v35, v36)) fun w37 => ofO (m_all_liars_to w37.1)) fun v38 => bd (rt ([] : List (List Int))) fun v39 => rt (v38 :: v39)) fun v41 => rt (v40 :: v41)) fun l42 => grd (okLen l42.length) (rt l42)) fun v43 => grd (okShow (enc v43)) (rt ((enc v43).shown))) fun v50 => bd (bd (bd (bd (rt w27) fun v46 => bd (bd (rt w27) fun v44 => bd (rt ([] : List (List Int))) fun v45 => rt (v44 :: v45)) fun v47 => rt (v46 :: v47)) fun l48 => grd (okLen l48.length) (rt l48)) fun v49 => grd (okShow (enc v49)) (rt ((enc v49).shown))) fun v51 => rt (!decide (v50 = v51))) fun v52 => if v52 = true then rt false else bd (grd (okLen (w31.map enc).length) (rt ())) fun w53 => bd (bd (bd (bd (bd (rt w6) fun v54 => bd (rt (600 : Int)) fun v55 => grd (yes2 v54 v55) (rt (if v55 < v54 then v55 else v54))) fun v56 => bd (rt ()) fun v57 => rt (v56, v57)) fun w58 => ofO (m_all_liars_to w58.1)) fun v59 => grd (okShow (enc v59)) (rt ((enc v59).shown))) fun v66 => bd (bd (bd (rt w27) fun l61 => bd (filMM (fun x60 => bd (rt x60) fun v63 => bd (rt (600 : Int)) fun v64 => rt (decide (v63 ≤ v64))) (fun x60 => rt x60) l61) fun r62 => grd (okLen r62.length) (rt r62)) fun v65 => grd (okShow (enc v65)) (rt ((enc v65).shown))) fun v67 => rt (decide (v66 = v67))
abbrev m__law_list_right  : M Pot Bool := b__law_list_right 
abbrev s__law_list_right : Stmt := topS 37
abbrev N__law_list_right : List Str := ["pot", "number", "due", "one", "told"]
theorem sc__law_list_right : FnScope N__law_list_right ["pot"] (defScope s__law_list_right) := ⟨rfl, rfl, rfl, by decide +kernel, rfl, by decide +kernel, by decide +kernel⟩
abbrev P__law_list_right (pr : Program) (wd : World) (K : PySem.W.Frag) (mg : Str → Option Value) (bs : Heap) : Prop := Fx pr wd K mg bs "_law_list_right" s__law_list_right ["pot"] 6 (spM K csP (fun w : Unit => []) (dE) (fun w => m__law_list_right ))
theorem ok__law_list_right {pr : Program} {wd : World} {K : PySem.W.Frag} {mg : Str → Option Value} {bs : Heap} (Z : Zs K mg) (A : At K mg "_law_list_right" s__law_list_right ["pot"]) (T__law_draw : P__law_draw pr wd K mg bs) (T_all_liars_to : P_all_liars_to pr wd K mg bs) : P__law_list_right pr wd K mg bs := by
  have base := fx_R (pr := pr) (wd := wd) (bs := bs) (cs := csP) (k := 5) (ea := (fun w : Unit => [])) (s := dE) (m := fun w => b__law_list_right ) 1 4 A sc__law_list_right (fun _ => rfl) (fun _ => rfl) (fun _ => rfl) (fun f cd A oe s0 H E hr gd _u => by
    show PSs (cxOf CX0 pr wd K mg bs N__law_list_right "_law_list_right" (defScope s__law_list_right) f cd A oe s0 H E).nox (defBody s__law_list_right) (xR K csP [.bor 0, .un, .un, .un, .un] (dE) (b__law_list_right ))
    unfold b__law_list_right
    exact b_seqR (s_set 1 sc__law_list_right.nd rfl (Or.inr rfl) (x_bin0 o_add (x_int) (f_callP 0 T__law_draw (hr.mono (by decide)) gd rfl (pv 0) rfl (a_cons (x_int) (a_nil))))) (fun w6 => b_seqR (s_lcif 2 (own := [("one", 3)]) (is := [3]) rfl sc__law_list_right.nd rfl rfl (sw_true rfl rfl rfl (by decide +kernel)) (i_list (x_dat (α := Int) (x_lst (l_cons (α := Int) (x_int) (l_cons (α := Int) (x_int) (l_cons (α := Int) (x_int) (l_cons (α := Int) (x_int) (l_cons (α := Int) (x_int) (l_cons (α := Int) (x_int) (l_cons (α := Int) (x_int) (l_nil))))))))))) (blkOk_by (own := [("one", 3)]) (N := N__law_list_right) (sc := defScope s__law_list_right) (by decide +kernel)) (fun _ _ _ _ _ => pg_name (i := 3) sc__law_list_right.nd rfl (Or.inl rfl)) (tg_name 3) (by decide) (okA rfl) (fun _ _ _ _ _ x22 => t_cmp0 o_le (x_name 3 (pv 3) rfl) (x_name 1 (pv 1) rfl) (nomark _)) (fun _ _ _ _ _ x22 => x_name 3 (pv 3) rfl)) (fun w27 => b_seqR (s_set 4 sc__law_list_right.nd rfl (Or.inl rfl) (f_call T_all_liars_to (hr.mono (by decide)) gd rfl (a_cons (x_name 1 (pv 1) rfl) (a_nil)))) (fun w31 => b_frzR 2 rfl (b_ifret (t_frz 4 rfl (t_cmp0 o_neS (c_1 (k_repr gd (hu100 hr)) (fun h1 h2 => pe_callB h1 rfl Z.z_repr (by decide +kernel) h2) (x_dat (α := (List Int)) (x_lst (l_cons (α := (List Int)) (x_name 4 (pv 4) rfl) (l_cons (α := (List Int)) (x_dat (α := Int) (f_callK (g := fun w : Int × Unit => m_all_liars_to w.1) (ks := ["number"]) (ek := fun w : Int × Unit => [enc w.1]) [0] (fun w37 : Int × Unit => (w37.1, ())) T_all_liars_to (hr.mono (by decide)) gd rfl (fun _ _ _ _ _ _ ws h => match ws, h with | [_], _ => rfl) (k_cons (x_name 1 (pv 1) rfl) (k_nil)) (fun _ => rfl) (fun _ => rfl) (fun _ => rfl))) (l_nil)))))) (c_1 (k_repr gd (hu100 hr)) (fun h1 h2 => pe_callB h1 rfl Z.z_repr (by decide +kernel) h2) (x_dat (α := (List Int)) (x_lst (l_cons (α := (List Int)) (x_name 2 (pv 2) rfl) (l_cons (α := (List Int)) (x_name 2 (pv 2) rfl) (l_nil)))))) (nomark _))) (b_ret (s_ret (x_bl))) (b_seqR (s_spoil 4 (pv 4) rfl) (fun w53 => b_ret (s_ret (x_cmp0 o_eqS (c_1 (k_repr gd (hu100 hr)) (fun h1 h2 => pe_callB h1 rfl Z.z_repr (by decide +kernel) h2) (x_dat (α := Int) (f_call T_all_liars_to (hr.mono (by decide)) gd rfl (a_cons (c_2 (k_min2 rfl) (fun h1 h2 => pe_callB h1 rfl Z.z_min (by decide +kernel) h2) (x_name 1 (pv 1) rfl) (x_int)) (a_nil))))) (c_1 (k_repr gd (hu100 hr)) (fun h1 h2 => pe_callB h1 rfl Z.z_repr (by decide +kernel) h2) (x_dat (α := Int) (x_lcif (own := [("one", 3)]) (is := [3]) rfl sc__law_list_right.nd (i_list (x_name 2 (pv 2) rfl)) (blkOk_by (own := [("one", 3)]) (N := N__law_list_right) (sc := defScope s__law_list_right) (by decide +kernel)) (fun _ _ _ _ _ => pg_name (i := 3) sc__law_list_right.nd rfl (Or.inl rfl)) (tg_name 3) (by decide) (okA rfl) (fun _ _ _ _ _ x60 => t_cmp0 o_le (x_name 3 (pv 3) rfl) (x_int) (nomark _)) (fun _ _ _ _ _ x60 => x_name 3 (pv 3) rfl)))) (nomark _))))))))))
  exact base
/-! law -/
def b_law (a_script : Scr) : M Unit Bool :=
  bd (bd (bd (bd (rt a_script) fun v3 => bd (bd (rt (0 : Int)) fun v1 => bd (rt ()) fun v2 => rt (v1, v2)) fun v4 => rt (v3, v4)) fun w5 => ofO (m__law_pot w5.1 w5.2.1)) fun v11 => bd (bd (bd (bd (rt a_script) fun v8 => bd (bd (rt (1 : Int)) fun v6 => bd (rt ()) fun v7 => rt (v6, v7)) fun v9 => rt (v8, v9)) fun w10 => ofO (m__law_pot w10.1 w10.2.1)) fun v12 => bd (rt ()) fun v13 => rt (v12, v13)) fun v13x => rt (v11, v13x)) fun w14 => reb (w14.1, w14.2.1) (bd (bd (bd (bd (bd (rt (10 : Int)) fun v52 => bd (rt (6 : Int)) fun v53 => grd (okPow v52 v53) (rt (v52 ^ v53.toNat))) fun v57 => bd (bd (bd (rt (1 : Int)) fun v54 => bd (rt ()) fun v55 => rt (v54, v55)) fun w56 => viaL (fun q : Pot2 => q.1) (fun (q : Pot2) z => (z, q.2)) (m__law_number w56.1)) fun v58 => grd (yes2 v57 v58) (rt (if v58 < v57 then v58 else v57))) fun v95 => bd (bd (bd (rt (1 : Int)) fun v62 => bd (bd (bd (rt (3000 : Int)) fun v59 => bd (rt ()) fun v60 => rt (v59, v60)) fun w61 => viaL (fun q : Pot2 => q.1) (fun (q : Pot2) z => (z, q.2)) (m__law_draw w61.1)) fun v63 => rt (v62 + v63)) fun v93 => bd (bd (bd (bd (bd (bd (rt (561 : Int)) fun v76 => bd (bd (rt (1105 : Int)) fun v74 => bd (bd (rt (41041 : Int)) fun v72 => bd (bd (rt (825265 : Int)) fun v70 => bd (bd (rt (399001 : Int)) fun v68 => bd (bd (rt (162401 : Int)) fun v66 => bd (bd (rt (29341 : Int)) fun v64 => bd (rt ([] : List Int)) fun v65 => rt (v64 :: v65)) fun v67 => rt (v66 :: v67)) fun v69 => rt (v68 :: v69)) fun v71 => rt (v70 :: v71)) fun v73 => rt (v72 :: v73)) fun v75 => rt (v74 :: v75)) fun v77 => rt (v76 :: v77)) fun l78 => grd (okLen l78.length) (rt l78)) fun v79 => bd (rt ()) fun v80 => rt (v79, v80)) fun w81 => viaL (fun q : Pot2 => q.2) (fun (q : Pot2) z => (q.1, z)) (m__law_pick w81.1)) fun v91 => bd (bd (bd (bd (rt (10 : Int)) fun v82 => bd (rt (6 : Int)) fun v83 => grd (okPow v82 v83) (rt (v82 ^ v83.toNat))) fun v87 => bd (bd (bd (rt (1 : Int)) fun v84 => bd (rt ()) fun v85 => rt (v84, v85)) fun w86 => viaL (fun q : Pot2 => q.2) (fun (q : Pot2) z => (q.1, z)) (m__law_number w86.1)) fun v88 => grd (yes2 v87 v88) (rt (if v88 < v87 then v88 else v87))) fun v89 => bd (rt ([] : List Int)) fun v90 => rt (v89 :: v90)) fun v92 => rt (v91 :: v92)) fun v94 => rt (v93 :: v94)) fun v96 => rt (v95 :: v96)) fun l97 => grd (okLen l97.length) (rt l97)) fun w98 => bd (bd (bd (bd (bd (rt w98) fun l103 => bd (mapMM (fun x99 => bd (bd (rt x99) fun v100 => bd (rt ()) fun v101 => rt (v100, v101)) fun w102 => ofO (m__law_number_right w102.1)) l103) fun r104 => grd (okLen r104.length) (rt r104)) fun v105 => grd (yes1 v105) (rt (v105.all fun b => b))) fun v106 => rt (!v106)) fun v126 => if v126 = true then rt true else bd (bd (bd (bd (bd (bd (bd (bd (rt (2 : Int)) fun v110 => bd (bd (bd (rt (300 : Int)) fun v107 => bd (rt ()) fun v108 => rt (v107, v108)) fun w109 => viaL (fun q : Pot2 => q.1) (fun (q : Pot2) z => (z, q.2)) (m__law_draw w109.1)) fun v111 => rt (v110 + v111)) fun v116 => bd (bd (rt (561 : Int)) fun v114 => bd (bd (rt (1105 : Int)) fun v112 => bd (rt ([] : List Int)) fun v113 => rt (v112 :: v113)) fun v115 => rt (v114 :: v115)) fun v117 => rt (v116 :: v117)) fun l118 => grd (okLen l118.length) (rt l118)) fun v119 => bd (rt ()) fun v120 => rt (v119, v120)) fun w121 => viaL (fun q : Pot2 => q.1) (fun (q : Pot2) z => (z, q.2)) (m__law_pick w121.1)) fun v122 => bd (rt ()) fun v123 => rt (v122, v123)) fun w124 => viaL (fun q : Pot2 => q.1) (fun (q : Pot2) z => (z, q.2)) (m__law_units_right w124.1)) fun v125 => rt (!v125)) fun v127 => if v127 = true then rt false else bd (bd (rt ()) fun w128 => viaL (fun q : Pot2 => q.2) (fun (q : Pot2) z => (q.1, z)) (m__law_threes_right)) fun v136 => if v136 = true then bd (bd (bd (bd (rt (4 : Int)) fun v129 => bd (rt ()) fun v130 => rt (v129, v130)) fun w131 => viaL (fun q : Pot2 => q.2) (fun (q : Pot2) z => (q.1, z)) (m__law_draw w131.1)) fun v132 => bd (rt (0 : Int)) fun v133 => rt (decide (v133 < v132))) fun v135 => if v135 = true then rt true else bd (rt ()) fun w134 => viaL (fun q : Pot2 => q.2) (fun (q : Pot2) z => (q.1, z)) (m__law_list_right) else rt false)
def m_law (a_script : Scr) : Option Bool := run (b_law a_script)
abbrev s_law : Stmt := topS 38
abbrev N_law : List Str := ["script", "pot", "late", "some", "number"]
theorem sc_law : FnScope N_law ["script"] (defScope s_law) := ⟨rfl, rfl, rfl, by decide +kernel, rfl, by decide +kernel, by decide +kernel⟩
abbrev P_law (pr : Program) (wd : World) (K : PySem.W.Frag) (mg : Str → Option Value) (bs : Heap) : Prop := Fx pr wd K mg bs "law" s_law ["script"] 8 (spF K (fun w : Scr × Unit => [enc w.1]) (dE) (fun w => m_law w.1))
theorem ok_law {pr : Program} {wd : World} {K : PySem.W.Frag} {mg : Str → Option Value} {bs : Heap} (Z : Zs K mg) (A : At K mg "law" s_law ["script"]) (T__law_draw : P__law_draw pr wd K mg bs) (T__law_list_right : P__law_list_right pr wd K mg bs) (T__law_number : P__law_number pr wd K mg bs) (T__law_number_right : P__law_number_right pr wd K mg bs) (T__law_pick : P__law_pick pr wd K mg bs) (T__law_pot : P__law_pot pr wd K mg bs) (T__law_threes_right : P__law_threes_right pr wd K mg bs) (T__law_units_right : P__law_units_right pr wd K mg bs) : P_law pr wd K mg bs := by
  have base := fx_R (pr := pr) (wd := wd) (bs := bs) (cs := cs0) (k := 7) (ea := (fun w : Scr × Unit => [enc w.1])) (s := dE) (m := fun w => b_law w.1) 0 4 A sc_law (fun _ => rfl) (fun _ => rfl) (fun _ => rfl) (fun f cd A oe s0 H E hr gd ⟨a_script, _u⟩ => by
    show PSs (cxOf CX0 pr wd K mg bs N_law "law" (defScope s_law) f cd A oe s0 H E).nox (defBody s_law) (xR K cs0 [.dat (enc a_script), .un, .un, .un, .un] (dE) (b_law a_script))
    unfold b_law
    exact b_seqR (s_par2 1 2 rfl sc_law.nd rfl rfl (by decide) rfl rfl (a_cons (f_call T__law_pot (hr.mono (by decide)) gd rfl (a_cons (x_name 0 (pv 0) rfl) (a_cons (x_int) (a_nil)))) (a_cons (f_call T__law_pot (hr.mono (by decide)) gd rfl (a_cons (x_name 0 (pv 0) rfl) (a_cons (x_int) (a_nil)))) (a_nil))) (fun _ => rfl) (okA rfl) rfl) (fun w14 => b_rebase2 1 2 rfl rfl (by decide) rfl (b_seqR (s_set 3 sc_law.nd rfl (Or.inl rfl) (x_dat (α := Int) (x_lst (l_cons (α := Int) (c_2 (k_min2 rfl) (fun h1 h2 => pe_callB h1 rfl Z.z_min (by decide +kernel) h2) (x_bin o_pow (x_int) (x_int)) (f_callB 1 0 (fun q : Pot2 => q.1) (fun (q : Pot2) z => (z, q.2)) T__law_number (hr.mono (by decide)) gd rfl (pv 1) rfl (a_cons (x_int) (a_nil)) (fun _ => rfl) (fun _ _ => rfl))) (l_cons (α := Int) (x_bin0 o_add (x_int) (f_callB 1 0 (fun q : Pot2 => q.1) (fun (q : Pot2) z => (z, q.2)) T__law_draw (hr.mono (by decide)) gd rfl (pv 1) rfl (a_cons (x_int) (a_nil)) (fun _ => rfl) (fun _ _ => rfl))) (l_cons (α := Int) (f_callB 2 1 (fun q : Pot2 => q.2) (fun (q : Pot2) z => (q.1, z)) T__law_pick (hr.mono (by decide)) gd rfl (pv 2) rfl (a_cons (x_dat (α := Int) (x_lst (l_cons (α := Int) (x_int) (l_cons (α := Int) (x_int) (l_cons (α := Int) (x_int) (l_cons (α := Int) (x_int) (l_cons (α := Int) (x_int) (l_cons (α := Int) (x_int) (l_cons (α := Int) (x_int) (l_nil)))))))))) (a_nil)) (fun _ => rfl) (fun _ _ => rfl)) (l_cons (α := Int) (c_2 (k_min2 rfl) (fun h1 h2 => pe_callB h1 rfl Z.z_min (by decide +kernel) h2) (x_bin o_pow (x_int) (x_int)) (f_callB 2 1 (fun q : Pot2 => q.2) (fun (q : Pot2) z => (q.1, z)) T__law_number (hr.mono (by decide)) gd rfl (pv 2) rfl (a_cons (x_int) (a_nil)) (fun _ => rfl) (fun _ _ => rfl))) (l_nil)))))))) (fun w98 => b_ifret (PW.pt (w_or (t_not (t_val (c_1 (k_all rfl) (fun h1 h2 => pe_callB h1 rfl Z.z_all (by decide +kernel) h2) (x_dat (α := Bool) (x_lc (own := [("number", 4)]) (is := [4]) rfl sc_law.nd (i_list (x_name 3 (pv 3) rfl)) (blkOk_by (own := [("number", 4)]) (N := N_law) (sc := defScope s_law) (by decide +kernel)) (fun _ _ _ _ _ => pg_name (i := 4) sc_law.nd rfl (Or.inl rfl)) (tg_name 4) (by decide) (okA rfl) (fun _ _ _ _ _ x99 => f_call T__law_number_right (hr.mono (by decide)) gd rfl (a_cons (x_name 4 (pv 4) rfl) (a_nil)))))))) (w_or1 (t_not (t_val (f_callB 1 0 (fun q : Pot2 => q.1) (fun (q : Pot2) z => (z, q.2)) T__law_units_right (hr.mono (by decide)) gd rfl (pv 1) rfl (a_cons (f_callB 1 0 (fun q : Pot2 => q.1) (fun (q : Pot2) z => (z, q.2)) T__law_pick (hr.mono (by decide)) gd rfl (pv 1) rfl (a_cons (x_dat (α := Int) (x_lst (l_cons (α := Int) (x_bin0 o_add (x_int) (f_callB 1 0 (fun q : Pot2 => q.1) (fun (q : Pot2) z => (z, q.2)) T__law_draw (hr.mono (by decide)) gd rfl (pv 1) rfl (a_cons (x_int) (a_nil)) (fun _ => rfl) (fun _ _ => rfl))) (l_cons (α := Int) (x_int) (l_cons (α := Int) (x_int) (l_nil)))))) (a_nil)) (fun _ => rfl) (fun _ _ => rfl)) (a_nil)) (fun _ => rfl) (fun _ _ => rfl))))))) (b_ret (s_ret (x_bl))) (b_ret (s_ret (x_and (f_callB 2 1 (fun q : Pot2 => q.2) (fun (q : Pot2) z => (q.1, z)) T__law_threes_right (hr.mono (by decide)) gd rfl (pv 2) rfl (a_nil) (fun _ => rfl) (fun _ _ => rfl)) (x_one (x_or (x_cmp0 o_gt (f_callB 2 1 (fun q : Pot2 => q.2) (fun (q : Pot2) z => (q.1, z)) T__law_draw (hr.mono (by decide)) gd rfl (pv 2) rfl (a_cons (x_int) (a_nil)) (fun _ => rfl) (fun _ _ => rfl)) (x_int) (nomark _)) (x_one (f_callB 2 1 (fun q : Pot2 => q.2) (fun (q : Pot2) z => (q.1, z)) T__law_list_right (hr.mono (by decide)) gd rfl (pv 2) rfl (a_nil) (fun _ => rfl) (fun _ _ => rfl))))))))))))
  exact base.pure _ fun _ => rfl
theorem all_mk {l : PySem.W.OpenLaw} {w : World} {K : PySem.W.Frag} {h : Heap} {mg : Str → Option Value} {fa : Addr} (X : K.In h) (G : h.Ns mainGlobals mg) (hfa : mg "law" = some (.ref fa))
    {f0 f1 f2 f3 f4 f5 f6 f7 f8 f9 f10 f11 f12 f13 f14 f15 f16 f17 f18 f19 f20 f21 f22 f23 f24 f25 f26 C0 : Addr}
    {od0 an0 od1 an1 od2 an2 od3 an3 od4 an4 od5 an5 od6 an6 od7 an7 od8 an8 od9 an9 od10 an10 od11 an11 od12 an12 od13 an13 od14 an14 od15 an15 od16 an16 od17 an17 od18 an18 od19 an19 od20 an20 od21 an21 od22 an22 od23 an23 od24 an24 od25 an25 od26 an26 : Option Addr} {sl0 sl1 sl2 sl3 sl4 sl5 sl6 sl7 sl8 sl9 sl10 sl11 sl12 sl13 sl14 sl15 sl16 sl17 sl18 sl19 sl20 sl21 sl22 sl23 sl24 sl25 sl26 : Array (Option Value)} {oc0 kV0 dc0 pm0 cd0 ct0 oc1 kV1 dc1 pm1 cd1 ct1 oc2 kV2 dc2 pm2 cd2 ct2 oc3 kV3 dc3 pm3 cd3 ct3 oc4 kV4 dc4 pm4 cd4 ct4 oc5 kV5 dc5 pm5 cd5 ct5 oc6 kV6 dc6 pm6 cd6 ct6 oc7 kV7 dc7 pm7 cd7 ct7 oc8 kV8 dc8 pm8 cd8 ct8 oc9 kV9 dc9 pm9 cd9 ct9 oc10 kV10 dc10 pm10 cd10 ct10 oc11 kV11 dc11 pm11 cd11 ct11 oc12 kV12 dc12 pm12 cd12 ct12 oc13 kV13 dc13 pm13 cd13 ct13 oc14 kV14 dc14 pm14 cd14 ct14 oc15 kV15 dc15 pm15 cd15 ct15 oc16 kV16 dc16 pm16 cd16 ct16 oc17 kV17 dc17 pm17 cd17 ct17 oc18 kV18 dc18 pm18 cd18 ct18 oc19 kV19 dc19 pm19 cd19 ct19 oc20 kV20 dc20 pm20 cd20 ct20 oc21 kV21 dc21 pm21 cd21 ct21 oc22 kV22 dc22 pm22 cd22 ct22 oc23 kV23 dc23 pm23 cd23 ct23 oc24 kV24 dc24 pm24 cd24 ct24 oc25 kV25 dc25 pm25 cd25 ct25 oc26 kV26 dc26 pm26 cd26 ct26 : Value}
    {t0 t1 : Tok}
    (a0 : PySem.W.nsIn K mainGlobals "is_integer" = some (some (.ref f0)))
    (l0 : K.lookup f0 = some ⟨oc0, od0, .func (PySem.W.fnOf "is_integer" "is_integer" (defArgs s_is_integer) (defBody s_is_integer) (defScope s_is_integer) .none kV0 dc0 pm0 an0 cd0 ct0), sl0⟩)
    (c0 : PySem.W.codeIn K cd0 "is_integer" = true)
    (k0 : PySem.W.keepIn K (.ref f0) = true)
    (a1 : PySem.W.nsIn K mainGlobals "is_within" = some (some (.ref f1)))
    (l1 : K.lookup f1 = some ⟨oc1, od1, .func (PySem.W.fnOf "is_within" "is_within" (defArgs s_is_within) (defBody s_is_within) (defScope s_is_within) .none kV1 dc1 pm1 an1 cd1 ct1), sl1⟩)
    (c1 : PySem.W.codeIn K cd1 "is_within" = true)
    (k1 : PySem.W.keepIn K (.ref f1) = true)
    (a2 : PySem.W.nsIn K mainGlobals "is_number_value" = some (some (.ref f2)))
    (l2 : K.lookup f2 = some ⟨oc2, od2, .func (PySem.W.fnOf "is_number_value" "is_number_value" (defArgs s_is_number_value) (defBody s_is_number_value) (defScope s_is_number_value) .none kV2 dc2 pm2 an2 cd2 ct2), sl2⟩)
    (c2 : PySem.W.codeIn K cd2 "is_number_value" = true)
    (k2 : PySem.W.keepIn K (.ref f2) = true)
    (a3 : PySem.W.nsIn K mainGlobals "parts_of" = some (some (.ref f3)))
    (l3 : K.lookup f3 = some ⟨oc3, od3, .func (PySem.W.fnOf "parts_of" "parts_of" (defArgs s_parts_of) (defBody s_parts_of) (defScope s_parts_of) .none kV3 dc3 pm3 an3 cd3 ct3), sl3⟩)
    (c3 : PySem.W.codeIn K cd3 "parts_of" = true)
    (k3 : PySem.W.keepIn K (.ref f3) = true)
    (a4 : PySem.W.nsIn K mainGlobals "is_prime_of" = some (some (.ref f4)))
    (l4 : K.lookup f4 = some ⟨oc4, od4, .func (PySem.W.fnOf "is_prime_of" "is_prime_of" (defArgs s_is_prime_of) (defBody s_is_prime_of) (defScope s_is_prime_of) .none kV4 dc4 pm4 an4 cd4 ct4), sl4⟩)
    (c4 : PySem.W.codeIn K cd4 "is_prime_of" = true)
    (k4 : PySem.W.keepIn K (.ref f4) = true)
    (a5 : PySem.W.nsIn K mainGlobals "want_above" = some (some (.ref f5)))
    (l5 : K.lookup f5 = some ⟨oc5, od5, .func (PySem.W.fnOf "want_above" "want_above" (defArgs s_want_above) (defBody s_want_above) (defScope s_want_above) .none kV5 dc5 pm5 an5 cd5 ct5), sl5⟩)
    (c5 : PySem.W.codeIn K cd5 "want_above" = true)
    (k5 : PySem.W.keepIn K (.ref f5) = true)
    (a6 : PySem.W.nsIn K mainGlobals "want_composite" = some (some (.ref f6)))
    (l6 : K.lookup f6 = some ⟨oc6, od6, .func (PySem.W.fnOf "want_composite" "want_composite" (defArgs s_want_composite) (defBody s_want_composite) (defScope s_want_composite) .none kV6 dc6 pm6 an6 cd6 ct6), sl6⟩)
    (c6 : PySem.W.codeIn K cd6 "want_composite" = true)
    (k6 : PySem.W.keepIn K (.ref f6) = true)
    (a7 : PySem.W.nsIn K mainGlobals "bar_prime_of" = some (some (.ref f7)))
    (l7 : K.lookup f7 = some ⟨oc7, od7, .func (PySem.W.fnOf "bar_prime_of" "bar_prime_of" (defArgs s_bar_prime_of) (defBody s_bar_prime_of) (defScope s_bar_prime_of) .none kV7 dc7 pm7 an7 cd7 ct7), sl7⟩)
    (c7 : PySem.W.codeIn K cd7 "bar_prime_of" = true)
    (k7 : PySem.W.keepIn K (.ref f7) = true)
    (a8 : PySem.W.nsIn K mainGlobals "lies_all" = some (some (.ref f8)))
    (l8 : K.lookup f8 = some ⟨oc8, od8, .func (PySem.W.fnOf "lies_all" "lies_all" (defArgs s_lies_all) (defBody s_lies_all) (defScope s_lies_all) .none kV8 dc8 pm8 an8 cd8 ct8), sl8⟩)
    (c8 : PySem.W.codeIn K cd8 "lies_all" = true)
    (k8 : PySem.W.keepIn K (.ref f8) = true)
    (a9 : PySem.W.nsIn K mainGlobals "do_all_lie" = some (some (.ref f9)))
    (l9 : K.lookup f9 = some ⟨oc9, od9, .func (PySem.W.fnOf "do_all_lie" "do_all_lie" (defArgs s_do_all_lie) (defBody s_do_all_lie) (defScope s_do_all_lie) .none kV9 dc9 pm9 an9 cd9 ct9), sl9⟩)
    (c9 : PySem.W.codeIn K cd9 "do_all_lie" = true)
    (k9 : PySem.W.keepIn K (.ref f9) = true)
    (a10 : PySem.W.nsIn K mainGlobals "bar_prime" = some (some (.ref f10)))
    (l10 : K.lookup f10 = some ⟨oc10, od10, .func (PySem.W.fnOf "bar_prime" "bar_prime" (defArgs s_bar_prime) (defBody s_bar_prime) (defScope s_bar_prime) .none kV10 dc10 pm10 an10 cd10 ct10), sl10⟩)
    (c10 : PySem.W.codeIn K cd10 "bar_prime" = true)
    (k10 : PySem.W.keepIn K (.ref f10) = true)
    (a11 : PySem.W.nsIn K mainGlobals "all_liars_to" = some (some (.ref f11)))
    (l11 : K.lookup f11 = some ⟨oc11, od11, .func (PySem.W.fnOf "all_liars_to" "all_liars_to" (defArgs s_all_liars_to) (defBody s_all_liars_to) (defScope s_all_liars_to) .none kV11 dc11 pm11 an11 cd11 ct11), sl11⟩)
    (c11 : PySem.W.codeIn K cd11 "all_liars_to" = true)
    (k11 : PySem.W.keepIn K (.ref f11) = true)
    (a12 : PySem.W.nsIn K mainGlobals "_law_pot" = some (some (.ref f12)))
    (l12 : K.lookup f12 = some ⟨oc12, od12, .func (PySem.W.fnOf "_law_pot" "_law_pot" (defArgs s__law_pot) (defBody s__law_pot) (defScope s__law_pot) .none kV12 dc12 pm12 an12 cd12 ct12), sl12⟩)
    (c12 : PySem.W.codeIn K cd12 "_law_pot" = true)
    (k12 : PySem.W.keepIn K (.ref f12) = true)
    (a13 : PySem.W.nsIn K mainGlobals "_law_draw" = some (some (.ref f13)))
    (l13 : K.lookup f13 = some ⟨oc13, od13, .func (PySem.W.fnOf "_law_draw" "_law_draw" (defArgs s__law_draw) (defBody s__law_draw) (defScope s__law_draw) .none kV13 dc13 pm13 an13 cd13 ct13), sl13⟩)
    (c13 : PySem.W.codeIn K cd13 "_law_draw" = true)
    (k13 : PySem.W.keepIn K (.ref f13) = true)
    (a14 : PySem.W.nsIn K mainGlobals "_law_pick" = some (some (.ref f14)))
    (l14 : K.lookup f14 = some ⟨oc14, od14, .func (PySem.W.fnOf "_law_pick" "_law_pick" (defArgs s__law_pick) (defBody s__law_pick) (defScope s__law_pick) .none kV14 dc14 pm14 an14 cd14 ct14), sl14⟩)
    (c14 : PySem.W.codeIn K cd14 "_law_pick" = true)
    (k14 : PySem.W.keepIn K (.ref f14) = true)
    (a15 : PySem.W.nsIn K mainGlobals "_law_power" = some (some (.ref f15)))
    (l15 : K.lookup f15 = some ⟨oc15, od15, .func (PySem.W.fnOf "_law_power" "_law_power" (defArgs s__law_power) (defBody s__law_power) (defScope s__law_power) .none kV15 dc15 pm15 an15 cd15 ct15), sl15⟩)
    (c15 : PySem.W.codeIn K cd15 "_law_power" = true)
    (k15 : PySem.W.keepIn K (.ref f15) = true)
    (a16 : PySem.W.nsIn K mainGlobals "_law_primes" = some (some (.ref f16)))
    (l16 : K.lookup f16 = some ⟨oc16, od16, .func (PySem.W.fnOf "_law_primes" "_law_primes" (defArgs s__law_primes) (defBody s__law_primes) (defScope s__law_primes) .none kV16 dc16 pm16 an16 cd16 ct16), sl16⟩)
    (c16 : PySem.W.codeIn K cd16 "_law_primes" = true)
    (k16 : PySem.W.keepIn K (.ref f16) = true)
    (a17 : PySem.W.nsIn K mainGlobals "_law_is_prime" = some (some (.ref f17)))
    (l17 : K.lookup f17 = some ⟨oc17, od17, .func (PySem.W.fnOf "_law_is_prime" "_law_is_prime" (defArgs s__law_is_prime) (defBody s__law_is_prime) (defScope s__law_is_prime) .none kV17 dc17 pm17 an17 cd17 ct17), sl17⟩)
    (c17 : PySem.W.codeIn K cd17 "_law_is_prime" = true)
    (k17 : PySem.W.keepIn K (.ref f17) = true)
    (a18 : PySem.W.nsIn K mainGlobals "_law_common" = some (some (.ref f18)))
    (l18 : K.lookup f18 = some ⟨oc18, od18, .func (PySem.W.fnOf "_law_common" "_law_common" (defArgs s__law_common) (defBody s__law_common) (defScope s__law_common) .none kV18 dc18 pm18 an18 cd18 ct18), sl18⟩)
    (c18 : PySem.W.codeIn K cd18 "_law_common" = true)
    (k18 : PySem.W.keepIn K (.ref f18) = true)
    (a19 : PySem.W.nsIn K mainGlobals "_law_number" = some (some (.ref f19)))
    (l19 : K.lookup f19 = some ⟨oc19, od19, .func (PySem.W.fnOf "_law_number" "_law_number" (defArgs s__law_number) (defBody s__law_number) (defScope s__law_number) .none kV19 dc19 pm19 an19 cd19 ct19), sl19⟩)
    (c19 : PySem.W.codeIn K cd19 "_law_number" = true)
    (k19 : PySem.W.keepIn K (.ref f19) = true)
    (a20 : PySem.W.nsIn K mainGlobals "_law_heard" = some (some (.ref f20)))
    (l20 : K.lookup f20 = some ⟨oc20, od20, .func (PySem.W.fnOf "_law_heard" "_law_heard" (defArgs s__law_heard) (defBody s__law_heard) (defScope s__law_heard) .none kV20 dc20 pm20 an20 cd20 ct20), sl20⟩)
    (c20 : PySem.W.codeIn K cd20 "_law_heard" = true)
    (k20 : PySem.W.keepIn K (.ref f20) = true)
    (a21 : PySem.W.nsIn K mainGlobals "_law_bar" = some (some (.ref f21)))
    (l21 : K.lookup f21 = some ⟨oc21, od21, .func (PySem.W.fnOf "_law_bar" "_law_bar" (defArgs s__law_bar) (defBody s__law_bar) (defScope s__law_bar) .none kV21 dc21 pm21 an21 cd21 ct21), sl21⟩)
    (c21 : PySem.W.codeIn K cd21 "_law_bar" = true)
    (k21 : PySem.W.keepIn K (.ref f21) = true)
    (a22 : PySem.W.nsIn K mainGlobals "_law_number_right" = some (some (.ref f22)))
    (l22 : K.lookup f22 = some ⟨oc22, od22, .func (PySem.W.fnOf "_law_number_right" "_law_number_right" (defArgs s__law_number_right) (defBody s__law_number_right) (defScope s__law_number_right) .none kV22 dc22 pm22 an22 cd22 ct22), sl22⟩)
    (c22 : PySem.W.codeIn K cd22 "_law_number_right" = true)
    (k22 : PySem.W.keepIn K (.ref f22) = true)
    (a23 : PySem.W.nsIn K mainGlobals "_law_units_right" = some (some (.ref f23)))
    (l23 : K.lookup f23 = some ⟨oc23, od23, .func (PySem.W.fnOf "_law_units_right" "_law_units_right" (defArgs s__law_units_right) (defBody s__law_units_right) (defScope s__law_units_right) .none kV23 dc23 pm23 an23 cd23 ct23), sl23⟩)
    (c23 : PySem.W.codeIn K cd23 "_law_units_right" = true)
    (k23 : PySem.W.keepIn K (.ref f23) = true)
    (a24 : PySem.W.nsIn K mainGlobals "_law_threes_right" = some (some (.ref f24)))
    (l24 : K.lookup f24 = some ⟨oc24, od24, .func (PySem.W.fnOf "_law_threes_right" "_law_threes_right" (defArgs s__law_threes_right) (defBody s__law_threes_right) (defScope s__law_threes_right) .none kV24 dc24 pm24 an24 cd24 ct24), sl24⟩)
    (c24 : PySem.W.codeIn K cd24 "_law_threes_right" = true)
    (k24 : PySem.W.keepIn K (.ref f24) = true)
    (a25 : PySem.W.nsIn K mainGlobals "_law_list_right" = some (some (.ref f25)))
    (l25 : K.lookup f25 = some ⟨oc25, od25, .func (PySem.W.fnOf "_law_list_right" "_law_list_right" (defArgs s__law_list_right) (defBody s__law_list_right) (defScope s__law_list_right) .none kV25 dc25 pm25 an25 cd25 ct25), sl25⟩)
    (c25 : PySem.W.codeIn K cd25 "_law_list_right" = true)
    (k25 : PySem.W.keepIn K (.ref f25) = true)
    (a26 : PySem.W.nsIn K mainGlobals "law" = some (some (.ref f26)))
    (l26 : K.lookup f26 = some ⟨oc26, od26, .func (PySem.W.fnOf "law" "law" (defArgs s_law) (defBody s_law) (defScope s_law) .none kV26 dc26 pm26 an26 cd26 ct26), sl26⟩)
    (c26 : PySem.W.codeIn K cd26 "law" = true)
    (k26 : PySem.W.keepIn K (.ref f26) = true)
    (z0 : PySem.W.nsIn K mainGlobals "abs" = some none)
    (z1 : PySem.W.nsIn K mainGlobals "all" = some none)
    (z2 : PySem.W.nsIn K mainGlobals "bool" = some none)
    (z3 : PySem.W.nsIn K mainGlobals "divmod" = some none)
    (z4 : PySem.W.nsIn K mainGlobals "int" = some none)
    (z5 : PySem.W.nsIn K mainGlobals "isinstance" = some none)
    (z6 : PySem.W.nsIn K mainGlobals "len" = some none)
    (z7 : PySem.W.nsIn K mainGlobals "max" = some none)
    (z8 : PySem.W.nsIn K mainGlobals "min" = some none)
    (z9 : PySem.W.nsIn K mainGlobals "range" = some none)
    (z10 : PySem.W.nsIn K mainGlobals "repr" = some none)
    (z11 : PySem.W.nsIn K mainGlobals "sum" = some none)
    (cst0 : PySem.W.nsIn K mainGlobals "MOST_LISTED" = some (some (.int 10000 t0)))
    (cst1 : PySem.W.nsIn K mainGlobals "MOST_NUMBER" = some (some (.int 1000000 t1)))
    (x0 : PySem.W.nsIn K mainGlobals "NotComposite" = some (some (.ref C0)))
    (xa0 : PySem.W.excIn K C0 [.type "RuntimeError", .type "Exception", .type "BaseException", .type "object"] "RuntimeError.__new__" = true)
    (xb0 : PySem.W.keepIn K (.ref C0) = true)
    (xc0 : PySem.W.subIn K (.ref C0) (.type "BaseException") = some true)
    (xd0 : PySem.W.typeIn K (.ref C0) = some (.type "type"))
    (xe0 : PySem.W.isClsIn K C0 = true)
    (xf0 : PySem.W.subIn K (.ref C0) (.ref C0) = some true) :
    ∃ fd : FuncData, (∀ (s : Shared) (v : Value), BindsTo s fd ⟨[v], []⟩ [("script", v)]) ∧ ∀ bs : Heap, K.In bs → bs.Ns mainGlobals mg → FnG l.prog w K mg bs CX0 8 fa fd ["script"] (spF K (fun w : Scr × Unit => [enc w.1]) dE (fun w => m_law w.1)) := by
  have e := hfa.symm.trans (PySem.W.mg_of X G a26)
  cases e
  have Z : Zs K mg := ⟨ex_mk X G x0 xa0 xb0 xc0 xd0 xe0 xf0, PySem.W.mg_none_of X G z0, PySem.W.mg_none_of X G z1, PySem.W.mg_none_of X G z2, PySem.W.mg_none_of X G z3, PySem.W.mg_none_of X G z4, PySem.W.mg_none_of X G z5, PySem.W.mg_none_of X G z6, PySem.W.mg_none_of X G z7, PySem.W.mg_none_of X G z8, PySem.W.mg_none_of X G z9, PySem.W.mg_none_of X G z10, PySem.W.mg_none_of X G z11, ⟨_, PySem.W.mg_of X G cst0⟩, ⟨_, PySem.W.mg_of X G cst1⟩⟩
  have A0 : At K mg "is_integer" s_is_integer ["value"] := at_mk X G a0 l0 c0 k0 fun _ _ _ _ _ _ us hl => match us, hl with | [_], _ => rfl
  have A1 : At K mg "is_within" s_is_within ["value", "least", "most"] := at_mk X G a1 l1 c1 k1 fun _ _ _ _ _ _ us hl => match us, hl with | [_, _, _], _ => rfl
  have A2 : At K mg "is_number_value" s_is_number_value ["value"] := at_mk X G a2 l2 c2 k2 fun _ _ _ _ _ _ us hl => match us, hl with | [_], _ => rfl
  have A3 : At K mg "parts_of" s_parts_of ["number"] := at_mk X G a3 l3 c3 k3 fun _ _ _ _ _ _ us hl => match us, hl with | [_], _ => rfl
  have A4 : At K mg "is_prime_of" s_is_prime_of ["number"] := at_mk X G a4 l4 c4 k4 fun _ _ _ _ _ _ us hl => match us, hl with | [_], _ => rfl
  have A5 : At K mg "want_above" s_want_above ["number", "least"] := at_mk X G a5 l5 c5 k5 fun _ _ _ _ _ _ us hl => match us, hl with | [_, _], _ => rfl
  have A6 : At K mg "want_composite" s_want_composite ["number"] := at_mk X G a6 l6 c6 k6 fun _ _ _ _ _ _ us hl => match us, hl with | [_], _ => rfl
  have A7 : At K mg "bar_prime_of" s_bar_prime_of ["number"] := at_mk X G a7 l7 c7 k7 fun _ _ _ _ _ _ us hl => match us, hl with | [_], _ => rfl
  have A8 : At K mg "lies_all" s_lies_all ["number"] := at_mk X G a8 l8 c8 k8 fun _ _ _ _ _ _ us hl => match us, hl with | [_], _ => rfl
  have A9 : At K mg "do_all_lie" s_do_all_lie ["number"] := at_mk X G a9 l9 c9 k9 fun _ _ _ _ _ _ us hl => match us, hl with | [_], _ => rfl
  have A10 : At K mg "bar_prime" s_bar_prime ["number"] := at_mk X G a10 l10 c10 k10 fun _ _ _ _ _ _ us hl => match us, hl with | [_], _ => rfl
  have A11 : At K mg "all_liars_to" s_all_liars_to ["number"] := at_mk X G a11 l11 c11 k11 fun _ _ _ _ _ _ us hl => match us, hl with | [_], _ => rfl
  have A12 : At K mg "_law_pot" s__law_pot ["script", "k"] := at_mk X G a12 l12 c12 k12 fun _ _ _ _ _ _ us hl => match us, hl with | [_, _], _ => rfl
  have A13 : At K mg "_law_draw" s__law_draw ["pot", "size"] := at_mk X G a13 l13 c13 k13 fun _ _ _ _ _ _ us hl => match us, hl with | [_, _], _ => rfl
  have A14 : At K mg "_law_pick" s__law_pick ["pot", "some"] := at_mk X G a14 l14 c14 k14 fun _ _ _ _ _ _ us hl => match us, hl with | [_, _], _ => rfl
  have A15 : At K mg "_law_power" s__law_power ["number", "base", "times"] := at_mk X G a15 l15 c15 k15 fun _ _ _ _ _ _ us hl => match us, hl with | [_, _, _], _ => rfl
  have A16 : At K mg "_law_primes" s__law_primes ["number"] := at_mk X G a16 l16 c16 k16 fun _ _ _ _ _ _ us hl => match us, hl with | [_], _ => rfl
  have A17 : At K mg "_law_is_prime" s__law_is_prime ["number"] := at_mk X G a17 l17 c17 k17 fun _ _ _ _ _ _ us hl => match us, hl with | [_], _ => rfl
  have A18 : At K mg "_law_common" s__law_common ["near", "far"] := at_mk X G a18 l18 c18 k18 fun _ _ _ _ _ _ us hl => match us, hl with | [_, _], _ => rfl
  have A19 : At K mg "_law_number" s__law_number ["pot", "least"] := at_mk X G a19 l19 c19 k19 fun _ _ _ _ _ _ us hl => match us, hl with | [_, _], _ => rfl
  have A20 : At K mg "_law_heard" s__law_heard ["number"] := at_mk X G a20 l20 c20 k20 fun _ _ _ _ _ _ us hl => match us, hl with | [_], _ => rfl
  have A21 : At K mg "_law_bar" s__law_bar ["number"] := at_mk X G a21 l21 c21 k21 fun _ _ _ _ _ _ us hl => match us, hl with | [_], _ => rfl
  have A22 : At K mg "_law_number_right" s__law_number_right ["number"] := at_mk X G a22 l22 c22 k22 fun _ _ _ _ _ _ us hl => match us, hl with | [_], _ => rfl
  have A23 : At K mg "_law_units_right" s__law_units_right ["pot", "number"] := at_mk X G a23 l23 c23 k23 fun _ _ _ _ _ _ us hl => match us, hl with | [_, _], _ => rfl
  have A24 : At K mg "_law_threes_right" s__law_threes_right ["pot"] := at_mk X G a24 l24 c24 k24 fun _ _ _ _ _ _ us hl => match us, hl with | [_], _ => rfl
  have A25 : At K mg "_law_list_right" s__law_list_right ["pot"] := at_mk X G a25 l25 c25 k25 fun _ _ _ _ _ _ us hl => match us, hl with | [_], _ => rfl
  have A26 : At K mg "law" s_law ["script"] := at_mk X G a26 l26 c26 k26 fun _ _ _ _ _ _ us hl => match us, hl with | [_], _ => rfl
  refine ⟨_, fun s v => .of_eq rfl, fun bs _ _ => fx_end ?_ (fun_mk (st := s_law) l26 c26 k26) (PySem.W.mg_of X G a26)⟩
  have T0 : P_is_integer l.prog w K mg bs := ok_is_integer Z A0 
  have T1 : P_is_within l.prog w K mg bs := ok_is_within Z A1 T0
  have T2 : P_is_number_value l.prog w K mg bs := ok_is_number_value Z A2 T1
  have T3 : P_parts_of l.prog w K mg bs := ok_parts_of Z A3 
  have T4 : P_is_prime_of l.prog w K mg bs := ok_is_prime_of Z A4 T3
  have T5 : P_want_above l.prog w K mg bs := ok_want_above Z A5 T2
  have T6 : P_want_composite l.prog w K mg bs := ok_want_composite Z A6 T4
  have T7 : P_bar_prime_of l.prog w K mg bs := ok_bar_prime_of Z A7 T3
  have T8 : P_lies_all l.prog w K mg bs := ok_lies_all Z A8 T7 T4
  have T9 : P_do_all_lie l.prog w K mg bs := ok_do_all_lie Z A9 T8 T5
  have T10 : P_bar_prime l.prog w K mg bs := ok_bar_prime Z A10 T7 T5 T6
  have T11 : P_all_liars_to l.prog w K mg bs := ok_all_liars_to Z A11 T8 T5
  have T12 : P__law_pot l.prog w K mg bs := ok__law_pot Z A12 
  have T13 : P__law_draw l.prog w K mg bs := ok__law_draw Z A13 
  have T14 : P__law_pick l.prog w K mg bs := ok__law_pick Z A14 T13
  have T15 : P__law_power l.prog w K mg bs := ok__law_power Z A15 
  have T16 : P__law_primes l.prog w K mg bs := ok__law_primes Z A16 
  have T17 : P__law_is_prime l.prog w K mg bs := ok__law_is_prime Z A17 T16
  have T18 : P__law_common l.prog w K mg bs := ok__law_common Z A18 
  have T19 : P__law_number l.prog w K mg bs := ok__law_number Z A19 T13 T14
  have T20 : P__law_heard l.prog w K mg bs := ok__law_heard Z A20 T10
  have T21 : P__law_bar l.prog w K mg bs := ok__law_bar Z A21 T16
  have T22 : P__law_number_right l.prog w K mg bs := ok__law_number_right Z A22 T21 T20 T17 T16 T9
  have T23 : P__law_units_right l.prog w K mg bs := ok__law_units_right Z A23 T18 T17 T15 T9
  have T24 : P__law_threes_right l.prog w K mg bs := ok__law_threes_right Z A24 T13 T17 T10 T9
  have T25 : P__law_list_right l.prog w K mg bs := ok__law_list_right Z A25 T13 T11
  have T26 : P_law l.prog w K mg bs := ok_law Z A26 T13 T25 T19 T22 T14 T12 T24 T23
  exact T26
end G_k67

namespace G_k67
open PySem XL
open PyProof.Rows hiding St
theorem parts_ok (n : Nat) (h1 : 1 ≤ n) (h2 : n < 2 ^ 59) : ∃ l, m_parts_of (n : Int) = some (l.map ci) ∧ Parts n l := by
  have key : Ok (fun _ => True) (b_parts_of (n : Int)) (fun r => ∃ l, r = l.map ci ∧ Parts n l) := by
    unfold b_parts_of
    simp only [bd_rt, bd_bd, bd_grd, bd_ite]
    refine Ok.bd (Ok.while (fun w => ∃ (l : List (Nat × Nat)) (left one : Nat), w = (l.map ci, (left : Int), (one : Int)) ∧ Tri n l left one) (fun w => decide (w.2.2 * w.2.2 ≤ w.2.1)) (fun w => ((n : Int) + 2 - w.2.2).toNat) ?_ ?_ ⟨[], n, 2, rfl, tri_start h1⟩ (by rw [fuel_eq]; simp; omega)) ?_
    · rintro w ⟨l, left, one, rfl, T⟩
      have := T.le
      exact Ok.grd (okMul_l (natAbs_lt (by omega))) (Ok.rt rfl)
    · rintro w ⟨l, left, one, rfl, T⟩ ht
      have hs : one * one ≤ left := by
        have q : (one : Int) * one ≤ left := of_decide_eq_true ht
        exact_mod_cast q
      have o2 := T.one2
      have le := T.left_le
      dsimp only
      refine Ok.bd (Ok.while (fun w => ∃ (a k : Nat), w = ((a : Int), (k : Int)) ∧ one ^ k * a = left ∧ 1 ≤ a) (fun w => decide (w.1 % (one : Int) = 0)) (fun w => w.1.toNat) ?_ ?_ ⟨left, 0, rfl, by simp, T.pos⟩ (by rw [fuel_eq]; simp; omega)) ?_
      · rintro w ⟨a, k, rfl, e, ha⟩
        exact Ok.grd (okMod_of (by omega)) (Ok.rt rfl)
      · rintro w ⟨a, k, rfl, e, ha⟩ ht
        have hm : a % one = 0 := by
          have q : (a : Int) % one = 0 := of_decide_eq_true ht
          exact_mod_cast q
        have hd : one ∣ a := Nat.dvd_of_mod_eq_zero hm
        have e2 : one * (a / one) = a := Nat.mul_div_cancel' hd
        have hlt : a / one < a := Nat.div_lt_self (by omega) (by omega)
        have hle : 1 ≤ a / one := by
          rcases Nat.eq_zero_or_pos (a / one) with z | z
          · rw [z] at e2; omega
          · exact z
        have hone : (one : Int) < 1073741824 := by
          have : one * one < 2 ^ 59 := by omega
          have : one < 1073741824 := by
            by_cases q : one < 1073741824
            · exact q
            · have := Nat.mul_le_mul (Nat.le_of_not_lt q) (Nat.le_of_not_lt q)
              omega
          omega
        refine Ok.grd (okDiv_of (by omega) hone) (Ok.rt ⟨⟨a / one, k + 1, by simp, ?_, hle⟩, ?_⟩)
        · rw [Nat.pow_succ, Nat.mul_assoc, e2, e]
        · have : ((a : Int) / (one : Int)) = ((a / one : Nat) : Int) := by simp
          simp only [this, Int.toNat_natCast]
          exact hlt
      · rintro w ⟨⟨a, k, rfl, e, ha⟩, ht⟩
        have na : ¬ one ∣ a := fun hd => by
          have q := Nat.mod_eq_zero_of_dvd hd
          have q2 : ¬ (a : Int) % one = 0 := of_decide_eq_false ht
          exact q2 (by exact_mod_cast q)
        have S := T.step hs e ha na
        have len := T.len h2
        have cond : (decide ((0 : Int) < (k : Int)) = true) ↔ 0 < k := by simp
        have hN : ((n : Int) + 2 - ((one : Int) + 1)).toNat < ((n : Int) + 2 - (one : Int)).toNat := by
          have := (T.one_le hs).2
          omega
        by_cases hk : 0 < k
        · rw [if_pos hk] at S
          simp only [cond.mpr hk, if_true]
          refine Ok.grd (okLen_of (show 1 < 16777216 by decide)) (Ok.grd (okLen_of (by simp; omega)) (Ok.rt ⟨⟨_, a, one + 1, ?_, S⟩, hN⟩))
          simp [ci]
        · rw [if_neg hk, List.append_nil] at S
          have c2 : decide ((0 : Int) < (k : Int)) = false := decide_eq_false (by omega)
          simp only [c2]
          refine Ok.grd (okLen_of (by simp; omega)) (Ok.rt ⟨⟨_, a, one + 1, ?_, S⟩, hN⟩)
          simp
    · rintro w ⟨⟨l, left, one, rfl, T⟩, ht⟩
      have hs : ¬ one * one ≤ left := fun z => by
        have q2 : ¬ (one : Int) * one ≤ left := of_decide_eq_false ht
        exact q2 (by exact_mod_cast z)
      have D := T.done hs
      have len := T.len h2
      by_cases hk : 1 < left
      · rw [if_pos hk] at D
        have c2 : decide ((1 : Int) < (left : Int)) = true := decide_eq_true (by omega)
        simp only [c2, if_true]
        refine Ok.grd (okLen_of (show 1 < 16777216 by decide)) (Ok.grd (okLen_of (by simp; omega)) (Ok.rt ⟨_, ?_, D⟩))
        simp [ci]
      · rw [if_neg hk, List.append_nil] at D
        have c2 : decide ((1 : Int) < (left : Int)) = false := decide_eq_false (by omega)
        simp only [c2]
        refine Ok.grd (okLen_of (by simp; omega)) (Ok.rt ⟨_, ?_, D⟩)
        simp
  obtain ⟨v, e, l, rfl, hp⟩ := key.run'
  exact ⟨l, e, hp⟩
theorem primes_ok (n : Nat) (h1 : 1 ≤ n) (h2 : n < 2 ^ 59) : ∃ l, m__law_primes (n : Int) = some (l.map fun p : Nat => (p : Int)) ∧ Primes n l := by
  have key : Ok (fun _ => True) (b__law_primes (n : Int)) (fun r => ∃ l : List (Nat × Nat), r = (l.map (·.1)).map (fun p : Nat => (p : Int)) ∧ Parts n l) := by
    unfold b__law_primes
    simp only [bd_rt, bd_bd, bd_grd, bd_ite, yes1_eq, grd_true]
    refine Ok.bd (Ok.while (fun w => ∃ (l : List (Nat × Nat)) (left one : Nat), w = ((l.map (·.1)).map (fun p : Nat => (p : Int)), (left : Int), (one : Int)) ∧ Tri n l left one) (fun w => decide (w.2.2 * w.2.2 ≤ w.2.1)) (fun w => ((n : Int) + 2 - w.2.2).toNat) ?_ ?_ ⟨[], n, 2, rfl, tri_start h1⟩ (by rw [fuel_eq]; simp; omega)) ?_
    · rintro w ⟨l, left, one, rfl, T⟩
      have := T.le
      exact Ok.grd (okMul_l (natAbs_lt (by omega))) (Ok.rt rfl)
    · rintro w ⟨l, left, one, rfl, T⟩ ht
      have hs : one * one ≤ left := by
        have q : (one : Int) * one ≤ left := of_decide_eq_true ht
        exact_mod_cast q
      have o2 := T.one2
      have le := T.left_le
      have len := T.len h2
      have hN : ((n : Int) + 2 - ((one : Int) + 1)).toNat < ((n : Int) + 2 - (one : Int)).toNat := by
        have := (T.one_le hs).2
        omega
      dsimp only
      refine Ok.grd (okMod_of (by omega)) ?_
      by_cases hd : one ∣ left
      · have hm : decide ((left : Int) % (one : Int) = 0) = true := by
          refine decide_eq_true ?_
          have := Nat.mod_eq_zero_of_dvd hd
          exact_mod_cast this
        rw [if_pos hm]
        refine Ok.grd (okLen_of (by simp; omega)) ?_
        refine Ok.bd (Ok.while (fun w => ∃ (a k : Nat), w = (a : Int) ∧ one ^ k * a = left ∧ 1 ≤ a) (fun w => decide (w % (one : Int) = 0)) (fun w => w.toNat) ?_ ?_ ⟨left, 0, rfl, by simp, T.pos⟩ (by rw [fuel_eq]; simp; omega)) ?_
        · rintro w ⟨a, k, rfl, e, ha⟩
          exact Ok.grd (okMod_of (by omega)) (Ok.rt rfl)
        · rintro w ⟨a, k, rfl, e, ha⟩ ht
          have hm : a % one = 0 := by
            have q : (a : Int) % one = 0 := of_decide_eq_true ht
            exact_mod_cast q
          have hd : one ∣ a := Nat.dvd_of_mod_eq_zero hm
          have e2 : one * (a / one) = a := Nat.mul_div_cancel' hd
          have hlt : a / one < a := Nat.div_lt_self (by omega) (by omega)
          have hle : 1 ≤ a / one := by
            rcases Nat.eq_zero_or_pos (a / one) with z | z
            · rw [z] at e2; omega
            · exact z
          have hone : (one : Int) < 1073741824 := by
            have : one * one < 2 ^ 59 := by omega
            have : one < 1073741824 := by
              by_cases q : one < 1073741824
              · exact q
              · have := Nat.mul_le_mul (Nat.le_of_not_lt q) (Nat.le_of_not_lt q)
                omega
            omega
          refine Ok.grd (okDiv_of (by omega) hone) (Ok.rt ⟨⟨a / one, k + 1, by simp, ?_, hle⟩, ?_⟩)
          · rw [Nat.pow_succ, Nat.mul_assoc, e2, e]
          · have : ((a : Int) / (one : Int)) = ((a / one : Nat) : Int) := by simp
            simp only [this, Int.toNat_natCast]
            exact hlt
        · rintro w ⟨⟨a, k, rfl, e, ha⟩, ht⟩
          have na : ¬ one ∣ a := fun hd => by
            have q := Nat.mod_eq_zero_of_dvd hd
            have q2 : ¬ (a : Int) % one = 0 := of_decide_eq_false ht
            exact q2 (by exact_mod_cast q)
          have hk : 0 < k := by
            rcases Nat.eq_zero_or_pos k with z | z
            · subst z
              have e2 : a = left := by simpa using e
              exact absurd (e2 ▸ hd) na
            · exact z
          have S := T.step hs e ha na
          rw [if_pos hk] at S
          exact Ok.rt ⟨⟨_, a, one + 1, by simp, S⟩, hN⟩
      · have hm : ¬ decide ((left : Int) % (one : Int) = 0) = true := fun q => by
          have q := of_decide_eq_true q
          exact hd (Nat.dvd_of_mod_eq_zero (by exact_mod_cast q))
        rw [if_neg hm]
        have S := T.step hs (k := 0) (a := left) (by simp) T.pos hd
        simp only [Nat.lt_irrefl, if_false, List.append_nil] at S
        exact Ok.rt ⟨⟨l, left, one + 1, by simp, S⟩, hN⟩
    · rintro w ⟨⟨l, left, one, rfl, T⟩, ht⟩
      have hs : ¬ one * one ≤ left := fun z => by
        have q2 : ¬ (one : Int) * one ≤ left := of_decide_eq_false ht
        exact q2 (by exact_mod_cast z)
      have D := T.done hs
      have len := T.len h2
      by_cases hk : 1 < left
      · rw [if_pos hk] at D
        have c2 : decide ((1 : Int) < (left : Int)) = true := decide_eq_true (by omega)
        simp only [c2, if_true]
        refine Ok.grd (okLen_of (show 1 < 16777216 by decide)) (Ok.grd (okLen_of (by simp; omega)) (Ok.rt ⟨_, ?_, D⟩))
        simp
      · rw [if_neg hk, List.append_nil] at D
        have c2 : decide ((1 : Int) < (left : Int)) = false := decide_eq_false (by omega)
        simp only [c2]
        refine Ok.grd (okLen_of (by simp; omega)) (Ok.rt ⟨_, ?_, D⟩)
        simp
  obtain ⟨v, e, l, rfl, hp⟩ := key.run'
  exact ⟨_, e, hp.primes⟩
theorem power_ok (n b t : Nat) (h1 : 1 ≤ n) (h2 : n < 2 ^ 60) (ht : t < 2 ^ 59) : m__law_power (n : Int) (b : Int) (t : Int) = some ((b ^ t % n : Nat) : Int) := by
  have key : Ok (fun _ => True) (b__law_power (n : Int) (b : Int) (t : Int)) (fun r => r = ((b ^ t % n : Nat) : Int)) := by
    unfold b__law_power
    simp only [bd_rt, bd_bd, bd_grd, bd_ite, yes1_eq, grd_true]
    refine Ok.grd (okMod_of (by omega)) (Ok.grd (okMod_of (by omega)) ?_)
    refine Ok.bd (Ok.while (fun w => ∃ (f h k : Nat), w = ((f : Int), (h : Int), (k : Int)) ∧ f * h ^ k % n = b ^ t % n ∧ f < n ∧ h < n) (fun w => decide (0 < w.2.2)) (fun w => w.2.2.toNat) ?_ ?_ ⟨1 % n, b % n, t, by simp, ?_, Nat.mod_lt _ h1, Nat.mod_lt _ h1⟩ (by rw [fuel_eq]; simp; omega)) ?_
    · rintro w ⟨f, h, k, rfl, e, hf, hh⟩
      exact Ok.rt rfl
    · rintro w ⟨f, h, k, rfl, e, hf, hh⟩ hk
      have hk : 0 < k := by
        have q : (0 : Int) < (k : Int) := of_decide_eq_true hk
        omega
      have hlt : k / 2 < k := Nat.div_lt_self hk (by decide)
      have he : (h * h % n) ^ (k / 2) % n = h ^ (2 * (k / 2)) % n := by
        rw [← Nat.pow_mod, Nat.pow_mul, Nat.pow_two]
      dsimp only
      refine Ok.grd (okMod_of (by decide)) ?_
      have hmu : ((k : Int) / 2).toNat < (k : Int).toNat := by omega
      by_cases odd : k % 2 = 1
      · have c : decide ((k : Int) % 2 = 1) = true := decide_eq_true (by omega)
        rw [if_pos c]
        refine Ok.grd (okMul_l (natAbs_lt (by omega))) (Ok.grd (okMod_of (by omega)) (Ok.grd (okMul_l (natAbs_lt (by omega))) (Ok.grd (okMod_of (by omega)) (Ok.grd (okDiv_of (by decide) (by decide)) (Ok.rt ⟨⟨f * h % n, h * h % n, k / 2, by simp, ?_, Nat.mod_lt _ h1, Nat.mod_lt _ h1⟩, hmu⟩)))))
        rw [← e, Nat.mul_mod, Nat.mod_mod, he, ← Nat.mul_mod]
        congr 1
        rw [Nat.mul_assoc, ← Nat.pow_succ']
        congr 2
        omega
      · have c : ¬ decide ((k : Int) % 2 = 1) = true := fun q => by
          have := of_decide_eq_true q
          omega
        rw [if_neg c]
        refine Ok.grd (okMul_l (natAbs_lt (by omega))) (Ok.grd (okMod_of (by omega)) (Ok.grd (okDiv_of (by decide) (by decide)) (Ok.rt ⟨⟨f, h * h % n, k / 2, by simp, ?_, hf, Nat.mod_lt _ h1⟩, hmu⟩)))
        rw [← e, Nat.mul_mod, he, ← Nat.mul_mod]
        congr 3
        omega
    · rw [Nat.mul_mod, Nat.mod_mod, ← Nat.pow_mod, ← Nat.mul_mod, Nat.one_mul]
    · rintro w ⟨⟨f, h, k, rfl, e, hf, hh⟩, hk⟩
      have hk : k = 0 := by
        have q : ¬ (0 : Int) < (k : Int) := of_decide_eq_false hk
        omega
      subst hk
      rw [Nat.pow_zero, Nat.mul_one, Nat.mod_eq_of_lt hf] at e
      subst e
      exact Ok.rt rfl
  exact key.run
theorem common_ok (a b : Nat) (hb : b < 2 ^ 59) : m__law_common (a : Int) (b : Int) = some ((Nat.gcd a b : Nat) : Int) := by
  have key : Ok (fun _ => True) (b__law_common (a : Int) (b : Int)) (fun r => r = ((Nat.gcd a b : Nat) : Int)) := by
    unfold b__law_common
    simp only [bd_rt, bd_bd, bd_grd, bd_ite, yes1_eq, grd_true]
    refine Ok.bd (Ok.while (fun w => ∃ (x y : Nat), w = ((x : Int), (y : Int)) ∧ Nat.gcd x y = Nat.gcd a b) (fun w => decide (0 < w.2)) (fun w => w.2.toNat) ?_ ?_ ⟨a, b, rfl, rfl⟩ (by rw [fuel_eq]; simp; omega)) ?_
    · rintro w ⟨x, y, rfl, e⟩
      exact Ok.rt rfl
    · rintro w ⟨x, y, rfl, e⟩ hk
      have hk : 0 < y := by
        have q : (0 : Int) < (y : Int) := of_decide_eq_true hk
        omega
      refine Ok.grd (okMod_of (by show (0 : Int) < (y : Int); omega)) (Ok.rt ⟨⟨y, x % y, by simp, ?_⟩, ?_⟩)
      · rw [← e, Nat.gcd_comm x y, Nat.gcd_rec y x, Nat.gcd_comm]
      · have := Nat.mod_lt x hk
        show ((x : Int) % (y : Int)).toNat < (y : Int).toNat
        have e2 : ((x : Int) % (y : Int)) = ((x % y : Nat) : Int) := by simp
        rw [e2, Int.toNat_natCast, Int.toNat_natCast]
        exact this
    · rintro w ⟨⟨x, y, rfl, e⟩, hk⟩
      have hk : y = 0 := by
        have q : ¬ (0 : Int) < (y : Int) := of_decide_eq_false hk
        omega
      subst hk
      rw [Nat.gcd_zero_right] at e
      subst e
      exact Ok.rt rfl
  exact key.run
end G_k67

namespace G_k67
open PySem XL
open PyProof.Rows hiding St
open Enc (enc)
theorem is_prime_of_ok (n : Nat) (h1 : 1 ≤ n) (h2 : n < 2 ^ 59) : m_is_prime_of (n : Int) = some (prB n) := by
  obtain ⟨l, e, P⟩ := parts_ok n h1 h2
  unfold m_is_prime_of b_is_prime_of
  simp only [bd_rt, bd_bd, bd_grd, e, bd_some']
  rw [show okLen [((n : Int), (1 : Int))].length = true from rfl, grd_true, run_rt]
  congr 1
  have : l.map ci = [((n : Int), (1 : Int))] ↔ l = [(n, 1)] := by
    constructor
    · intro h
      match l, h with
      | [x], h =>
        have h := (List.cons.inj h).1
        have a := congrArg Prod.fst h
        have b := congrArg Prod.snd h
        simp only [ci] at a b
        have a2 : x.1 = n := by omega
        have b2 : x.2 = 1 := by omega
        rw [show x = (n, 1) from Prod.ext a2 b2]
      | [], h => simp at h
      | _ :: _ :: _, h => simp at h
    · intro h; rw [h]; rfl
  rw [Bool.eq_iff_iff, decide_eq_true_iff, this, P.prime_iff, prB_iff]
theorem law_is_prime_ok (n : Nat) (h1 : 1 ≤ n) (h2 : n < 2 ^ 59) : m__law_is_prime (n : Int) = some (prB n) := by
  obtain ⟨l, e, P⟩ := primes_ok n h1 h2
  unfold m__law_is_prime b__law_is_prime
  simp only [bd_rt, bd_bd, bd_grd, e, bd_some']
  rw [show okLen [(n : Int)].length = true from rfl, grd_true, run_ite, run_rt, run_rt]
  have this : l.map (fun p : Nat => (p : Int)) = [(n : Int)] ↔ l = [n] := by
    constructor
    · intro h
      match l, h with
      | [x], h =>
        have h : (x : Int) = (n : Int) := (List.cons.inj h).1
        have a2 : x = n := by omega
        rw [a2]
      | [], h => simp at h
      | _ :: _ :: _, h => simp at h
    · intro h; rw [h]; rfl
  by_cases hn : 1 < n
  · have c : decide ((1 : Int) < (n : Int)) = true := decide_eq_true (by omega)
    rw [if_pos c]
    congr 1
    rw [Bool.eq_iff_iff, decide_eq_true_iff, this, prB_iff, ← P.prime_iff h1]
    exact ⟨fun h => ⟨hn, h⟩, fun h => h.2⟩
  · have c : ¬ decide ((1 : Int) < (n : Int)) = true := fun q => by
      have := of_decide_eq_true q
      omega
    rw [if_neg c]
    have : prB n = false := prB_false.mpr fun h => hn h.1
    rw [this]
/-- the bar of n, by its primes -/
theorem bars_ok (n : Nat) (h1 : 1 ≤ n) (h2 : n < 2 ^ 59) : ∃ l : List Nat, ∃ k, Primes n l ∧ Parts n k ∧ l = k.map (·.1) ∧ m__law_primes (n : Int) = some (l.map fun p : Nat => (p : Int)) ∧
    m_bar_prime_of (n : Int) = some ((barL n l).map fun p : Nat => (p : Int)) ∧ m__law_bar (n : Int) = some ((barL n l).map fun p : Nat => (p : Int)) := by
  obtain ⟨k, e1, P⟩ := parts_ok n h1 h2
  obtain ⟨l, e2, Q⟩ := primes_ok n h1 h2
  have el := Q.eq P.primes
  subst el
  refine ⟨_, k, Q, P, rfl, e2, ?_, ?_⟩
  · unfold m_bar_prime_of b_bar_prime_of
    simp only [bd_rt, bd_bd, bd_grd, bd_ite, e1, bd_some']
    rw [forB_find (t := fun x : Int × Int => decide (1 < x.2) || !decide (((n : Int) - 1) % (x.1 - 1) = 0)) (r := fun x => some x.1)]
    · rw [find_map]
      have hc : (k.find? fun x => decide ((1 : Int) < (ci x).2) || !decide (((n : Int) - 1) % ((ci x).1 - 1) = 0)) = k.find? fun x => badP n x.1 := by
        refine find_congr fun x hx => ?_
        have q := P.sq hx
        have p2 := (P.pr x hx).1.1
        unfold badP
        have c1 : decide ((1 : Int) < (ci x).2) = decide (x.1 * x.1 ∣ n) := by
          rw [decide_eq_decide, ← q]
          show (1 : Int) < (x.2 : Int) ↔ _
          omega
        have c2 : (((n : Int) - 1) % ((ci x).1 - 1) = 0) ↔ (n - 1) % (x.1 - 1) = 0 := by
          show (((n : Int) - 1) % ((x.1 : Int) - 1) = 0) ↔ _
          have a1 : (n : Int) - 1 = ((n - 1 : Nat) : Int) := by omega
          have a2 : (x.1 : Int) - 1 = ((x.1 - 1 : Nat) : Int) := by omega
          rw [a1, a2]
          exact_mod_cast Iff.rfl
        rw [c1, decide_eq_decide.mpr c2]
      rw [hc]
      unfold barL
      rw [find_map]
      cases k.find? fun x => badP n x.1 with
      | none => rfl
      | some x => rfl
    · intro a ha
      obtain ⟨x, hx, rfl⟩ := List.mem_map.mp ha
      have p2 := (P.pr x hx).1.1
      have g : okMod ((n : Int) - 1) ((ci x).1 - 1) = true := okMod_of (by
        show 0 < (x.1 : Int) - 1
        omega)
      rw [g]
      cases decide ((1 : Int) < (ci x).2) <;> cases decide (((n : Int) - 1) % ((ci x).1 - 1) = 0) <;> rfl
  · unfold m__law_bar b__law_bar
    simp only [bd_rt, bd_bd, bd_grd, bd_ite, e2, bd_some', yes1_eq, grd_true]
    rw [forB_find (t := fun x : Int => decide ((n : Int) % (x * x) = 0) || !decide (((n : Int) - 1) % (x - 1) = 0)) (r := fun x => some x)]
    · rw [find_map]
      have hc : ((k.map (·.1)).find? fun x : Nat => decide ((n : Int) % ((x : Int) * (x : Int)) = 0) || !decide (((n : Int) - 1) % ((x : Int) - 1) = 0)) = (k.map (·.1)).find? (badP n) := by
        refine find_congr fun x hx => ?_
        have p2 := (Q.pr x hx).1.1
        unfold badP
        have c1 : ((n : Int) % ((x : Int) * (x : Int)) = 0) ↔ x * x ∣ n := by
          rw [Nat.dvd_iff_mod_eq_zero]
          exact_mod_cast Iff.rfl
        have c2 : (((n : Int) - 1) % ((x : Int) - 1) = 0) ↔ (n - 1) % (x - 1) = 0 := by
          have a1 : (n : Int) - 1 = ((n - 1 : Nat) : Int) := by omega
          have a2 : (x : Int) - 1 = ((x - 1 : Nat) : Int) := by omega
          rw [a1, a2]
          exact_mod_cast Iff.rfl
        rw [decide_eq_decide.mpr c1, decide_eq_decide.mpr c2]
      rw [hc]
      unfold barL
      cases (k.map (·.1)).find? (badP n) with
      | none => rfl
      | some x => rfl
    · intro a ha
      obtain ⟨x, hx, rfl⟩ := List.mem_map.mp ha
      have p2 := (Q.pr x hx).1.1
      have hle := Nat.le_of_dvd h1 (Q.pr x hx).2
      have g1 : okMul (x : Int) (x : Int) = true := okMul_l (natAbs_lt (by omega))
      have g2 : okMod (n : Int) ((x : Int) * (x : Int)) = true := okMod_of (Int.mul_pos (by omega) (by omega))
      have g : okMod ((n : Int) - 1) ((x : Int) - 1) = true := okMod_of (by omega)
      rw [g, g1, g2]
      cases decide ((n : Int) % ((x : Int) * (x : Int)) = 0) <;> cases decide (((n : Int) - 1) % ((x : Int) - 1) = 0) <;> rfl
theorem number_value_ok (n : Nat) (h1 : 1 ≤ n) (h2 : n ≤ 1000000) : m_is_number_value (n : Int) = some true := by
  have e1 : m_is_integer (n : Int) = some true := rfl
  unfold m_is_number_value b_is_number_value
  simp only [bd_rt, bd_bd]
  have e2 : m_is_within (n : Int) 1 1000000 = some true := by
    unfold m_is_within b_is_within
    simp only [bd_rt, bd_bd, e1, bd_some', if_true]
    have c1 : decide ((1 : Int) ≤ (n : Int)) = true := decide_eq_true (by omega)
    have c2 : decide ((n : Int) ≤ 1000000) = true := decide_eq_true (by omega)
    rw [c1, c2]; rfl
  rw [e2]; rfl
theorem want_above_ok (n : Nat) (h1 : 1 ≤ n) (h2 : n ≤ 1000000) : m_want_above (n : Int) 0 = some () := by
  unfold m_want_above b_want_above
  simp only [bd_rt, bd_bd, bd_grd, bd_ite, number_value_ok n h1 h2, bd_some']
  have c1 : decide ((n : Int) ≤ 0) = false := decide_eq_false (by omega)
  rw [c1]; rfl
/-- do all lie for n? -/
def lieB (n : Nat) (l : List Nat) : Bool := decide (1 < n) && (!prB n && (barL n l).isNone)
theorem lies_ok (n : Nat) (h1 : 1 ≤ n) (h2 : n < 2 ^ 59) {l : List Nat} (hb : m_bar_prime_of (n : Int) = some ((barL n l).map fun p : Nat => (p : Int))) : m_lies_all (n : Int) = some (lieB n l) := by
  unfold m_lies_all b_lies_all
  simp only [bd_rt, bd_bd, bd_grd, is_prime_of_ok n h1 h2, hb, bd_some']
  unfold lieB
  have c : decide ((1 : Int) < (n : Int)) = decide (1 < n) := decide_eq_decide.mpr (by omega)
  rw [c]
  cases decide (1 < n) <;> cases prB n <;> cases barL n l <;> rfl
theorem do_all_lie_ok (n : Nat) (h1 : 1 ≤ n) (h2 : n ≤ 1000000) {l : List Nat} (hb : m_bar_prime_of (n : Int) = some ((barL n l).map fun p : Nat => (p : Int))) : m_do_all_lie (n : Int) = some (lieB n l) := by
  unfold m_do_all_lie b_do_all_lie
  simp only [bd_rt, bd_bd, want_above_ok n h1 h2, bd_some', lies_ok n h1 (by omega) hb]
  rfl
theorem bar_prime_ok (n : Nat) (h1 : 1 ≤ n) (h2 : n ≤ 1000000) {l : List Nat} (hb : m_bar_prime_of (n : Int) = some ((barL n l).map fun p : Nat => (p : Int))) :
    m_bar_prime (n : Int) = some (if (decide (n = 1) || prB n) = true then .inr ("NotComposite" : Str) else .inl ((barL n l).map fun p : Nat => (p : Int))) := by
  have ew : m_want_composite (n : Int) = some (if (decide (n = 1) || prB n) = true then .inr ("NotComposite" : Str) else .inl ()) := by
    unfold m_want_composite b_want_composite
    simp only [bd_rt, bd_bd, bd_grd, bd_ite, is_prime_of_ok n h1 (by omega), bd_some']
    have c : decide ((n : Int) = 1) = decide (n = 1) := decide_eq_decide.mpr (by omega)
    rw [c]
    cases decide (n = 1) <;> cases prB n <;> rfl
  unfold m_bar_prime b_bar_prime
  simp only [bd_rt, bd_bd, want_above_ok n h1 h2, bd_some', ew, hb]
  cases (decide (n = 1) || prB n) <;> rfl
def heardD (n : Nat) (l : List Nat) : PyData := if (decide (n = 1) || prB n) = true then .str ("none" : Str) else enc ((barL n l).map fun p : Nat => (p : Int))
theorem heard_ok (n : Nat) (h1 : 1 ≤ n) (h2 : n ≤ 1000000) {l : List Nat} (hb : m_bar_prime_of (n : Int) = some ((barL n l).map fun p : Nat => (p : Int))) : m__law_heard (n : Int) = some (heardD n l) := by
  unfold m__law_heard b__law_heard
  simp only [bd_rt, bd_bd, bar_prime_ok n h1 h2 hb, ofO_some']
  unfold heardD
  cases (decide (n = 1) || prB n) <;> rfl
end G_k67

namespace G_k67
open PySem XL
open PyProof.Rows hiding St
open Enc (enc)
/-! ### pots -/
def IP (q : Pot) : Prop := 0 ≤ q.1 ∧ 0 ≤ q.2 ∧ q.2 < 2147483648
theorem pot_ok (ns : List Int) (k : Int) (hk : k = 0 ∨ k = 1) : ∃ q, m__law_pot ⟨ns⟩ k = some q ∧ IP q := by
  have key : Ok (fun _ => True) (b__law_pot ⟨ns⟩ k) IP := by
    unfold b__law_pot
    simp only [bd_rt, bd_bd, bd_grd, bd_ite, yes1_eq, yes2_eq, grd_true]
    have h0 : 0 ≤ k := by omega
    have body : ∀ cell : Int, 0 ≤ cell → Ok (fun _ : Unit => True) (grd (okPow 10 18) (grd (okMod cell 2147483549) (grd (okMul (cell % 2147483549) 40253) (grd (okMul 8933 k) (grd (okMod (cell % 2147483549 * 40253 + 8933 * k + 71) 2147483563) (rt (if cell - 10 ^ (18 : Int).toNat > 0 then cell - 10 ^ (18 : Int).toNat else 0, (cell % 2147483549 * 40253 + 8933 * k + 71) % 2147483563 + 1))))))) IP := fun cell hc => by
      refine Ok.grd rfl (Ok.grd (okMod_of (by decide)) (Ok.grd (okMul_r (by decide)) (Ok.grd (okMul_l (by decide)) (Ok.grd (okMod_of (by decide)) (Ok.rt ?_)))))
      unfold IP
      refine ⟨?_, ?_, ?_⟩
      · dsimp only; split <;> omega
      · dsimp only; omega
      · dsimp only; omega
    refine Ok.ite (fun hlt => ?_) (fun _ => ?_)
    · have hlt := of_decide_eq_true hlt
      have e : L2.atI ns k = some (ns[k.toNat]'(by omega)) := by
        have := atI_nat' (xs := ns) (i := k.toNat) (by omega)
        rwa [Int.toNat_of_nonneg h0] at this
      rw [e, bd_some']
      refine body _ ?_
      split <;> omega
    · refine Ok.grd (okMul_l (by decide)) (Ok.grd (okMod_of (by decide)) (body _ (by omega)))
  exact key.run'
theorem draw_ok (s : Int) (h1 : 0 < s) (h2 : s < 1073741824) : Ok IP (m__law_draw s) (fun d => 0 ≤ d ∧ d < s) := by
  unfold m__law_draw b__law_draw
  intro q hq
  obtain ⟨a, b, c⟩ := hq
  obtain ⟨q1, q2⟩ := q
  dsimp only at a b c
  have m1 := Int.emod_nonneg q1 (show s ≠ 0 by omega)
  have m2 := Int.emod_lt_of_pos q1 h1
  have d1 : 0 ≤ q1 / s := Int.ediv_nonneg a (by omega)
  by_cases hp : 0 < q1
  · refine ⟨q1 % s, (q1 / s, q2), ?_, ⟨d1, b, c⟩, m1, m2⟩
    simp [bd, gets, puts, rt, hp, grd, okDiv_of h1 h2]
  · have g1 : okMul q2 40692 = true := okMul_r (by decide)
    have g2 : ∀ x : Int, okMod x 2147483587 = true := fun x => okMod_of (by decide)
    have g3 : ∀ x : Int, okMod x 2147483549 = true := fun x => okMod_of (by decide)
    have g4 : ∀ x : Int, okDiv x 43 = true := fun x => okDiv_of (by decide) (by decide)
    have g5 : ∀ x : Int, okMod x s = true := fun x => okMod_of h1
    have g6 : okMul ((q2 * 40692 + 8933) % 2147483587) ((q2 * 40692 + 8933) % 2147483587) = true := okMul_l (by omega)
    refine ⟨(((q2 * 40692 + 8933) % 2147483587) * ((q2 * 40692 + 8933) % 2147483587) % 2147483549 / 43) % s, (q1, (q2 * 40692 + 8933) % 2147483587), ?_, ⟨a, by dsimp only; omega, by dsimp only; omega⟩, Int.emod_nonneg _ (by omega), Int.emod_lt_of_pos _ h1⟩
    simp [bd, gets, puts, rt, hp, grd, g1, g2, g3, g4, g5, g6, yes1]
theorem pick_ok (l : List Int) (h1 : l ≠ []) (h2 : l.length < 1000000) : Ok IP (m__law_pick l) (fun x => x ∈ l) := by
  unfold m__law_pick b__law_pick
  simp only [bd_rt, bd_bd, bd_grd, yes1_eq, grd_true]
  have h3 : 0 < l.length := List.length_pos_iff.mpr h1
  refine Ok.bd (draw_ok _ (by omega) (by omega)) fun d hd => ?_
  have := atI_nat' (xs := l) (i := d.toNat) (by omega)
  rw [Int.toNat_of_nonneg hd.1] at this
  exact Ok.ofO this (List.getElem_mem _)
theorem number_ok : Ok IP (m__law_number 1) (fun x => 1 ≤ x) := by
  have mx : ∀ {a b : Int}, 1 ≤ (if b > 1 then b else 1) := fun {a b} => by split <;> omega
  unfold m__law_number b__law_number
  simp only [bd_rt, bd_bd, bd_grd, bd_ite, yes1_eq, yes2_eq, grd_true]
  refine Ok.bd (draw_ok 6 (by decide) (by decide)) fun w hw => ?_
  refine Ok.ite (fun _ => Ok.bd (draw_ok 60 (by decide) (by decide)) fun d hd => Ok.rt (mx (a := 0))) fun _ => ?_
  refine Ok.ite (fun _ => Ok.grd rfl (Ok.grd rfl (Ok.bd (pick_ok _ (by simp) (by decide)) fun d hd => Ok.rt (mx (a := 0))))) fun _ => ?_
  refine Ok.ite (fun _ => Ok.bd (draw_ok 990 (by decide) (by decide)) fun d hd => Ok.bd (draw_ok 990 (by decide) (by decide)) fun e he => Ok.grd (okMul_l (by omega)) (Ok.rt (mx (a := 0)))) fun _ => ?_
  refine Ok.ite (fun _ => Ok.bd (draw_ok 90 (by decide) (by decide)) fun d hd => Ok.grd (okMul_l (by omega)) (Ok.bd (draw_ok 2 (by decide) (by decide)) fun e he => Ok.grd (okMul_l (by omega)) (Ok.grd (okMul_r ?_) (Ok.rt (mx (a := 0)))))) fun _ => ?_
  · have e2 : e = 0 ∨ e = 1 := by omega
    rcases e2 with rfl | rfl
    · omega
    · omega
  · refine Ok.ite (fun _ => Ok.bd (draw_ok 1000 (by decide) (by decide)) fun d hd => Ok.rt (mx (a := 0))) fun _ => Ok.grd rfl (Ok.bd (draw_ok _ (by decide) (by decide)) fun d hd => Ok.rt (mx (a := 0)))
/-! ### number_right -/
theorem show_int (i : Int) (h : i.natAbs < 10 ^ 12) : okShow (.int i) = true := okShow_of (by simp [PyData.canLay0]) (by
    simp only [PyData.showable, decide_eq_true_iff]
    by_cases z : i.natAbs = 0
    · rw [z]; decide
    · exact (Nat.log2_lt z).mpr (Nat.lt_of_lt_of_le h (by decide))) (by simp [PyData.depth]) (Nat.le_trans (PyData.shown_int_le h) (by decide))
theorem show_heard (n : Nat) (h2 : n ≤ 1000000) (h1 : 1 ≤ n) {l : List Nat} (Q : Primes n l) : okShow (heardD n l) = true := by
  unfold heardD
  by_cases c : (decide (n = 1) || prB n) = true
  · rw [if_pos c]; decide +kernel
  · rw [if_neg c]
    unfold barL
    cases e : l.find? (badP n) with
    | none => decide +kernel
    | some p =>
      have := Nat.le_of_dvd h1 (Q.pr p (List.mem_of_find?_eq_some e)).2
      exact show_int _ (by rw [Int.natAbs_natCast]; omega)
theorem right_ok (n : Nat) (h1 : 1 ≤ n) (h2 : n ≤ 1000000) : m__law_number_right (n : Int) = some true := by
  obtain ⟨l, k, Q, P, el, e1, e2, e3⟩ := bars_ok n h1 (by omega)
  have hd := do_all_lie_ok n h1 h2 e2
  have hh := heard_ok n h1 h2 e2
  have sh := show_heard n h2 h1 Q
  unfold m__law_number_right b__law_number_right
  simp only [bd_rt, bd_bd, bd_grd, yes1_eq, grd_true, e1, e3, law_is_prime_ok n h1 (by omega), hd, hh, bd_some', sh]
  have c1 : decide ((1 : Int) < (n : Int)) = decide (1 < n) := decide_eq_decide.mpr (by omega)
  have c2 : decide ((n : Int) = 1) = decide (n = 1) := decide_eq_decide.mpr (by omega)
  rw [c1, c2]
  have due : (if decide (1 < n) = true then if (!prB n) = true then (rt (isN (enc ((barL n l).map fun p : Nat => (p : Int)))) : M Unit Bool) else rt false else rt false) = rt (lieB n l) := by
    unfold lieB
    cases decide (1 < n) <;> cases prB n <;> cases barL n l <;> rfl
  have shB : ∀ b : Bool, okShow (enc [b, b]) = true := fun b => by cases b <;> decide +kernel
  have e4 : ∀ f : PyData → M Unit Bool, (bd (if decide (n = 1) = true then (rt true : M Unit Bool) else rt (prB n)) fun a => bd (if a = true then rt (enc ("none" : Str)) else rt (enc ((barL n l).map fun p : Nat => (p : Int)))) f) = f (heardD n l) := fun f => by
    unfold heardD
    cases decide (n = 1) <;> cases prB n <;> rfl
  have sh2 : okShow (enc (heardD n l)) = true := sh
  rw [due, bd_rt, shB, show okLen [lieB n l, lieB n l].length = true from rfl, e4, sh2]
  simp only [grd_true, decide_true, Bool.not_true, Bool.false_eq_true, if_false]
  by_cases hl : lieB n l = true
  · have hl2 : 1 < n ∧ ¬ Pr n ∧ barL n l = none := by
      unfold lieB at hl
      simp only [Bool.and_eq_true, decide_eq_true_iff, Bool.not_eq_true', Option.isNone_iff_eq_none] at hl
      exact ⟨hl.1, prB_false.mp hl.2.1, hl.2.2⟩
    have bars := (barL_none Q).mp hl2.2.2
    have odd := korselt_odd hl2.1 hl2.2.1 bars
    have three := korselt_three hl2.1 hl2.2.1 P el bars
    have d1 : decide ((n : Int) % 2 = 0) = false := decide_eq_false (by omega)
    have d2 : decide (((l.map fun p : Nat => (p : Int)).length : Int) < 3) = false := decide_eq_false (by rw [List.length_map]; omega)
    rw [hl, d1, d2, okMod_of (by decide)]
    rfl
  · rw [if_neg hl]
    rfl
end G_k67

namespace G_k67
open PySem XL
open PyProof.Rows hiding St
open Enc (enc)
def CL : List Nat := [561, 1105, 1729, 2465, 2821, 6601, 8911]
def Cc (n : Nat) : Bool := CL.contains n
def chk (n : Nat) : Bool := if Cc n then true else (decide (n = 1) || prB n || !carB n 2 n n)
theorem lieC (n : Nat) (h1 : 1 ≤ n) (h2 : n < 2 ^ 59) {l : List Nat} (Q : Primes n l) (hb : m_bar_prime_of (n : Int) = some ((barL n l).map fun p : Nat => (p : Int))) (hc : chk n = true) : lieB n l = Cc n := by
  unfold chk at hc
  by_cases c : Cc n = true
  · rw [c]
    have ev : m_lies_all (n : Int) = some true := by
      have hm : n ∈ CL := by simpa [Cc] using c
      unfold CL at hm
      simp only [List.mem_cons, List.not_mem_nil, or_false] at hm
      rcases hm with rfl | rfl | rfl | rfl | rfl | rfl | rfl <;> decide +kernel
    rw [lies_ok n h1 h2 hb] at ev
    exact Option.some.inj ev
  · have c : Cc n = false := by simpa using c
    rw [c] at hc ⊢
    simp only [Bool.false_eq_true, if_false, Bool.or_eq_true, decide_eq_true_iff, Bool.not_eq_true'] at hc
    unfold lieB
    rcases hc with (rfl | hp) | hk
    · rfl
    · rw [hp]; simp
    · by_cases hn : 1 < n
      · obtain ⟨p, hp, hd, hbad⟩ := carB_false (Nat.le_refl 2) (nd_two n) (Nat.dvd_refl n) (by omega) hk
        cases e : barL n l with
        | none =>
          have := (barL_none Q).mp e p hp hd
          rw [hbad] at this
          cases this
        | some x => simp
      · rw [decide_eq_false hn]; rfl
theorem lies_at (n : Nat) (h1 : 1 ≤ n) (h2 : n < 2 ^ 59) (hc : chk n = true) : m_lies_all (n : Int) = some (Cc n) := by
  obtain ⟨l, k, Q, P, el, e1, e2, e3⟩ := bars_ok n h1 h2
  rw [lies_ok n h1 h2 e2, lieC n h1 h2 Q e2 hc]
theorem do_at (n : Nat) (h1 : 1 ≤ n) (h2 : n ≤ 1000000) (hc : chk n = true) : m_do_all_lie (n : Int) = some (Cc n) := by
  obtain ⟨l, k, Q, P, el, e1, e2, e3⟩ := bars_ok n h1 (by omega)
  rw [do_all_lie_ok n h1 h2 e2, lieC n h1 (by omega) Q e2 hc]
/-! ### units -/
def allU (n : Nat) : Bool := (((List.range (n - 1)).map (· + 1)).filter fun a => decide (Nat.gcd a n = 1)).all fun a => decide (a ^ (n - 1) % n = 1)
def chkU (n : Nat) : Bool := chk n && (Cc n == (allU n && (decide (2 < n) && !prB n)))
set_option maxHeartbeats 0 in
theorem chkU_a : ((List.range 100).all fun k => chkU (2 + k)) = true := by decide +kernel
set_option maxHeartbeats 0 in
theorem chkU_b : ((List.range 100).all fun k => chkU (102 + k)) = true := by decide +kernel
set_option maxHeartbeats 0 in
theorem chkU_c : ((List.range 100).all fun k => chkU (202 + k)) = true := by decide +kernel
theorem chkU_561 : chkU 561 = true := by decide +kernel
theorem chkU_1105 : chkU 1105 = true := by decide +kernel
theorem chkU_ok (n : Nat) (h1 : 2 ≤ n) (h2 : n < 302) : chkU n = true := by
  by_cases a : n < 102
  · have := List.all_eq_true.mp chkU_a (n - 2) (List.mem_range.mpr (by omega))
    rwa [show 2 + (n - 2) = n by omega] at this
  · by_cases b : n < 202
    · have := List.all_eq_true.mp chkU_b (n - 102) (List.mem_range.mpr (by omega))
      rwa [show 102 + (n - 102) = n by omega] at this
    · have := List.all_eq_true.mp chkU_c (n - 202) (List.mem_range.mpr (by omega))
      rwa [show 202 + (n - 202) = n by omega] at this
theorem units_ok (n : Nat) (h1 : 2 ≤ n) (h2 : n < 2000) (hc : chkU n = true) : Ok IP (m__law_units_right (n : Int)) (fun b => b = true) := by
  unfold chkU at hc
  rw [Bool.and_eq_true, beq_iff_eq] at hc
  obtain ⟨hc, hu⟩ := hc
  unfold m__law_units_right b__law_units_right
  simp only [bd_rt, bd_bd, bd_grd, bd_ite, yes1_eq, grd_true, do_at n (by omega) (by omega) hc, law_is_prime_ok n (by omega) (by omega), bd_some', ofO_some']
  have c2 : decide ((2 : Int) < (n : Int)) = decide (2 < n) := decide_eq_decide.mpr (by omega)
  rw [rng2_eq (by decide) (okI62_of' (by omega) (by omega)), bd_rt]
  have el : ((List.range ((n : Int) - 1).toNat).map fun k : Nat => (1 : Int) + (k : Int)) = ((List.range (n - 1)).map (· + 1)).map fun k : Nat => (k : Int) := by
    have : ((n : Int) - 1).toNat = n - 1 := by omega
    rw [this, List.map_map]
    refine List.map_congr_left fun k _ => ?_
    show (1 : Int) + (k : Int) = ((k + 1 : Nat) : Int)
    omega
  rw [el]
  rw [fil_eq (t := fun x : Int => decide (Nat.gcd x.toNat n = 1)) (g := fun x => x)]
  · rw [bd_rt]
    refine Ok.grd (okLen_of ?_) ?_
    · rw [List.length_map]
      refine Nat.lt_of_le_of_lt (List.length_filter_le _ _) ?_
      simp; omega
    · rw [map_eq (g := fun x : Int => decide (x.toNat ^ (n - 1) % n = 1))]
      · rw [bd_rt]
        refine Ok.grd (okLen_of ?_) ?_
        · rw [List.length_map, List.length_map]
          refine Nat.lt_of_le_of_lt (List.length_filter_le _ _) ?_
          simp; omega
        · have ea : ((List.map (fun x : Int => decide (x.toNat ^ (n - 1) % n = 1)) (List.map (fun x => x) (List.filter (fun x : Int => decide (Nat.gcd x.toNat n = 1)) (((List.range (n - 1)).map (· + 1)).map fun k : Nat => (k : Int))))).all fun b => b) = allU n := by
            unfold allU
            simp [List.filter_map, List.all_map, Function.comp_def]
          rw [ea, c2, hu]
          cases allU n <;> cases decide (2 < n) <;> cases prB n <;> exact Ok.rt rfl
      · intro a ha
        obtain ⟨b, hb, rfl⟩ := List.mem_map.mp ha
        obtain ⟨c, _, rfl⟩ := List.mem_map.mp (List.mem_filter.mp hb).1
        have a1 : (n : Int) - 1 = ((n - 1 : Nat) : Int) := by omega
        rw [a1, power_ok n c (n - 1) (by omega) (by omega) (by omega), bd_some']
        congr 1
        rw [decide_eq_decide]
        simp only [Int.toNat_natCast]
        omega
  · intro a ha
    obtain ⟨c, _, rfl⟩ := List.mem_map.mp ha
    rw [common_ok c n (by omega), bd_some']
    congr 1
    rw [decide_eq_decide]
    simp only [Int.toNat_natCast]
    omega
  · intro a _ _; rfl
/-! ### the list -/
set_option maxHeartbeats 0 in
theorem chk_0 : ((List.range 1000).all fun k => chk (3 + 2 * k)) = true := by decide +kernel
set_option maxHeartbeats 0 in
theorem chk_1 : ((List.range 1000).all fun k => chk (2003 + 2 * k)) = true := by decide +kernel
set_option maxHeartbeats 0 in
theorem chk_2 : ((List.range 1000).all fun k => chk (4003 + 2 * k)) = true := by decide +kernel
set_option maxHeartbeats 0 in
theorem chk_3 : ((List.range 1000).all fun k => chk (6003 + 2 * k)) = true := by decide +kernel
set_option maxHeartbeats 0 in
theorem chk_4 : ((List.range 1000).all fun k => chk (8003 + 2 * k)) = true := by decide +kernel
theorem chk_odd (k : Nat) (h : k < 5000) : chk (3 + 2 * k) = true := by
  have go : ∀ {a b : Nat}, ((List.range 1000).all fun k => chk (a + 2 * k)) = true → a = 3 + 2 * b → b ≤ k → k < b + 1000 → chk (3 + 2 * k) = true := fun {a b} q e h1 h2 => by
    have := List.all_eq_true.mp q (k - b) (List.mem_range.mpr (by omega))
    rwa [show a + 2 * (k - b) = 3 + 2 * k by omega] at this
  by_cases a : k < 1000
  · exact go (b := 0) chk_0 rfl (by omega) (by omega)
  · by_cases a : k < 2000
    · exact go (b := 1000) chk_1 rfl (by omega) (by omega)
    · by_cases a : k < 3000
      · exact go (b := 2000) chk_2 rfl (by omega) (by omega)
      · by_cases a : k < 4000
        · exact go (b := 3000) chk_3 rfl (by omega) (by omega)
        · exact go (b := 4000) chk_4 rfl (by omega) (by omega)
def cl (n : Nat) : List Int := (CL.filter fun c => decide (c ≤ n)).map fun p : Nat => (p : Int)
theorem odds_filter (n : Nat) (h1 : 1 ≤ n) : ((List.range ((n - 1) / 2)).map fun i => 3 + 2 * i).filter Cc = CL.filter fun c => decide (c ≤ n) := by
  refine sorted_eq ?_ ?_ fun x => ?_
  · refine List.Pairwise.filter _ (List.pairwise_map.mpr ?_)
    exact (List.pairwise_lt_range (n := (n - 1) / 2)).imp fun {a b} h => by omega
  · exact List.Pairwise.filter _ (by decide)
  · rw [List.mem_filter, List.mem_filter, List.mem_map, decide_eq_true_iff]
    have hC : Cc x = true ↔ x ∈ CL := by simp [Cc]
    rw [hC]
    constructor
    · rintro ⟨⟨i, hi, rfl⟩, hx⟩
      have := List.mem_range.mp hi
      exact ⟨hx, by omega⟩
    · rintro ⟨hx, hle⟩
      refine ⟨?_, hx⟩
      have : x % 2 = 1 ∧ 3 ≤ x := by
        unfold CL at hx
        simp only [List.mem_cons, List.not_mem_nil, or_false] at hx
        rcases hx with rfl | rfl | rfl | rfl | rfl | rfl | rfl <;> decide
      exact ⟨(x - 3) / 2, List.mem_range.mpr (by omega), by omega⟩
theorem liars_ok (n : Nat) (h1 : 1 ≤ n) (h2 : n ≤ 10000) : m_all_liars_to (n : Int) = some (cl n) := by
  unfold m_all_liars_to b_all_liars_to
  simp only [bd_rt, bd_bd, bd_grd, want_above_ok n h1 (by omega), bd_some']
  have c : decide ((10000 : Int) < (n : Int)) = false := decide_eq_false (by omega)
  rw [c]
  rw [odds_eq n h1 (by omega)]
  rw [bd_rt, fil_eq (t := fun x : Int => Cc x.toNat) (g := fun x => x)]
  · rw [bd_rt]
    have el : (List.map (fun x => x) (List.filter (fun x : Int => Cc x.toNat) (((List.range ((n - 1) / 2)).map fun i => 3 + 2 * i).map fun p : Nat => (p : Int)))) = cl n := by
      unfold cl
      rw [← odds_filter n h1, List.map_id', List.filter_map]
      congr 1
    rw [el, okLen_of (show (cl n).length < 16777216 by
      unfold cl
      rw [List.length_map]
      exact Nat.lt_of_le_of_lt (List.length_filter_le _ _) (by decide))]
    rfl
  · intro a ha
    obtain ⟨b, hb, rfl⟩ := List.mem_map.mp ha
    obtain ⟨i, hi, rfl⟩ := List.mem_map.mp hb
    have := List.mem_range.mp hi
    rw [lies_at _ (by omega) (by omega) (chk_odd i (by omega))]
    rfl
  · intro a _ _; rfl
theorem cl_cases (n : Nat) : ∃ k, k ≤ 7 ∧ cl n = (CL.take k).map fun p : Nat => (p : Int) := by
  unfold cl CL
  by_cases a1 : 561 ≤ n
  · by_cases a2 : 1105 ≤ n
    · by_cases a3 : 1729 ≤ n
      · by_cases a4 : 2465 ≤ n
        · by_cases a5 : 2821 ≤ n
          · by_cases a6 : 6601 ≤ n
            · by_cases a7 : 8911 ≤ n
              · exact ⟨7, by omega, by simp [a1, a2, a3, a4, a5, a6, a7]⟩
              · exact ⟨6, by omega, by simp [a1, a2, a3, a4, a5, a6, a7]⟩
            · exact ⟨5, by omega, by simp [a1, a2, a3, a4, a5, a6]; omega⟩
          · exact ⟨4, by omega, by simp [a1, a2, a3, a4, a5]; omega⟩
        · exact ⟨3, by omega, by simp [a1, a2, a3, a4]; omega⟩
      · exact ⟨2, by omega, by simp [a1, a2, a3]; omega⟩
    · exact ⟨1, by omega, by simp [a1, a2]; omega⟩
  · exact ⟨0, by omega, by simp [a1]; omega⟩
theorem show_cl (n : Nat) : okShow (enc (cl n)) = true ∧ okShow (enc [cl n, cl n]) = true := by
  obtain ⟨k, hk, e⟩ := cl_cases n
  rw [e]
  have h : ∀ k, k < 8 → okShow (enc ((CL.take k).map fun p : Nat => (p : Int))) = true ∧ okShow (enc [(CL.take k).map fun p : Nat => (p : Int), (CL.take k).map fun p : Nat => (p : Int)]) = true := by decide +kernel
  exact h k (by omega)
/-! ### threes -/
theorem threes_ok : Ok IP m__law_threes_right (fun b => b = true) := by
  unfold m__law_threes_right b__law_threes_right
  simp only [bd_rt, bd_bd, bd_grd, bd_ite, yes1_eq, grd_true]
  refine Ok.bd (draw_ok 8 (by decide) (by decide)) fun d hd => ?_
  obtain ⟨k, rfl, hk⟩ : ∃ k : Nat, d = (k : Int) ∧ k < 8 := ⟨d.toNat, by omega, by omega⟩
  have e1 : (6 : Int) * (1 + (k : Int)) + 1 = ((6 * (1 + k) + 1 : Nat) : Int) := by omega
  have e2 : (12 : Int) * (1 + (k : Int)) + 1 = ((12 * (1 + k) + 1 : Nat) : Int) := by omega
  have e3 : (18 : Int) * (1 + (k : Int)) + 1 = ((18 * (1 + k) + 1 : Nat) : Int) := by omega
  rw [e1, e2, e3]
  have em : mapMM (fun x40 => (ofO (m__law_is_prime x40) : M Pot Bool)) [((6 * (1 + k) + 1 : Nat) : Int), ((12 * (1 + k) + 1 : Nat) : Int), ((18 * (1 + k) + 1 : Nat) : Int)] = rt [prB (6 * (1 + k) + 1), prB (12 * (1 + k) + 1), prB (18 * (1 + k) + 1)] := by
    show bd (ofO (m__law_is_prime _)) _ = _
    rw [law_is_prime_ok _ (by omega) (by omega), bd_some']
    show bd (bd (ofO (m__law_is_prime _)) _) _ = _
    rw [law_is_prime_ok _ (by omega) (by omega), bd_some']
    show bd (bd (bd (ofO (m__law_is_prime _)) _) _) _ = _
    rw [law_is_prime_ok _ (by omega) (by omega), bd_some']
    rfl
  have fin : ∀ k, k < 8 → (prB (6 * (1 + k) + 1) && (prB (12 * (1 + k) + 1) && prB (18 * (1 + k) + 1))) = false ∨ k = 0 ∨ k = 5 := by decide +kernel
  have g1 : okMul 6 (1 + (k : Int)) = true := okMul_l (by decide)
  have g2 : okMul 12 (1 + (k : Int)) = true := okMul_l (by decide)
  have g3 : okMul 18 (1 + (k : Int)) = true := okMul_l (by decide)
  have g4 : ∀ b : Int, okMul ((6 * (1 + k) + 1 : Nat) : Int) b = true := fun b => okMul_l (natAbs_lt (by omega))
  have g5 : ∀ b : Int, okMul b ((18 * (1 + k) + 1 : Nat) : Int) = true := fun b => okMul_r (natAbs_lt (by omega))
  have g6 : okPow 10 6 = true := by decide +kernel
  have h1 : m_do_all_lie 1729 = some true := by decide +kernel
  have h2 : m_do_all_lie 294409 = some true := by decide +kernel
  have h3 : m_do_all_lie 91 = some false := by decide +kernel
  have h4 : m_do_all_lie 2701 = some false := by decide +kernel
  have h5 : noX (m_bar_prime 1729) = some none := by decide +kernel
  have h6 : noX (m_bar_prime 294409) = some none := by decide +kernel
  rw [em]
  simp only [bd_rt, g1, g2, g3, g4, g5, g6, grd_true]
  refine Ok.grd rfl (Ok.grd rfl ?_)
  rcases fin k hk with h | rfl | rfl
  · have c : (!([prB (6 * (1 + k) + 1), prB (12 * (1 + k) + 1), prB (18 * (1 + k) + 1)].all fun b => b)) = true := by
      simp only [List.all_cons, List.all_nil, Bool.and_true]
      rw [h]; rfl
    rw [if_pos c]
    exact Ok.ite (fun _ => Ok.rt rfl) fun z => absurd trivial z
  · have c : ¬ (!([prB (6 * (1 + 0) + 1), prB (12 * (1 + 0) + 1), prB (18 * (1 + 0) + 1)].all fun b => b)) = true := by decide +kernel
    rw [if_neg c]
    refine Ok.ite (fun _ => Ok.rt rfl) fun _ => ?_
    rw [show ((6 * (1 + 0) + 1 : Nat) : Int) * ((12 * (1 + 0) + 1 : Nat) : Int) * ((18 * (1 + 0) + 1 : Nat) : Int) = 1729 by decide, show ((6 * (1 + 0) + 1 : Nat) : Int) * ((12 * (1 + 0) + 1 : Nat) : Int) = 91 by decide, h1, h3, h5]
    exact Ok.rt rfl
  · have c : ¬ (!([prB (6 * (1 + 5) + 1), prB (12 * (1 + 5) + 1), prB (18 * (1 + 5) + 1)].all fun b => b)) = true := by decide +kernel
    rw [if_neg c]
    refine Ok.ite (fun _ => Ok.rt rfl) fun _ => ?_
    rw [show ((6 * (1 + 5) + 1 : Nat) : Int) * ((12 * (1 + 5) + 1 : Nat) : Int) * ((18 * (1 + 5) + 1 : Nat) : Int) = 294409 by decide, show ((6 * (1 + 5) + 1 : Nat) : Int) * ((12 * (1 + 5) + 1 : Nat) : Int) = 2701 by decide, h2, h4, h6]
    exact Ok.rt rfl
theorem list_ok : Ok IP m__law_list_right (fun b => b = true) := by
  unfold m__law_list_right b__law_list_right
  simp only [bd_rt, bd_bd, bd_grd, yes1_eq, yes2_eq, grd_true]
  refine Ok.bd (draw_ok 10000 (by decide) (by decide)) fun d hd => ?_
  obtain ⟨n, e, h1, h2⟩ : ∃ n : Nat, 1 + d = (n : Int) ∧ 1 ≤ n ∧ n ≤ 10000 := ⟨(1 + d).toNat, by omega, by omega, by omega⟩
  rw [e]
  have due : ∀ m : Nat, (List.filter (fun x : Int => decide (x ≤ (m : Int))) [561, 1105, 1729, 2465, 2821, 6601, 8911]) = cl m := fun m => by
    unfold cl CL
    rw [show ([561, 1105, 1729, 2465, 2821, 6601, 8911] : List Int) = ([561, 1105, 1729, 2465, 2821, 6601, 8911] : List Nat).map (fun p : Nat => (p : Int)) from rfl, List.filter_map]
    congr 1
    refine List.filter_congr fun x _ => ?_
    show decide ((x : Int) ≤ (m : Int)) = decide (x ≤ m)
    rw [decide_eq_decide]; omega
  refine Ok.grd rfl ?_
  rw [fil_eq (t := fun x : Int => decide (x ≤ (n : Int))) (g := fun x => x) (fun _ _ => rfl) (fun _ _ _ => rfl), bd_rt, List.map_id', due]
  have len : (cl n).length < 8 := by
    unfold cl
    rw [List.length_map]
    exact Nat.lt_of_le_of_lt (List.length_filter_le _ _) (by decide)
  refine Ok.grd (okLen_of (by omega)) ?_
  obtain ⟨s1, s2⟩ := show_cl n
  simp only [liars_ok n h1 h2, bd_some', s2]
  refine Ok.grd rfl (Ok.grd rfl (Ok.grd rfl (Ok.grd rfl ?_)))
  rw [if_neg (by simp)]
  refine Ok.grd (okLen_of (by rw [List.length_map]; omega)) ?_
  obtain ⟨m, em, hm1, hm2, hm3⟩ : ∃ m : Nat, (if (600 : Int) < (n : Int) then (600 : Int) else (n : Int)) = (m : Int) ∧ 1 ≤ m ∧ m ≤ 10000 ∧ m = min n 600 := by
    by_cases h : (600 : Int) < (n : Int)
    · exact ⟨600, by rw [if_pos h]; rfl, by decide, by decide, by omega⟩
    · exact ⟨n, by rw [if_neg h], h1, h2, by omega⟩
  rw [em, liars_ok m hm1 hm2, bd_some']
  obtain ⟨t1, _⟩ := show_cl m
  rw [fil_eq (t := fun x : Int => decide (x ≤ 600)) (g := fun x => x) (fun _ _ => rfl) (fun _ _ _ => rfl), bd_rt, List.map_id']
  have e600 : (cl n).filter (fun x : Int => decide (x ≤ 600)) = cl m := by
    unfold cl
    rw [List.filter_map, List.filter_filter]
    congr 1
    refine List.filter_congr fun x _ => ?_
    show (decide ((x : Int) ≤ 600) && decide (x ≤ n)) = decide (x ≤ m)
    rw [Bool.eq_iff_iff, Bool.and_eq_true, decide_eq_true_iff, decide_eq_true_iff, decide_eq_true_iff]
    omega
  rw [e600, t1]
  have len2 : (cl m).length < 8 := by
    unfold cl
    rw [List.length_map]
    exact Nat.lt_of_le_of_lt (List.length_filter_le _ _) (by decide)
  exact Ok.grd rfl (Ok.grd (okLen_of (by omega)) (Ok.grd rfl (Ok.rt (decide_eq_true rfl))))
end G_k67

namespace G_k67
open PySem XL
open PyProof.Rows hiding St
open Enc (enc)
def IQ (q : Pot2) : Prop := IP q.1 ∧ IP q.2
section
variable {α : Type} {m : M Pot α} {Q : α → Prop}
theorem vn (h : Ok IP m Q) : Ok IQ (viaL (fun q : Pot2 => q.1) (fun (q : Pot2) z => (z, q.2)) m) Q := Ok.via h (fun p hp => hp.1) fun p q hp hq => ⟨hq, hp.2⟩
theorem vf (h : Ok IP m Q) : Ok IQ (viaL (fun q : Pot2 => q.2) (fun (q : Pot2) z => (q.1, z)) m) Q := Ok.via h (fun p hp => hp.2) fun p q hp hq => ⟨hp.1, hq⟩
end
theorem nat_of {x : Int} (h : 1 ≤ x) : ∃ n : Nat, x = (n : Int) ∧ 1 ≤ n := ⟨x.toNat, by omega, by omega⟩
theorem law_true (ns : List Int) (hl : ns.length ≤ 63) : m_law ⟨ns⟩ = some true := by
  obtain ⟨q1, e1, i1⟩ := pot_ok ns 0 (.inl rfl)
  obtain ⟨q2, e2, i2⟩ := pot_ok ns 1 (.inr rfl)
  have key : Ok (fun _ => True) (b_law ⟨ns⟩) (fun b => b = true) := by
    unfold b_law
    simp only [bd_rt, bd_bd, bd_grd, yes1_eq, yes2_eq, grd_true, e1, e2, bd_some']
    refine Ok.reb (I2 := IQ) ?_ ⟨i1, i2⟩
    have p6 : okPow 10 6 = true := by decide +kernel
    have t6 : (10 : Int) ^ Int.toNat 6 = 1000000 := by decide +kernel
    refine Ok.grd p6 ?_
    refine Ok.bd (vn number_ok) fun a ha => ?_
    refine Ok.bd (vn (draw_ok 3000 (by decide) (by decide))) fun b hb => ?_
    refine Ok.grd rfl ?_
    refine Ok.bd (vf (pick_ok _ (by simp) (by decide))) fun c hc => ?_
    refine Ok.grd p6 ?_
    refine Ok.bd (vf number_ok) fun d hd => ?_
    refine Ok.grd rfl ?_
    rw [t6]
    have hall : ∀ x ∈ [if a < 1000000 then a else 1000000, 1 + b, c, if d < 1000000 then d else 1000000], 1 ≤ x ∧ x ≤ 1000000 := by
      intro x hx
      simp only [List.mem_cons, List.not_mem_nil, or_false] at hx hc
      rcases hx with rfl | rfl | rfl | rfl
      · split <;> omega
      · omega
      · omega
      · split <;> omega
    rw [map_eq (g := fun _ => true)]
    · rw [bd_rt]
      refine Ok.grd rfl ?_
      rw [if_neg (by simp)]
      refine Ok.bd (Q := fun v => v = false) ?_ fun v hv => ?_
      · refine Ok.bd (vn (draw_ok 300 (by decide) (by decide))) fun u hu => ?_
        refine Ok.grd rfl ?_
        refine Ok.bd (vn (pick_ok _ (by simp) (show 3 < 1000000 by decide))) fun x hx => ?_
        simp only [List.mem_cons, List.not_mem_nil, or_false] at hx
        have un : Ok IP (m__law_units_right x) (fun b => b = true) := by
          rcases hx with rfl | rfl | rfl
          · obtain ⟨n, e, hn⟩ := nat_of (x := 2 + u) (by omega)
            rw [e]
            exact units_ok n (by omega) (by omega) (chkU_ok n (by omega) (by omega))
          · exact units_ok 561 (by decide) (by decide) chkU_561
          · exact units_ok 1105 (by decide) (by decide) chkU_1105
        exact Ok.bd (vn un) fun b hb => Ok.rt (by rw [hb]; rfl)
      · subst hv
        rw [if_neg (by simp)]
        refine Ok.bd (vf threes_ok) fun v hv => ?_
        subst hv
        rw [if_pos rfl]
        refine Ok.bd (vf (draw_ok 4 (by decide) (by decide))) fun w hw => ?_
        exact Ok.ite (fun _ => Ok.rt rfl) fun _ => vf list_ok
    · intro x hx
      obtain ⟨h1, h2⟩ := hall x hx
      obtain ⟨n, rfl, hn⟩ := nat_of h1
      rw [right_ok n hn (by omega), ofO_some']
  exact key.run
end G_k67

open PySem PySem.W PyProof.Rows
set_option maxHeartbeats 0 in
theorem PySem.Challenge.cw_clockrests_k67_whole_numbers_all_lie_for_holds : PySem.Challenge.rw_clockrests_k67_whole_numbers_all_lie_for.Holds := by
  w_on; o_law; k_head; (case hw => w_witness2)
  k_fill
  refine XL.walk_g (l := PySem.Challenge.rw_clockrests_k67_whole_numbers_all_lie_for) (n := 63) (k := 8) (x := "script") (sp := fun K => XL.spF K (fun w : XL.Scr × Unit => [XL.Enc.enc w.1]) XL.dE (fun w => G_k67.m_law w.1)) rfl (by decide) rfl ⟨rfl, by decide, by decide⟩ (fun w h Y => PySem.W.kIn_of Y) ?F (XL.law_sp G_k67.law_true)
  case F =>
    intro w mg fa h KX G hmg
    refine' G_k67.all_mk KX G hmg ?a0 ?l0 ?c0 ?k0 ?a1 ?l1 ?c1 ?k1 ?a2 ?l2 ?c2 ?k2 ?a3 ?l3 ?c3 ?k3 ?a4 ?l4 ?c4 ?k4 ?a5 ?l5 ?c5 ?k5 ?a6 ?l6 ?c6 ?k6 ?a7 ?l7 ?c7 ?k7 ?a8 ?l8 ?c8 ?k8 ?a9 ?l9 ?c9 ?k9 ?a10 ?l10 ?c10 ?k10 ?a11 ?l11 ?c11 ?k11 ?a12 ?l12 ?c12 ?k12 ?a13 ?l13 ?c13 ?k13 ?a14 ?l14 ?c14 ?k14 ?a15 ?l15 ?c15 ?k15 ?a16 ?l16 ?c16 ?k16 ?a17 ?l17 ?c17 ?k17 ?a18 ?l18 ?c18 ?k18 ?a19 ?l19 ?c19 ?k19 ?a20 ?l20 ?c20 ?k20 ?a21 ?l21 ?c21 ?k21 ?a22 ?l22 ?c22 ?k22 ?a23 ?l23 ?c23 ?k23 ?a24 ?l24 ?c24 ?k24 ?a25 ?l25 ?c25 ?k25 ?a26 ?l26 ?c26 ?k26 ?z0 ?z1 ?z2 ?z3 ?z4 ?z5 ?z6 ?z7 ?z8 ?z9 ?z10 ?z11 ?cst0 ?cst1 ?x0 ?xa0 ?xb0 ?xc0 ?xd0 ?xe0 ?xf0
    (case a0 => k_is); (case l0 => k_is); (case c0 => k_is); (case k0 => k_is); (case a1 => k_is); (case l1 => k_is); (case c1 => k_is); (case k1 => k_is); (case a2 => k_is); (case l2 => k_is); (case c2 => k_is); (case k2 => k_is); (case a3 => k_is); (case l3 => k_is); (case c3 => k_is); (case k3 => k_is); (case a4 => k_is); (case l4 => k_is); (case c4 => k_is); (case k4 => k_is); (case a5 => k_is); (case l5 => k_is); (case c5 => k_is); (case k5 => k_is); (case a6 => k_is); (case l6 => k_is); (case c6 => k_is); (case k6 => k_is); (case a7 => k_is); (case l7 => k_is); (case c7 => k_is); (case k7 => k_is); (case a8 => k_is); (case l8 => k_is); (case c8 => k_is); (case k8 => k_is); (case a9 => k_is); (case l9 => k_is); (case c9 => k_is); (case k9 => k_is); (case a10 => k_is); (case l10 => k_is); (case c10 => k_is); (case k10 => k_is); (case a11 => k_is); (case l11 => k_is); (case c11 => k_is); (case k11 => k_is); (case a12 => k_is); (case l12 => k_is); (case c12 => k_is); (case k12 => k_is); (case a13 => k_is); (case l13 => k_is); (case c13 => k_is); (case k13 => k_is); (case a14 => k_is); (case l14 => k_is); (case c14 => k_is); (case k14 => k_is); (case a15 => k_is); (case l15 => k_is); (case c15 => k_is); (case k15 => k_is); (case a16 => k_is); (case l16 => k_is); (case c16 => k_is); (case k16 => k_is); (case a17 => k_is); (case l17 => k_is); (case c17 => k_is); (case k17 => k_is); (case a18 => k_is); (case l18 => k_is); (case c18 => k_is); (case k18 => k_is); (case a19 => k_is); (case l19 => k_is); (case c19 => k_is); (case k19 => k_is); (case a20 => k_is); (case l20 => k_is); (case c20 => k_is); (case k20 => k_is); (case a21 => k_is); (case l21 => k_is); (case c21 => k_is); (case k21 => k_is); (case a22 => k_is); (case l22 => k_is); (case c22 => k_is); (case k22 => k_is); (case a23 => k_is); (case l23 => k_is); (case c23 => k_is); (case k23 => k_is); (case a24 => k_is); (case l24 => k_is); (case c24 => k_is); (case k24 => k_is); (case a25 => k_is); (case l25 => k_is); (case c25 => k_is); (case k25 => k_is); (case a26 => k_is); (case l26 => k_is); (case c26 => k_is); (case k26 => k_is); (case z0 => k_is); (case z1 => k_is); (case z2 => k_is); (case z3 => k_is); (case z4 => k_is); (case z5 => k_is); (case z6 => k_is); (case z7 => k_is); (case z8 => k_is); (case z9 => k_is); (case z10 => k_is); (case z11 => k_is); (case cst0 => k_is); (case cst1 => k_is); (case x0 => k_is); (case xa0 => k_exc); (case xb0 => k_is); (case xc0 => k_is); (case xd0 => k_is); (case xe0 => k_is); (case xf0 => k_is)
