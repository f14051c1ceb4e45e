import PyProof.Rows.All
import Wide.All
import OpenK.AllK
import Wide.FinOn
import PySem.Challenge.RW_forksalike_k53_whole_plain_data
import HandS.ForMost
import HandS.ForExc
import HandS.IsInst
import HandS.Deep
import HandS.More
import HandS.RaiseMore
import HandS.Wide
import HandS.Flow
import HandS.NoneIn
import HandS.StrMore
import HandS.RaiseFrom
import HandS.SuiteRaise
import HandS.TryMany
import HandS.Small
import HandS.Evl
import KE.IntTextLaws
import KE.KIntText
import HandS.Walk
import PyProof.Draws
import PyProof.EnumMake
import HandS.Style
import KE.IntTextText
import HandS.ExcIs
set_option Elab.async false
set_option linter.all false
set_option maxRecDepth 100000
set_option maxHeartbeats 4000000
set_option exponentiation.threshold 5000
/-! own rules: long numbers as texts, repr of data -/
namespace KX
open PySem PySem.Spec PyProof.Rows L2 PySem.NumText PySem.Calls

/-! ### int(text) up to 4300 digits -/
theorem long_text {M : Model} {A : Around} {E : Value → Shared → Prop} {s : Shared} {Q : Value → Shared → Prop} {v : Value} {text : List Nat} {n : Int} (hd : s.heap.NoDigits)
    (hr0 : (text.takeWhile (· != 0)).length ≤ 640 → (int_private% "readNumeral") 0 10 (text.takeWhile (· != 0)) = (int_private% "Numeral.value") n)
    (hr1 : ¬ (text.takeWhile (· != 0)).length ≤ 640 → (int_private% "readNumeral") 4300 10 (text.takeWhile (· != 0)) = (int_private% "Numeral.value") n)
    (ha : ((text.takeWhile (· != 0)).length == text.length) = true) (h : Q (.int n s.toks) { s with toks := s.toks + 1 }) :
    wpAny M A ((int_private% "intFromText") v text 10) Q E s := by
  obtain ⟨hp, g, d, tk, os⟩ := s
  obtain ⟨mc, hns, hnone⟩ := hd
  by_cases hs : (text.takeWhile (· != 0)).length ≤ 640
  · exact PySem.W.KIN.wp_text hs (hr0 hs) ha h
  · have hr := hr1 hs
    clear hr0 hr1
    have hlim : ∀ {E' : Value → Shared → Prop} {Q' : Nat → Shared → Prop}, Q' 4300 ⟨hp, g, d, tk, os⟩ → wpAny M A Builtin.intMaxStrDigits Q' E' ⟨hp, g, d, tk, os⟩ := fun hq => by
      unfold Builtin.intMaxStrDigits
      refine wpAny_bind (wpAny_nsGet hns ?_)
      rw [hnone]
      exact wpAny_pure hq
    repeat (any_goals (first
      | assumption
      | (with_reducible refine wpAny_ite_false (decide_eq_false hs) ?_)
      | (with_reducible refine wpAny_ite_true (decide_eq_true ha) ?_)
      | (with_reducible refine wpAny_bind (hlim ?_))
      | (with_reducible refine hlim ?_)
      | wp_step))
    all_goals (try rw [hr])
    all_goals (try dsimp only)
    repeat (any_goals (first
      | assumption
      | (with_reducible refine wpAny_ite_true (decide_eq_true ha) ?_)
      | wp_step))
    all_goals first | exact h | skip

theorem long_new {x : PySem.Str} {u : Tok} {n : Int} (hl : x.length ≤ 4300) (hn : PySem.intText? x = some n) :
    Meets (Builtin.«int.__new__» ⟨[.type "int", .str x u], []⟩) (fun _ R s => s.heap.NoDigits ∧ R (.ok (.ret (.int n s.toks))) { s with toks := s.toks + 1 }) :=
  Meets.of_wp fun prog w A R s hq => by
    obtain ⟨hp, g, d, tk, os⟩ := s
    obtain ⟨hd, h⟩ := hq
    have f1 := PySem.F.conv_sub_int
    have f2 := PySem.F.madeHere_int
    have f3 := PySem.W.KIN.str_int
    have f4 := PySem.W.KIN.str_idx
    have f5 := PySem.W.KIN.str_trunc
    have f6 : typeOf (.str x u) = pure (.type "str") := rfl
    have hsz : x.length ≤ sizeLine := Nat.le_trans hl (by decide)
    have hr : ((numSeenOf x).length ≤ 640 → (int_private% "readNumeral") 0 10 (numSeenOf x) = (int_private% "Numeral.value") n) ∧
        (¬ (numSeenOf x).length ≤ 640 → (int_private% "readNumeral") 4300 10 (numSeenOf x) = (int_private% "Numeral.value") n) ∧ ((numSeenOf x).length == (numTextOf x).length) = true := by
      have two : ∀ l : Nat, (∃ m, intText? x = some m ∧ ((numSeenOf x).length == (numTextOf x).length) = true ∧ (int_private% "readNumeral") l 10 (numSeenOf x) = (int_private% "Numeral.value") m) ∨
          intText? x = none → ((int_private% "readNumeral") l 10 (numSeenOf x) = (int_private% "Numeral.value") n ∧ ((numSeenOf x).length == (numTextOf x).length) = true) := fun l hh => by
        rcases hh with ⟨m, h1, h2, h3⟩ | h1
        · rw [hn] at h1
          injection h1 with h1
          subst h1
          exact ⟨h3, h2⟩
        · rw [hn] at h1
          cases h1
      by_cases hs : (numSeenOf x).length ≤ 640
      · have q := two 0 ((read0 x hs).imp id fun z => z.1)
        exact ⟨fun _ => q.1, fun z => absurd hs z, q.2⟩
      · have q := two 4300 ((read4300 x hsz).imp id fun z => z.1)
        exact ⟨fun z => absurd z hs, fun _ => q.1, q.2⟩
    have hk := PySem.W.KIN.Hid.mk (And.intro hd hr)
    clear hr hl hn hd hsz
    repeat (any_goals (first
      | assumption
      | ((with_reducible show wpAny _ _ ((int_private% "intFromText") _ _ _) _ _ _); refine long_text hk.out.1 hk.out.2.1 hk.out.2.2.1 hk.out.2.2.2 ?_)
      | wp_step))
    all_goals first | exact ⟨_, rfl, h⟩ | skip

section
variable {prog : Program} {w : World} {A : Around} {E : Value → Shared → Prop} {s : Shared} {Q : Value → Shared → Prop} {x : PySem.Str} {t : Tok} {n : Int}
theorem long_int (hn : PySem.intText? x = some n) (hl : x.length ≤ 4300) (hd : s.heap.NoDigits) (h : Q (.int n s.toks) { s with toks := s.toks + 1 }) : wpAny (model prog w) A (call (.type "int") [.str x t]) Q E s :=
  call_int_1 (long_new hl hn) ⟨hd, rfl, h⟩
end
end KX

namespace KX
open PySem PySem.Spec PyProof.Rows L2

section
variable {X : Cx}
/-- str(x) of an int below 10^4300, a bool, a text -/
def rStr : List V → Hp → VK → Prop := fun xs H Q => (∃ i : Int, xs = [.int i] ∧ i.natAbs < 10 ^ 4300 ∧ Q (.str (toString i)) H) ∨ (∃ b : Bool, xs = [.bl b] ∧ Q (.str (if b then "True" else "False")) H) ∨ ∃ a, xs = [.str a] ∧ Q (.str a) H
theorem kx_str (hc : X.calm = true) (nd : X.base.NoDigits) : CallR X (.type "str") rStr := by
  intro pins s σ H xs us Q I r h
  rcases h with ⟨i, rfl, hz, q⟩ | ⟨b, rfl, q⟩ | ⟨a, rfl, q⟩
  · obtain ⟨u, rfl, t, rfl⟩ := vals1 r
    exact str_of_int_or (I.ok.hd hc) (nd.keeps I.bk) (fun _ => ⟨.str _, H, I.tok _, ⟨_, rfl⟩, q⟩) fun hge => absurd hz (Nat.not_lt.mpr hge)
  · obtain ⟨u, rfl, rb⟩ := vals1 r
    cases rb
    exact PySem.P.str_of_bool ⟨.str _, H, I.tok _, ⟨_, rfl⟩, q⟩
  · obtain ⟨u, rfl, t, rfl⟩ := vals1 r
    exact PySem.P.str_of_str ⟨.str _, H, I, ⟨_, rfl⟩, q⟩
/-- int(x) of an int, a bool, a text of at most 4300 signs -/
def rInt : List V → Hp → VK → Prop := fun xs H Q => (∃ i, xs = [.int i] ∧ Q (.int i) H) ∨ (∃ k, xs = [.bl k] ∧ Q (.int (if k then 1 else 0)) H) ∨ ∃ a n, xs = [.str a] ∧ PySem.intText? a = some n ∧ a.length ≤ 4300 ∧ Q (.int n) H
theorem kx_int (nd : X.base.NoDigits) : CallR X (.type "int") rInt := by
  intro pins s σ H xs us Q I r h
  rcases h with h | h | ⟨a, n, rfl, hn, hl, q⟩
  · exact call_int1 pins s σ H xs us Q I r (.inl h)
  · exact call_int1 pins s σ H xs us Q I r (.inr h)
  · obtain ⟨u, rfl, t, rfl⟩ := vals1 r
    exact long_int hn hl (nd.keeps I.bk) ⟨.int n, H, I.tok _, ⟨_, rfl⟩, q⟩
/-- repr(x) of a list or a tuple of data, and of None; where no other repr is under way -/
def rRepr (K : PySem.W.Frag) : List V → Hp → VK → Prop := fun xs H Q => (xs = [.non] ∧ Q (.str "None") H) ∨
  ∃ a d, xs = [.ref a] ∧ Dp K H (.ref a) d ∧ d.showable = true ∧ d.hasDict = false ∧ d.depth + 1 ≤ 400 ∧ d.shown.length ≤ sizeLine ∧ Q (.str d.shown) H
theorem kx_repr (hu : X.A.units + 400 < cLine) (hg : X.A.guards = some []) : CallR X (.builtin "repr") (rRepr X.K) := by
  intro pins s σ H xs us Q I r h
  rcases h with ⟨rfl, q⟩ | ⟨a, d, rfl, hd, hs, hnd, hdp, hsz, q⟩
  · obtain ⟨u, rfl, rb⟩ := vals1 r
    cases rb
    exact PySem.P.repr_of_none ⟨.str _, H, I.tok _, ⟨_, rfl⟩, q⟩
  · obtain ⟨u, rfl, rb⟩ := vals1 r
    cases rb
    obtain ⟨as, rr⟩ := Dp.reads I d _ _ hd rfl
    exact repr_of_reads' rr hs (PyData.noDict_hsm hnd) hg (by omega) (fun _ _ e => e) (fun h' u tk hk => ⟨.str _, H, I.kept hk, ⟨_, rfl⟩, q⟩) hsz
end
end KX

namespace KX
open PySem PySem.Spec PyProof.Rows L2

/-- what the law's own def does, called at the outermost place: nothing's repr is under way there -/
def RunG (P : Program) (w : World) (K : PySem.W.Frag) (mg : Str → Option Value) (base : Heap) (CX : CXT) (k : Nat) (f : Addr) (fd : FuncData) (ps : List Str) (sp : Sp) : Prop :=
  ∀ (A : Around) (outer : List Env) (s : Shared) (H : Hp) (args : Args) (us : List Value) (vs : List V) (Q : VK) (E : XK),
    Room k A → A.guards = some [] → Env0 P w K mg base A outer s H → BindsTo s fd args (ps.zip us) → Vals vs us → sp vs H Q E →
    codeAny (model P w) A (.call (.ref f) args) (CR CX outer P w H s Q E) s

section
variable {P : Program} {w : World} {K : PySem.W.Frag} {mg : Str → Option Value} {base : Heap}
theorem runG {x qual : Str} {st : Stmt} {f : Addr} {fd : FuncData} {N ps : List Str} {k : Nat} {sp : Sp} (F : Fun K x qual st f fd) (S : FnScope N ps (defScope st))
    (len : ∀ vs H Q E, sp vs H Q E → vs.length = ps.length)
    (hbody : ∀ (cdv : Value) (A : Around) (outer : List Env) (s : Shared) (H : Hp) (vs : List V) (Q : VK) (E : XK),
      Room k (A.deeper (envOfC qual (defScope st) s.heap.objs.size f cdv)) → A.guards = some [] → sp vs H Q E →
      ∃ t, PSs (cxOf CX0 P w K mg base N qual (defScope st) f cdv A outer s H E).nox (defBody st) t ∧ t { nx := fun _ H' => Q .non H', rt := Q } (start N vs) H) :
    RunG P w K mg base CX0 (k + 1) f fd ps sp := by
  obtain ⟨oc, od, kV, doc, pm, an, cdv, ct, osl, rfl, lk, hcd⟩ := F.ex
  intro A outer s H args us vs Q E hr hgu e0 hb r hsp
  have hl := len _ _ _ _ hsp
  have up : ∀ b o, base.get? b = some o → s.heap.get? b = some o := fun b o e => (e0.bs b o e).1
  have hK : K.In s.heap := e0.mod.kin.keeps up
  have hkd : ∀ y ∈ ps.zip us, (defScope st).names.lookup y.1 = some .local ∨
      ((defScope st).names.lookup y.1 = some .cell ∧ ((cellsFrom (s.heap.objs.size + 1) (defScope st).names []).lookup y.1).isSome = true) := by
    rintro ⟨n, v⟩ hy
    cases S.par n (List.of_mem_zip hy).1 with
    | inl q => exact .inl q
    | inr q => exact .inr ⟨q, PySem.W.cellsFrom_some _ _ _ (.inl q)⟩
  refine codeAny_call_function hr.depth (hK _ _ lk) rfl S.co S.gen rfl (PySem.W.codeRec_of hK hcd) (hb _ _ _ _ ?_)
  refine wpAny_newFunctionEnv_cells S.kind hkd ?_
  rintro env rfl s1 x
  refine ⟨(e0.mod.nolimit.keeps up).keeps x.toInCall.keep, codeAny_func ?_⟩
  obtain ⟨t, ht0, hq⟩ := hbody cdv A outer s H vs Q E (hr.deeper _) hgu hsp
  have ht := ht0.nox
  have I := inv_start (CX := CX0) (P := P) (w := w) (K := K) (mg := mg) (base := base) (qual := qual) (f := f) (cd := cdv) (outer := outer) (E := E) S hr.hd e0 hl r x
  refine wpAny_mono (ht.run [] s1 (start N vs) H _ I hq) ?_ (fun _ _ z => z)
  intro fl s' hs
  cases fl with
  | next =>
    obtain ⟨σ', H', J, q⟩ := hs
    exact ⟨V.non, H', J.os, J.bare, J.base, J.hok, rfl, q⟩
  | ret u =>
    obtain ⟨v, σ', H', J, rv, q⟩ := hs
    exact ⟨v, H', J.os, J.bare, J.base, J.hok, rv, q⟩
  | brk =>
    obtain ⟨_, _, _, q⟩ := hs
    cases q
  | cont =>
    obtain ⟨_, _, _, q⟩ := hs
    cases q

/-- the law's call, from its promise; F may use that no limit on digits is set in base -/
theorem callG {mb : Str → Option Value} {k : Nat} {fa a : Addr} {fd : FuncData} {x : Str} {sp : Sp} {s₁ : Shared} {vs : List Value} {ns : List Int}
    (KX : K.In s₁.heap) (hns : s₁.heap.Ns mainGlobals mg) (hb : s₁.heap.Ns builtinsNs mb) (hbb : ∀ x : Str, x ≠ "__name__" → mb x = bootBuiltins x)
    (hlim : s₁.heap.NoLimit) (hdig : s₁.heap.NoDigits) (hg : s₁.gens = #[])
    (ha : s₁.heap.get? a = some { cls := .type "list", data := .seq vs.toArray }) (hi : IntsAre vs ns) (hl : ns.length ≤ sizeLine) (hr : Room k callerA)
    (F : ∀ base : Heap, K.In base → base.Ns mainGlobals mg → base.NoDigits → RunG P w K mg base CX0 k fa fd [x] sp)
    (hbind : ∀ (s : Shared) (u : Value), BindsTo s fd ⟨[u], []⟩ [(x, u)])
    (hsp : ∀ H : Hp, Only H → SqL K H a (ns.map V.int) → sp [.ref a] H (fun v _ => v = .bl true) fun _ _ _ => False) :
    codeAny (model P w) callerA (.call (.ref fa) ⟨[.ref a], []⟩)
      (fun r s' => r = .ok (.ret (.bool true)) ∧ OldK s₁.heap s'.heap ∧ s'.os = s₁.os ∧ AllBare s'.gens) s₁ := by
  have rv := vals_ints hi
  have lenV := hi.length
  have core : ∀ H : Hp, Only H → SqL K H a (ns.map V.int) → HOk P w H s₁.heap → (∀ b, H b ≠ none → b = a) → (H a ≠ none → K.lookup a = none) →
      codeAny (model P w) callerA (.call (.ref fa) ⟨[.ref a], []⟩)
        (fun r s' => r = .ok (.ret (.bool true)) ∧ OldK s₁.heap s'.heap ∧ s'.os = s₁.os ∧ AllBare s'.gens) s₁ := by
    intro H hO hS hok hA hKa
    have keep : ∀ {b : Addr} {o : Obj}, s₁.heap.get? b = some o → H b = none → (hidT s₁.heap H).get? b = some o := fun e n => hidT_get e n
    have nodict : ∀ {b : Addr} {o : Obj} {es : Array DictEntry} {ep : Nat}, s₁.heap.get? b = some o → o.data = .dict es ep → H b = none := by
      intro b o es ep e d
      cases q : H b with
      | none => rfl
      | some u =>
        obtain rfl : b = a := hA b (by rw [q]; simp)
        rw [ha] at e
        cases e
        exact nomatch (show Data.seq vs.toArray _ = Data.dict es ep from d)
    have nsK : ∀ {b : Addr} {m : Str → Option Value}, s₁.heap.Ns b m → (hidT s₁.heap H).Ns b m := fun {b m} ⟨o, es, ep, e, d, r⟩ => ⟨o, es, ep, keep e (nodict e d), d, r⟩
    have hKb : K.In (hidT s₁.heap H) := by
      intro b o e
      refine keep (KX b o e) ?_
      cases q : H b with
      | none => rfl
      | some u =>
        obtain rfl : b = a := hA b (by rw [q]; simp)
        rw [hKa (by rw [q]; simp)] at e
        cases e
    have hM : Mod K mg (hidT s₁.heap H) := ⟨hKb, nsK hns, ⟨mb, nsK hb, hbb⟩, by obtain ⟨mc, h1, h2⟩ := hlim; exact ⟨mc, nsK h1, h2⟩⟩
    have hD : (hidT s₁.heap H).NoDigits := by obtain ⟨mc, h1, h2⟩ := hdig; exact ⟨mc, nsK h1, h2⟩
    have e0 : Env0 P w K mg (hidT s₁.heap H) callerA [] s₁ H :=
      { frames := rfl, mod := hM, bs := fun b o e => of_hidT e, bsz := Nat.le_of_eq (hidT_size _ _), funs := trivial, frf := fun b hb => absurd (show b ∈ ([] : List Addr) from hb) (by simp), hok := hok, bare := .of_eq hg }
    refine codeAny_mono (F _ hKb (nsK hns) hD callerA [] s₁ H ⟨[.ref a], []⟩ [.ref a] [.ref a] _ _ hr rfl e0 (hbind s₁ (.ref a)) (.cons rfl .nil) (hsp H hO hS)) ?_
    intro r s' h
    match r, h with
    | .error e, h => exact False.elim h
    | .ok (.ret u), h =>
      obtain ⟨v, H', os, bare, un, hok', r', q⟩ := h
      obtain rfl : v = .bl true := q
      obtain rfl : u = Value.bool true := r'
      refine ⟨rfl, OldK.of_keep ?_, os, bare⟩
      intro b o e
      cases q : H b with
      | none => exact un.keep b o e q (by simp [frs]) (by simp)
      | some u =>
        rcases hO b with z | ⟨ob, xs, z⟩
        · rw [q] at z
          cases z
        · obtain ⟨e1, _⟩ := hok b _ z
          obtain ⟨e2, _⟩ := hok' b _ (un.frzs b ob _ z)
          rw [e] at e1
          cases e1
          exact e2
  cases hk : K.lookup a with
  | some o =>
    have e := KX a o hk
    rw [ha] at e
    cases e
    have none_ : ∀ b : Addr, (fun _ => none : Hp) b = none := fun _ => rfl
    exact core (fun _ => none) (fun _ => .inl rfl) (.inr ⟨_, vs.toArray, _, hk, rfl, rfl, rfl, by rw [List.size_toArray, lenV]; exact hl, by simpa using rv⟩)
      (fun b u z => nomatch (show (none : Option HO) = some u from z)) (fun b z => absurd rfl z) (fun z => absurd rfl z)
  | none =>
    let H0 : Hp := fun b => if b = a then some (.frz { cls := .type "list", data := .seq vs.toArray } (.lst (ns.map V.int))) else none
    have yes : H0 a = some (.frz { cls := .type "list", data := .seq vs.toArray } (.lst (ns.map V.int))) := if_pos rfl
    have no : ∀ b, b ≠ a → H0 b = none := fun b hb => if_neg hb
    refine core H0 (fun b => ?_) (.inl (.inr ⟨_, yes⟩)) (fun b u z => ?_) (fun b z => ?_) fun _ => hk
    · by_cases hb : b = a
      · exact .inr ⟨_, _, by rw [hb]; exact yes⟩
      · exact .inl (no b hb)
    · by_cases hb : b = a
      · subst hb
        rw [yes] at z
        cases z
        exact ⟨ha, by rw [List.length_map]; exact hl, vs, _, rv, ha⟩
      · rw [no b hb] at z
        cases z
    · by_cases hb : b = a
      · exact hb
      · exact absurd (no b hb) z
end

/-- the goal that k_head leaves, from the law's promise -/
theorem walkG {l : PySem.W.OpenLaw} {n k : Nat} {q : Program} {loose : List Str} {XP : (Str → Option Value) → Heap → Prop} {YP : World → Heap → Prop} {d : DefRec} {K : Params → PySem.W.Frag} {sp : World → Sp} {x : Str}
    (hn : l.most = some n) (hn2 : n ≤ sizeLine) (hdf : d.params.defaults = []) (hr : Room k callerA)
    (hY : ∀ (w : World) (h : Heap), YP w h → (K w.params).In h)
    (F : ∀ (w : World) (mg : Str → Option Value) (fa : Addr) (h : Heap), (K w.params).In h → h.Ns mainGlobals mg → mg d.name = some (.ref fa) →
      ∃ fd : FuncData, (∀ (s : Shared) (u : Value), BindsTo s fd ⟨[u], []⟩ [(x, u)]) ∧
        ∀ base : Heap, (K w.params).In base → base.Ns mainGlobals mg → base.NoDigits → RunG l.prog w (K w.params) mg base CX0 k fa fd [x] (sp w))
    (hsp : ∀ (w : World) (H : Hp) (a : Addr) (ns : List Int), ns.length ≤ n → Only H → SqL (K w.params) H a (ns.map V.int) → sp w [.ref a] H (fun v _ => v = .bl true) fun _ _ _ => False) :
    PySem.W.WalkO q loose XP YP l.row.toRowW d [] (fun f vs => PySem.call f vs) := by
  refine Att.attach_call hn hdf ?_
  intro w s₀ s₁ mg mb fa o pm cd doc a vs ns G Y ho hd hcd hmg hobj hints hlen hg
  have hK := hY w _ Y
  obtain ⟨fd, hb, hF⟩ := F w mg fa _ hK G.T.g hmg
  exact callG hK G.T.g G.T.b G.T.builtins G.T.nolimit G.T.nodigits hg hobj hints (Nat.le_trans hlen hn2) hr hF hb fun H hO hS => hsp w H a ns hlen hO hS
end KX

namespace KX
open PySem PySem.Spec PyProof.Rows L2

/-! ### texts as lists of codes -/
def tx (l : List Nat) : Str := ⟨l.toArray⟩
theorem tx_list (l : List Nat) : (tx l).cps.toList = l := by simp [tx]
theorem tx_len (l : List Nat) : (tx l).length = l.length := by
  show l.toArray.size = l.length
  simp
theorem tx_of (s : Str) : tx s.cps.toList = s := by
  cases s
  simp [tx]
theorem tx_inj {a b : List Nat} (h : tx a = tx b) : a = b := by
  have := congrArg (fun s : Str => s.cps.toList) h
  simpa [tx_list] using this
theorem tx_app (a b : List Nat) : tx a ++ tx b = tx (a ++ b) := by
  show (⟨a.toArray ++ b.toArray⟩ : Str) = ⟨(a ++ b).toArray⟩
  simp
theorem tx_dec (a b : List Nat) : decide (V.str (tx a) = V.str (tx b)) = decide (a = b) := by
  by_cases h : a = b
  · subst h; simp
  · rw [decide_eq_false h, decide_eq_false]
    intro e
    exact h (tx_inj (V.str.inj e))

/-! ### operators, by what stands there -/
section
variable {X : Cx}
def rI2 (C : Int → Int → Prop) (g : Int → Int → V) : R2 := rI C g
theorem k_str_mul : OpR X (binaryOp .Mult) (fun x y H Q => ∃ (l : List Nat) (n : Nat), x = .str (tx l) ∧ y = .int n ∧ 2 ≤ n ∧ l ≠ [] ∧ l.length * n ≤ 100000 ∧ Q (.str (tx (List.replicate n l).flatten)) H) := by
  intro pins s σ H x y v u Q I rx ry h
  obtain ⟨l, n, rfl, rfl, h2, hne, hsz, q⟩ := h
  obtain ⟨t, rfl⟩ := rx
  obtain ⟨t', rfl⟩ := ry
  have hl : (tx l).length = l.length := tx_len l
  have hpos : 0 < l.length := List.length_pos_iff.mpr hne
  have hn1 : n ≤ l.length * n := Nat.le_mul_of_pos_left n hpos
  have hl1 : l.length ≤ l.length * n := Nat.le_mul_of_pos_right l.length (by omega)
  have e0 : ¬ ((n : Int) < 1) := by omega
  have e1 : (((n : Int) == 1) || (tx l).length == 0) = false := by
    rw [hl]
    have a : ((n : Int) == 1) = false := beq_eq_false_iff_ne.mpr (by omega)
    have b : (l.length == 0) = false := beq_eq_false_iff_ne.mpr (by omega)
    rw [a, b]; rfl
  refine PySem.P.mul_str (x := tx l) (n := (n : Int)) ?_ (fun _ _ => ?_) (fun _ _ => ?_) ?_
  · have a : ¬ ((n : Int) < -(2 ^ 63 : Int)) := by omega
    have b : ¬ ((n : Int) ≥ 2 ^ 63) := by omega
    rw [decide_eq_false a, decide_eq_false b]; rfl
  · rw [hl]
    intro hgt
    have h3 : (2 ^ 63 - 1 : Int) / (n : Int) < (l.length : Int) := hgt
    have h4 : (2 ^ 63 - 1 : Int) < (l.length : Int) * (n : Int) := by
      have := Int.lt_mul_of_ediv_lt (by omega) h3
      exact this
    have h5 : ((l.length * n : Nat) : Int) ≤ 100000 := by omega
    rw [Int.natCast_mul] at h5
    omega
  · rw [hl]
    show decide _ = false
    have e : ((n : Int).toNat) = n := Int.toNat_natCast n
    rw [e]
    refine decide_eq_false ?_
    have := sizeLine_eq
    omega
  · rw [if_neg e0, if_neg (by rw [e1]; exact Bool.false_ne_true)]
    have ef : (⟨(List.replicate (n : Int).toNat (tx l).cps).foldl (· ++ ·) #[]⟩ : Str) = tx (List.replicate n l).flatten := by
      have e : ((n : Int).toNat) = n := Int.toNat_natCast n
      rw [e]
      have gen : ∀ (m : Nat) (acc : Array Nat), (List.replicate m (tx l).cps).foldl (· ++ ·) acc = acc ++ ((List.replicate m l).flatten).toArray := by
        intro m
        induction m with
        | zero => intro acc; simp
        | succ m ih =>
          intro acc
          rw [List.replicate_succ, List.foldl_cons, ih]
          simp [List.replicate_succ, tx, Array.append_assoc]
      rw [gen]
      simp [tx]
    rw [ef]
    refine ⟨?_, ⟨.str _, H, I.tok _, ⟨_, rfl⟩, q⟩⟩
    have h6 : ((List.replicate n l).flatten).length = n * l.length := by rw [List.length_flatten, List.map_replicate, List.sum_replicate_nat]
    have := sizeLine_eq
    rw [tx_len, h6, Nat.mul_comm]
    omega
/-- data by value; one of the two is not deep -/
def rEqM (K : PySem.W.Frag) : R2 := fun x y H Q => ∃ d e, Dp K H x d ∧ Dp K H y e ∧ d.canLay0 = true ∧ e.canLay0 = true ∧ min d.depth e.depth ≤ 64 ∧ Q (.bl (PyData.eqv d e)) H
def rNeM (K : PySem.W.Frag) : R2 := fun x y H Q => ∃ d e, Dp K H x d ∧ Dp K H y e ∧ d.canLay0 = true ∧ e.canLay0 = true ∧ min d.depth e.depth ≤ 64 ∧ Q (.bl (!PyData.eqv d e)) H
theorem op_eqM (hu : X.A.units + 64 < cLine) : OpR X (compareOp .Eq) (rEqM X.K) := by
  intro pins s σ H x y v u Q I rx ry h
  obtain ⟨d, e, hd, he, sd, se, hm, q⟩ := h
  obtain ⟨as, r1⟩ := Dp.reads I d x v hd rx
  obtain ⟨bs, r2⟩ := Dp.reads I e y u he ry
  exact SeqAt.compareEq_reads r1 r2 sd se (by omega) ⟨.bl _, H, I, rfl, q⟩
theorem op_neM (hu : X.A.units + 64 < cLine) : OpR X (compareOp .NotEq) (rNeM X.K) := by
  intro pins s σ H x y v u Q I rx ry h
  obtain ⟨d, e, hd, he, sd, se, hm, q⟩ := h
  obtain ⟨as, r1⟩ := Dp.reads I d x v hd rx
  obtain ⟨bs, r2⟩ := Dp.reads I e y u he ry
  exact SeqAt.compareNe_reads r1 r2 sd se (by omega) ⟨.bl _, H, I, rfl, q⟩
def rEqU (K : PySem.W.Frag) : R2 := fun x y H Q => rEq x y H Q ∨ rEqM K x y H Q
def rNeU (K : PySem.W.Frag) : R2 := fun x y H Q => rNe x y H Q ∨ rNeM K x y H Q
theorem k_eq (hu : X.A.units + 65 < cLine) : OpR X (compareOp .Eq) (rEqU X.K) := OpR.or op_eq (op_eqM (by omega))
theorem k_ne (hu : X.A.units + 65 < cLine) : OpR X (compareOp .NotEq) (rNeU X.K) := OpR.or op_ne (op_neM (by omega))
def rLtU : R2 := fun x y H Q => rI0 (fun i j => .bl (decide (i < j))) x y H Q ∨ ∃ i j, x = .str i ∧ y = .str j ∧ Q (.bl (decide (i.cps.toList < j.cps.toList))) H
theorem k_lt : OpR X (compareOp .Lt) rLtU := OpR.or op_lt op_lt_str
def rLeU : R2 := fun x y H Q => rI0 (fun i j => .bl (decide (i ≤ j))) x y H Q ∨ ∃ i j, x = .str i ∧ y = .str j ∧ Q (.bl (!decide (j.cps.toList < i.cps.toList))) H
theorem k_le : OpR X (compareOp .LtE) rLeU := OpR.or op_le op_le_str
def rGtU : R2 := fun x y H Q => rI0 (fun i j => .bl (decide (j < i))) x y H Q ∨ ∃ i j, x = .str i ∧ y = .str j ∧ Q (.bl (decide (j.cps.toList < i.cps.toList))) H
theorem k_gt : OpR X (compareOp .Gt) rGtU := OpR.or op_gt op_gt_str
def rGeU : R2 := fun x y H Q => rI0 (fun i j => .bl (decide (j ≤ i))) x y H Q ∨ ∃ i j, x = .str i ∧ y = .str j ∧ Q (.bl (!decide (i.cps.toList < j.cps.toList))) H
theorem k_ge : OpR X (compareOp .GtE) rGeU := OpR.or op_ge op_ge_str
def rInSign : R2 := fun x y H Q => ∃ (c : Nat) (z : Str), x = .str ⟨#[c]⟩ ∧ y = .str z ∧ Q (.bl (decide (c ∈ z.cps.toList))) H
def rNotInSign : R2 := fun x y H Q => ∃ (c : Nat) (z : Str), x = .str ⟨#[c]⟩ ∧ y = .str z ∧ Q (.bl (!decide (c ∈ z.cps.toList))) H
def rInU (K : PySem.W.Frag) : R2 := fun x y H Q => rInSign x y H Q ∨ rInD K x y H Q
def rNotInU (K : PySem.W.Frag) : R2 := fun x y H Q => rNotInSign x y H Q ∨ rNotInD K x y H Q
theorem k_in (hu : X.A.units + 65 < cLine) : OpR X (compareOp .In) (rInU X.K) := OpR.or op_in_sign (op_inD hu)
theorem k_notin (hu : X.A.units + 65 < cLine) : OpR X (compareOp .NotIn) (rNotInU X.K) := OpR.or op_notIn_sign (op_notInD hu)
def rAddI : R2 := rI0 fun i j => .int (i + j)
def rAddS : R2 := fun x y H Q => ∃ i j, x = .str i ∧ y = .str j ∧ i.length + j.length ≤ sizeLine ∧ Q (.str (i ++ j)) H
def rAddU (K : PySem.W.Frag) : R2 := fun x y H Q => rAddI x y H Q ∨ rAddS x y H Q ∨ rCat x y H Q ∨ rCatT K x y H Q
theorem k_add : OpR X (binaryOp .Add) (rAddU X.K) := OpR.or op_add (OpR.or op_add_str (OpR.or op_cat op_catT))
def rMulI : R2 := rI CMul fun i j => .int (i * j)
def rMulW : R2 := rI CMulW fun i j => .int (i * j)
def rMulS : R2 := fun x y H Q => ∃ (l : List Nat) (n : Nat), x = .str (tx l) ∧ y = .int n ∧ 2 ≤ n ∧ l ≠ [] ∧ l.length * n ≤ 100000 ∧ Q (.str (tx (List.replicate n l).flatten)) H
def rMulU : R2 := fun x y H Q => rMulI x y H Q ∨ rMulW x y H Q ∨ rMulS x y H Q ∨ rRep x y H Q
theorem k_mul : OpR X (binaryOp .Mult) rMulU := OpR.or op_mul (OpR.or op_mulW (OpR.or k_str_mul op_rep))
def rIMulU : R2 := fun x y H Q => rMulI x y H Q ∨ rMulW x y H Q
theorem k_imulW : OpR X (inplaceOp .Mult) rMulW := opI fun _ _ _ _ _ _ _ hc q => imul_int q hc.ok
theorem k_imul : OpR X (inplaceOp .Mult) rIMulU := OpR.or iop_mul k_imulW
theorem pip_of {op : Operator} {r : R2} (h : OpR X (inplaceOp op) r) : PIp X op r := h
theorem k_sl : SlR X (fun x lo hi H Q => rSlS x lo hi H Q ∨ rSlL X.K x lo hi H Q) := SlR.or sl_str sl_list

/-! ### names -/
theorem k_glob {x : Str} {v : V} {pos : Pos} (hg : Gl X x) (hm : ∃ u, X.mg x = some u ∧ RelV v u) (hd : (x == ("__debug__" : Str)) = false := by decide) : PE X (.Name x pos) (tC v) := by
  obtain ⟨u, h1, h2⟩ := hm
  exact pe_glob hg h1 h2 hd
end
theorem bb_len : bootBuiltins "len" = some (.builtin "len") := by decide +kernel
theorem bb_abs : bootBuiltins "abs" = some (.builtin "abs") := by decide +kernel
theorem bb_all : bootBuiltins "all" = some (.builtin "all") := by decide +kernel
theorem bb_any : bootBuiltins "any" = some (.builtin "any") := by decide +kernel
theorem bb_repr : bootBuiltins "repr" = some (.builtin "repr") := by decide +kernel
theorem bb_isinstance : bootBuiltins "isinstance" = some (.builtin "isinstance") := by decide +kernel
theorem bb_int : bootBuiltins "int" = some (.type "int") := by decide +kernel
theorem bb_bool : bootBuiltins "bool" = some (.type "bool") := by decide +kernel
theorem bb_str : bootBuiltins "str" = some (.type "str") := by decide +kernel
theorem bb_tuple : bootBuiltins "tuple" = some (.type "tuple") := by decide +kernel
theorem bb_list : bootBuiltins "list" = some (.type "list") := by decide +kernel

/-! ### a def of the text, as a name -/
structure DefAt (K : PySem.W.Frag) (mg : Str → Option Value) (x : Str) (st : Stmt) (f : Addr) (fd : FuncData) (ps : List Str) : Prop where
  fn : Fun K x x st f fd
  g : mg x = some (.ref f)
  b : Binds K fd ps []
theorem DefAt.kp {K : PySem.W.Frag} {mg : Str → Option Value} {x : Str} {st : Stmt} {f : Addr} {fd : FuncData} {ps : List Str} (D : DefAt K mg x st f fd ps) : PySem.W.keepIn K (.ref f) = true := D.fn.kp
structure MethAt (K : PySem.W.Frag) (C : Addr) (x qual : Str) (st : Stmt) (f : Addr) (fd : FuncData) (ps : List Str) : Prop where
  fn : Fun K x qual st f fd
  m : Meth K C x f
  b : Binds K fd ps []
structure ClassAt (K : PySem.W.Frag) (mg : Str → Option Value) (x qual : Str) (C : Addr) (st : Stmt) (f : Addr) (fd : FuncData) (ps : List Str) : Prop where
  fn : Fun K "__init__" qual st f fd
  mkr : Mk K C f
  gC : mg x = some (.ref C)
  b : Binds K fd ps []
/-- an own exception class over ValueError, without an own __init__ -/
structure ExcAt (K : PySem.W.Frag) (mg : Str → Option Value) (x : Str) (C : Addr) : Prop where
  q : PySem.W.excIn K C [.type "ValueError", .type "Exception", .type "BaseException", .type "object"] "ValueError.__new__" = true
  gC : mg x = some (.ref C)
  kC : PySem.W.keepIn K (.ref C) = true
  sb : PySem.W.subIn K (.ref C) (.type "BaseException") = some true
  ty : PySem.W.typeIn K (.ref C) = some (.type "type")
  self : PySem.W.exmOne K (.ref C) (.ref C) = some true
section
variable {X : Cx} {C : Addr}
theorem pm_own {x m : Str} {j : Nat} {p p2 pos : Pos} (T : ExcAt X.K X.mg x C) (hg : Gl X x) (hdb : (x == ("__debug__" : Str)) = false := by decide) :
    PMk X (.Call (.Name x p) [.Constant (.str m) j p2] [] pos) (fun _ H Q => Q (.ref C) none H) := pmk_own PySem.F.excBase_ValueError T.q T.gC T.kC (raises_own T.sb T.ty) hg hdb
end
end KX

namespace KX
open PySem PySem.Spec PyProof.Rows L2

/-! ### data: what type, and what stays -/
def tyD : PyData → String
  | .none => "NoneType" | .bool _ => "bool" | .int _ => "int" | .str _ => "str" | .list _ => "list" | .tuple _ => "tuple" | .dict _ => "dict"
theorem ty_of {K : PySem.W.Frag} {H : Hp} {v : V} {d : PyData} (h : Dp K H v d) : TyX K H v (.type (tyD d)) := by
  cases h with
  | non => exact .base .non
  | bl b => exact .base (.bl b)
  | int i => exact .base (.int i)
  | str x => exact .base (.str x)
  | lst hs _ =>
    rcases hs with (e | ⟨o, e⟩) | ⟨o, its, n, e, c, _⟩
    · exact .base (.lst e)
    · exact .base (.frz e)
    · exact .kList e c
  | tup hs _ =>
    rcases hs with (e | ⟨o, e⟩) | ⟨o, its, n, e, c, _⟩
    · exact .base (.tup e)
    · exact .fTuple e
    · exact .kTuple e c
theorem is_of {K : PySem.W.Frag} {H : Hp} {v : V} {d : PyData} {T : String} {b : Bool} {Q : VK} (h : Dp K H v d) (e : kitB (tyD d) T = some b) (q : Q (.bl b) H) : rIsi K [v, .ty T] H Q :=
  ⟨v, .ty T, _, .type T, b, rfl, .ty T, ty_of h, kit_ty e, q⟩
def isStrD : PyData → Bool | .str _ => true | _ => false
def isBoolD : PyData → Bool | .bool _ => true | _ => false
def isIntD : PyData → Bool | .bool _ => true | .int _ => true | _ => false
def isTupD : PyData → Bool | .tuple _ => true | _ => false
theorem is_str {K : PySem.W.Frag} {H : Hp} {v : V} {d : PyData} {Q : VK} (h : Dp K H v d) (q : Q (.bl (isStrD d)) H) : rIsi K [v, .ty "str"] H Q := by
  cases d with
  | none => exact is_of h (show kitB "NoneType" "str" = some false by decide +kernel) q
  | bool _ => exact is_of h (show kitB "bool" "str" = some false by decide +kernel) q
  | int _ => exact is_of h (show kitB "int" "str" = some false by decide +kernel) q
  | str _ => exact is_of h (show kitB "str" "str" = some true by decide +kernel) q
  | list _ => exact is_of h (show kitB "list" "str" = some false by decide +kernel) q
  | tuple _ => exact is_of h (show kitB "tuple" "str" = some false by decide +kernel) q
  | dict _ => exact is_of h (show kitB "dict" "str" = some false by decide +kernel) q
theorem is_bool {K : PySem.W.Frag} {H : Hp} {v : V} {d : PyData} {Q : VK} (h : Dp K H v d) (q : Q (.bl (isBoolD d)) H) : rIsi K [v, .ty "bool"] H Q := by
  cases d with
  | none => exact is_of h (show kitB "NoneType" "bool" = some false by decide +kernel) q
  | bool _ => exact is_of h (show kitB "bool" "bool" = some true by decide +kernel) q
  | int _ => exact is_of h (show kitB "int" "bool" = some false by decide +kernel) q
  | str _ => exact is_of h (show kitB "str" "bool" = some false by decide +kernel) q
  | list _ => exact is_of h (show kitB "list" "bool" = some false by decide +kernel) q
  | tuple _ => exact is_of h (show kitB "tuple" "bool" = some false by decide +kernel) q
  | dict _ => exact is_of h (show kitB "dict" "bool" = some false by decide +kernel) q
theorem is_int {K : PySem.W.Frag} {H : Hp} {v : V} {d : PyData} {Q : VK} (h : Dp K H v d) (q : Q (.bl (isIntD d)) H) : rIsi K [v, .ty "int"] H Q := by
  cases d with
  | none => exact is_of h (show kitB "NoneType" "int" = some false by decide +kernel) q
  | bool _ => exact is_of h (show kitB "bool" "int" = some true by decide +kernel) q
  | int _ => exact is_of h (show kitB "int" "int" = some true by decide +kernel) q
  | str _ => exact is_of h (show kitB "str" "int" = some false by decide +kernel) q
  | list _ => exact is_of h (show kitB "list" "int" = some false by decide +kernel) q
  | tuple _ => exact is_of h (show kitB "tuple" "int" = some false by decide +kernel) q
  | dict _ => exact is_of h (show kitB "dict" "int" = some false by decide +kernel) q
theorem is_tup {K : PySem.W.Frag} {H : Hp} {v : V} {d : PyData} {Q : VK} (h : Dp K H v d) (q : Q (.bl (isTupD d)) H) : rIsi K [v, .ty "tuple"] H Q := by
  cases d with
  | none => exact is_of h (show kitB "NoneType" "tuple" = some false by decide +kernel) q
  | bool _ => exact is_of h (show kitB "bool" "tuple" = some false by decide +kernel) q
  | int _ => exact is_of h (show kitB "int" "tuple" = some false by decide +kernel) q
  | str _ => exact is_of h (show kitB "str" "tuple" = some false by decide +kernel) q
  | list _ => exact is_of h (show kitB "list" "tuple" = some false by decide +kernel) q
  | tuple _ => exact is_of h (show kitB "tuple" "tuple" = some true by decide +kernel) q
  | dict _ => exact is_of h (show kitB "dict" "tuple" = some false by decide +kernel) q
/-- everything that stood stands -/
abbrev Ex := Evl.Ex
mutual
theorem dp_ex {K : PySem.W.Frag} {H H' : Hp} (e : Ex H H') : ∀ {d : PyData} {v : V}, Dp K H v d → Dp K H' v d
  | .none, _, h => by cases h; exact .non
  | .bool b, _, h => by cases h; exact .bl b
  | .int i, _, h => by cases h; exact .int i
  | .str x, _, h => by cases h; exact .str x
  | .list ds, _, h => by
    cases h with
    | lst hs ha => exact .lst (Evl.ex_l e hs) (dpa_ex e ha)
  | .tuple ds, _, h => by
    cases h with
    | tup hs ha => exact .tup (Evl.ex_t e hs) (dpa_ex e ha)
  | .dict _, _, h => by cases h
theorem dpa_ex {K : PySem.W.Frag} {H H' : Hp} (e : Ex H H') : ∀ {ds : List PyData} {vs : List V}, DpAll K H vs ds → DpAll K H' vs ds
  | [], _, h => by cases h; exact .nil
  | d :: ds, _, h => by
    cases h with
    | cons h1 h2 => exact .cons (dp_ex e h1) (dpa_ex e h2)
end
/-- tuples and what is locked stand; all else may change -/
def Kt (H H' : Hp) : Prop := (∀ a xs, H a = some (.tup xs) → H' a = some (.tup xs)) ∧ ∀ a o u, H a = some (.frz o u) → H' a = some (.frz o u)
theorem Kt.of_ex {H H' : Hp} (e : Ex H H') : Kt H H' := ⟨fun a xs h => e a _ h, fun a o u h => e a _ h⟩
theorem Kt.refl (H : Hp) : Kt H H := ⟨fun _ _ h => h, fun _ _ _ h => h⟩
theorem Kt.trans {H H1 H2 : Hp} (a : Kt H H1) (b : Kt H1 H2) : Kt H H2 := ⟨fun x xs h => b.1 x xs (a.1 x xs h), fun x o u h => b.2 x o u (a.2 x o u h)⟩
theorem Kt.upd {H : Hp} {p : Addr} {o o' : HO} (h : H p = some o) (m : Mut (some o)) : Kt H (upd H p o') := by
  refine ⟨fun a xs e => ?_, fun a ob u e => ?_⟩
  · rw [upd_ne (by rintro rfl; rw [h] at e; cases e; exact m)]
    exact e
  · rw [upd_ne (by rintro rfl; rw [h] at e; cases e; exact m)]
    exact e
theorem Kt.new {H : Hp} {p : Addr} {o : HO} (h : H p = none) : Kt H (L2.upd H p o) := Kt.of_ex (Evl.Ex.new h)
/-- what holds but at p -/
theorem Kt.but {H H' : Hp} {p : Addr} {o : HO} (h : H p = some o) (m : Mut (some o)) (k : ∀ b u, b ≠ p → H b = some u → H' b = some u) : Kt H H' := by
  refine ⟨fun a xs e => k a _ (by rintro rfl; rw [h] at e; cases e; exact m) e, fun a ob u e => k a _ (by rintro rfl; rw [h] at e; cases e; exact m) e⟩
mutual
/-- no list, no dict within -/
def flatD : PyData → Bool
  | .list _ | .dict _ => false
  | .tuple ds => flatDs ds
  | _ => true
def flatDs : List PyData → Bool
  | [] => true
  | d :: ds => flatD d && flatDs ds
end
theorem Kt.t {K : PySem.W.Frag} {H H' : Hp} (e : Kt H H') {a : Addr} {xs : List V} (h : SqT K H a xs) : SqT K H' a xs := by
  rcases h with (h | ⟨o, h⟩) | h
  · exact .inl (.inl (e.1 _ _ h))
  · exact .inl (.inr ⟨o, e.2 _ _ _ h⟩)
  · exact .inr h
mutual
theorem dp_kt {K : PySem.W.Frag} {H H' : Hp} (e : Kt H H') : ∀ {d : PyData} {v : V}, flatD d = true → Dp K H v d → Dp K H' v d
  | .none, _, _, h => by cases h; exact .non
  | .bool b, _, _, h => by cases h; exact .bl b
  | .int i, _, _, h => by cases h; exact .int i
  | .str x, _, _, h => by cases h; exact .str x
  | .list ds, _, f, h => by simp [flatD] at f
  | .tuple ds, _, f, h => by
    cases h with
    | tup hs ha => exact .tup (e.t hs) (dpa_kt e (by simpa [flatD] using f) ha)
  | .dict _, _, _, h => by cases h
theorem dpa_kt {K : PySem.W.Frag} {H H' : Hp} (e : Kt H H') : ∀ {ds : List PyData} {vs : List V}, flatDs ds = true → DpAll K H vs ds → DpAll K H' vs ds
  | [], _, _, h => by cases h; exact .nil
  | d :: ds, _, f, h => by
    cases h with
    | cons h1 h2 =>
      simp only [flatDs, Bool.and_eq_true] at f
      exact .cons (dp_kt e f.1 h1) (dpa_kt e f.2 h2)
end
theorem dpa_len {K : PySem.W.Frag} {H : Hp} : ∀ {ds : List PyData} {vs : List V}, DpAll K H vs ds → vs.length = ds.length
  | [], _, h => by cases h; rfl
  | d :: ds, _, h => by
    cases h with
    | cons h1 h2 => simp only [List.length_cons]; rw [dpa_len h2]
theorem dpa_get {K : PySem.W.Frag} {H : Hp} : ∀ {ds : List PyData} {vs : List V} {i : Nat} {d : PyData}, DpAll K H vs ds → ds[i]? = some d → ∃ v, vs[i]? = some v ∧ Dp K H v d
  | [], _, i, d, h, e => by simp at e
  | d0 :: ds, _, i, d, h, e => by
    cases h with
    | cons h1 h2 =>
      cases i with
      | zero =>
        simp at e
        subst e
        exact ⟨_, rfl, h1⟩
      | succ i =>
        obtain ⟨v, a, b⟩ := dpa_get h2 (by simpa using e)
        exact ⟨v, by simpa using a, b⟩
theorem dpa_app {K : PySem.W.Frag} {H : Hp} : ∀ {ds es : List PyData} {vs ws : List V}, DpAll K H vs ds → DpAll K H ws es → DpAll K H (vs ++ ws) (ds ++ es)
  | [], es, _, ws, h, h' => by cases h; exact h'
  | d :: ds, es, _, ws, h, h' => by
    cases h with
    | cons h1 h2 => exact .cons h1 (dpa_app h2 h')

/-! ### ends of tests -/
theorem ifT {b : Bool} {A B : Prop} (h : b = true → A) (h' : b = false → B) : if b = true then A else B := by
  cases b with
  | true => rw [if_pos rfl]; exact h rfl
  | false => rw [if_neg Bool.false_ne_true]; exact h' rfl
section
variable {X : Cx}
/-- what a def that raises lets out -/
theorem tkE {P : Program} {w : World} {K : PySem.W.Frag} {mg : Str → Option Value} {base : Heap} {N : List Str} {qual : Str} {scope : Scope} {f : Addr} {cd : Value} {A : Around} {outer : List Env} {s : Shared} {H : Hp} {E : XK} :
    Takes (cxOf (L2.CX P w) P w K mg base N qual scope f cd A outer s H E) (fun cls d _ H => E cls d H) := takes_of rfl rfl rfl rfl
theorem passT {P : Program} {w : World} {K : PySem.W.Frag} {mg : Str → Option Value} {base : Heap} {N : List Str} {qual : Str} {scope : Scope} {f : Addr} {cd : Value} {A : Around} {outer : List Env} {s : Shared} {H : Hp} {E : XK} :
    Passes (L2.CX P w) (cxOf (L2.CX P w) P w K mg base N qual scope f cd A outer s H E) E := passes_call tkE (fun _ _ _ _ h => h)
end
end KX

namespace KX
open PySem PySem.Spec PyProof.Rows L2
theorem u65 {k : Nat} {A : Around} (r : Room k A) : A.units + 65 < cLine := by
  have := r.un
  omega
/-- a test by truth -/
def tTru (K : PySem.W.Frag) (ta : TE) : TT := fun σ H Q => ta σ H fun x H' => ∃ k, TruV K x H' k ∧ Q k H'
theorem pt_tru {X : Cx} {a : Expr} {ta : TE} (ha : PE X a ta) (he : ∀ whole, isTrue a X.env whole = (do let v ← whole; standAt a.pos; holding [v] (truthy v)) := by intro _; rfl) : PT X a (tTru X.K ta) := pt_truth ha he
/-- raise of an own exception with a text -/
def tRs (C : Addr) (W : WX) : TS := fun _ σ H => W (.ref C) none σ H
theorem ps_rs {X : Cx} {W : WX} {C : Addr} {x m : Str} {j : Nat} {p p2 pos pos2 : Pos} (hc : X.calm = true) (tk : Takes X W) (T : ExcAt X.K X.mg x C) (hg : Gl X x := by rfl) (hdb : (x == ("__debug__" : Str)) = false := by decide) :
    PS X (.Raise (some (.Call (.Name x p) [.Constant (.str m) j p2] [] pos)) none pos2) (tRs C W) := ps_raise hc tk (pm_own T hg hdb)

section
variable {K : PySem.W.Frag} {σ : L2.St} {H : Hp} {Q : VK} {ta tb tc te : TE} {t : TA} {D : Ends} {E : XK}
theorem q_var {i : Nat} {v : V} (h : σ[i]? = some (some v)) (q : Q v H) : tVar i σ H Q := ⟨v, h, q⟩
theorem q_c {v : V} (q : Q v H) : tC v σ H Q := q
theorem q_op {r : R2} (h : ta σ H fun x H1 => tb σ H1 fun y H2 => r x y H2 Q) : tOp r ta tb σ H Q := h
theorem q_un {r : V → Hp → VK → Prop} (h : ta σ H fun x H1 => r x H1 Q) : tUn r ta σ H Q := h
theorem q_neg {i : Int} (q : Q (.int (-i)) H) : rU (fun i => .int (-i)) (.int i) H Q := ⟨i, rfl, q⟩
theorem q_cb {r : List V → Hp → VK → Prop} (h : t σ H fun vs H1 => r vs H1 Q) : tCB r t σ H Q := h
theorem q_nil {R : List V → Hp → Prop} (q : R [] H) : tNil σ H R := q
theorem q_cons {tr : TA} {R : List V → Hp → Prop} (h : te σ H fun x H1 => tr σ H1 fun xs H2 => R (x :: xs) H2) : tCons te tr σ H R := h
theorem q_tup (h : t σ H fun xs H1 => xs.length ≤ sizeLine ∧ ∀ p, H1 p = none → Q (.ref p) (upd H1 p (.tup xs))) : tTup t σ H Q := h
theorem q_lst (h : t σ H fun xs H1 => xs.length ≤ sizeLine ∧ ∀ p, H1 p = none → Q (.ref p) (upd H1 p (.lst xs))) : tLst t σ H Q := h
theorem q_if {tt : TT} (h : tt σ H fun c H1 => if c = true then ta σ H1 Q else tb σ H1 Q) : tIf tt ta tb σ H Q := h
theorem q_andT (h : ta σ H fun x H1 => ∃ k, TruV K x H1 k ∧ if k = true then tb σ H1 Q else Q x H1) : tAndT K ta tb σ H Q := h
theorem q_orT (h : ta σ H fun x H1 => ∃ k, TruV K x H1 k ∧ if k = true then Q x H1 else tb σ H1 Q) : tOrT K ta tb σ H Q := h
theorem q_notT (h : ta σ H fun x H1 => ∃ k, TruV K x H1 k ∧ Q (.bl (!k)) H1) : tNotT K ta σ H Q := h
theorem q_chain {r r' : R2} (h : ta σ H fun x H1 => tb σ H1 fun y H2 => r x y H2 fun z H3 => ∃ k, z = .bl k ∧ (if k = true then tc σ H3 fun w' H4 => r' y w' H4 Q else Q (.bl false) H3)) : tChain r r' ta tb tc σ H Q := h
theorem q_call {sp : Sp} {dvs : List V} (h : t σ H fun vs H1 => sp (vs ++ dvs) H1 Q E) : tCall sp dvs E t σ H Q := h
theorem q_callS {sp : Sp} {ES : L2.St → XK} (h : t σ H fun vs H1 => sp vs H1 Q (ES σ)) : tCallS sp ES t σ H Q := h
theorem q_fld {f : Str} (h : ta σ H fun x H1 => ∃ a C dx fs v, x = .ref a ∧ H1 a = some (.ins C dx fs) ∧ Cls K C ∧ NoAttr K C f ∧ fs.lookup f = some v ∧ Q v H1) : tFld K ta f σ H Q := h
theorem q_bm {T : String} {r : V → List V → Hp → VK → Prop} (h : ta σ H fun x H1 => tyV K T x H1 ∧ t σ H1 fun xs H2 => r x xs H2 Q) : tBM K T r ta t σ H Q := h
theorem q_bm0 {T : String} {r : V → List V → Hp → VK → Prop} (h : ta σ H fun x H1 => tyV K T x H1 ∧ r x [] H1 Q) : tBM0 K T r ta σ H Q := h
theorem q_sl {r : V → Option Int → Option Int → Hp → VK → Prop} {tl th : TO} (h : te σ H fun x H1 => tl σ H1 fun l H2 => th σ H2 fun u H3 => r x l u H3 Q) : tSl r te tl th σ H Q := h
theorem q_nopart {R : Option Int → Hp → Prop} (q : R none H) : tNoPart σ H R := q
theorem q_part {R : Option Int → Hp → Prop} (h : te σ H fun x H1 => ∃ i, x = .int i ∧ R (some i) H1) : tPart te σ H R := h
theorem q_meth {C : Addr} {m : Str} {sp : Sp} {dvs : List V} (h : ta σ H fun x H1 => ∃ a dx fs, x = .ref a ∧ H1 a = some (.ins C dx fs) ∧ fs.lookup m = none ∧ t σ H1 fun vs H2 => sp (x :: (vs ++ dvs)) H2 Q E) : tMeth C m sp dvs E ta t σ H Q := h
theorem q_make {C : Addr} {sp : Sp} {dvs : List V} (h : t σ H fun vs H1 => ∀ x dx, H1 x = none → H1 dx = none → dx ≠ x → sp (.ref x :: (vs ++ dvs)) (upd (upd H1 dx (.own x)) x (.ins C dx [])) (fun v H2 => v = .non ∧ Q (.ref x) H2) E) : tMake C sp dvs E t σ H Q := h
-- tests
variable {R : Bool → Hp → Prop} {tt uu : TT}
theorem q_test (h : te σ H fun x H' => ∃ k, x = .bl k ∧ R k H') : tTest te σ H R := h
theorem q_tB (h : te σ H fun x H' => ∃ k, x = .bl k ∧ R k H') : tB te σ H R := h
theorem q_tru (h : te σ H fun x H' => ∃ k, TruV K x H' k ∧ R k H') : tTru K te σ H R := h
theorem q_and (h : tt σ H fun c H1 => if c = true then uu σ H1 R else R false H1) : tAnd tt uu σ H R := h
theorem q_or (h : tt σ H fun c H1 => if c = true then R true H1 else uu σ H1 R) : tOr tt uu σ H R := h
theorem q_not (h : tt σ H fun c H1 => R (!c) H1) : tNot tt σ H R := h
theorem q_blk {k : Bool} {R : Bool → Prop} (q : R k) : ∃ c, V.bl k = V.bl c ∧ R c := ⟨k, rfl, q⟩
theorem q_tv {k : Bool} {R : Bool → Prop} (q : R k) : ∃ c, TruV K (V.bl k) H c ∧ R c := ⟨k, rfl, q⟩
-- statements
variable {s1 s2 : TS} {g : TG}
theorem q_seq (h : s1 { D with nx := s2 D } σ H) : tSeq s1 s2 D σ H := h
theorem q_ifs (h : tt σ H fun b H1 => if b = true then s1 D σ H1 else s2 D σ H1) : tIfS tt s1 s2 D σ H := h
theorem q_asg (h : te σ H fun x H1 => g x σ H1 D.nx) : tAsg te g D σ H := h
theorem q_gname {i : Nat} {v : V} {R : L2.St → Hp → Prop} (q : R (σ.set i (some v)) H) : gName i v σ H R := q
theorem q_gsub {to ti : TE} {r : TSet} {v : V} {R : L2.St → Hp → Prop} (h : to σ H fun o H1 => ti σ H1 fun i H2 => r o i v H2 fun H3 => R σ H3) : gSub to ti r v σ H R := h
theorem q_ret (h : te σ H D.rt) : tRet te D σ H := h
theorem q_retN (h : D.rt .non H) : tRetN D σ H := h
theorem q_drop (h : te σ H fun _ H1 => D.nx σ H1) : tDrop te D σ H := h
theorem q_next (h : D.nx σ H) : tNext D σ H := h
theorem q_par {i j : Nat} (h : t σ H fun vs H1 => ∃ v w, vs = [v, w] ∧ D.nx ((σ.set i (some v)).set j (some w)) H1) : tPar i j t D σ H := h
theorem q_sfld {f : Str} (h : tb σ H fun y H1 => ta σ H1 fun x H2 => ∃ a C dx fs, x = .ref a ∧ H2 a = some (.ins C dx fs) ∧ Cls K C ∧ NoAttr K C f ∧ fs.length < 1000 ∧ D.nx σ (upd H2 a (.ins C dx (putF f y fs)))) : sFld K ta tb f D σ H := h
theorem q_rs {C : Addr} {W : WX} (h : W (.ref C) none σ H) : tRs C W D σ H := h
theorem q_aug {i : Nat} {ti : TIp} {x : V} (hx : σ[i]? = some (some x)) (h : te σ H fun y H1 => ti x y H1 fun z H2 => D.nx (σ.set i (some z)) H2) : tAug i te ti D σ H := ⟨x, hx, h⟩
-- operators at known values
theorem q_len {x : V} {n : Nat} {r : VK} (h : LenV K x H n) (q : r (.int n) H) : (fun xs H Q => ∃ x n, xs = [x] ∧ LenV K x H n ∧ Q (V.int n) H) [x] H r := ⟨x, n, rfl, h, q⟩
theorem q_addI {i j : Int} (q : Q (.int (i + j)) H) : rAddU K (.int i) (.int j) H Q := .inl ⟨i, j, rfl, rfl, q⟩
theorem q_addS {a b : List Nat} (hz : a.length + b.length ≤ sizeLine) (q : Q (.str (tx (a ++ b))) H) : rAddU K (.str (tx a)) (.str (tx b)) H Q :=
  .inr (.inl ⟨tx a, tx b, rfl, rfl, by rw [tx_len, tx_len]; exact hz, by rw [tx_app]; exact q⟩)
theorem q_subI {i j : Int} (q : Q (.int (i - j)) H) : rI0 (fun i j => V.int (i - j)) (.int i) (.int j) H Q := ⟨i, j, rfl, rfl, q⟩
theorem q_eqS {x y : V} (hs : scal x y = true) (q : Q (.bl (decide (x = y))) H) : rEqU K x y H Q := .inl ⟨hs, q⟩
theorem q_neS {x y : V} (hs : scal x y = true) (q : Q (.bl (!decide (x = y))) H) : rNeU K x y H Q := .inl ⟨hs, q⟩
theorem q_eqI {i j : Int} (q : Q (.bl (decide (i = j))) H) : rEqU K (.int i) (.int j) H Q := .inl ⟨rfl, by
  have e : decide (V.int i = V.int j) = decide (i = j) := by
    rw [decide_eq_decide]
    exact ⟨fun z => V.int.inj z, fun z => by rw [z]⟩
  rw [e]
  exact q⟩
theorem q_neI {i j : Int} (q : Q (.bl (!decide (i = j))) H) : rNeU K (.int i) (.int j) H Q := .inl ⟨rfl, by
  have e : decide (V.int i = V.int j) = decide (i = j) := by
    rw [decide_eq_decide]
    exact ⟨fun z => V.int.inj z, fun z => by rw [z]⟩
  rw [e]
  exact q⟩
theorem q_eqT {a b : List Nat} (q : Q (.bl (decide (a = b))) H) : rEqU K (.str (tx a)) (.str (tx b)) H Q := .inl ⟨rfl, by rw [tx_dec]; exact q⟩
theorem q_neT {a b : List Nat} (q : Q (.bl (!decide (a = b))) H) : rNeU K (.str (tx a)) (.str (tx b)) H Q := .inl ⟨rfl, by rw [tx_dec]; exact q⟩
end

/-! ### loops -/
section
variable {K : PySem.W.Frag} {σ : L2.St} {H : Hp} {D : Ends} {tl : TE} {g : TG} {tb : TS}
theorem q_forL (h : tl σ H fun x H1 => ∃ (a : Addr) (xs : List V) (Pv : Nat → L2.St → Hp → Prop), x = .ref a ∧ SqL K H1 a xs ∧ Pv 0 σ H1 ∧ (∀ i σ H, i ≤ xs.length → Pv i σ H → SqL K H a xs) ∧
    (∀ i x σ H, xs[i]? = some x → Pv i σ H → g x σ H fun σ2 H2 => tb { D with nx := Pv (i + 1), ct := Pv (i + 1), bk := D.nx } σ2 H2) ∧ ∀ σ H, Pv xs.length σ H → D.nx σ H)
    (mono : ∀ (R R' : VK), (∀ x H, R x H → R' x H) → tl σ H R → tl σ H R') : tFor (iList K tl) g tb D σ H :=
  mono _ _ (fun x H1 ⟨a, xs, Pv, e, hs, h0, hl, ht, hd⟩ => ⟨a, e, ⟨xs, hs⟩, for_list Pv h0 hl ht hd⟩) h
/-- a list that stands -/
theorem q_forLv {i : Nat} {a : Addr} {xs : List V} (e : σ[i]? = some (some (.ref a))) (hs : SqL K H a xs) (Pv : Nat → L2.St → Hp → Prop) (h0 : Pv 0 σ H) (hl : ∀ i σ H, i ≤ xs.length → Pv i σ H → SqL K H a xs)
    (ht : ∀ i x σ H, xs[i]? = some x → Pv i σ H → g x σ H fun σ2 H2 => tb { D with nx := Pv (i + 1), ct := Pv (i + 1), bk := D.nx } σ2 H2) (hd : ∀ σ H, Pv xs.length σ H → D.nx σ H) : tFor (iList K (tVar i)) g tb D σ H :=
  ⟨_, e, a, rfl, ⟨xs, hs⟩, for_list Pv h0 hl ht hd⟩
end
end KX

namespace KX
open PySem PySem.Spec PyProof.Rows L2
/-! the same rules with the written part named, so that a reading never speaks of the context -/
section
variable {X : Cx} {K : PySem.W.Frag} {a b e o : Expr} {ta tb te to : TE} {es rest : List Expr} {pos apos cpos : Pos} {t : TA}
theorem w_or (ha : PE X a ta) (hb : PE X (.BoolOp .Or (b :: rest) pos) tb) (hK : X.K = K := by rfl) : PE X (.BoolOp .Or (a :: b :: rest) pos) (tOrT K ta tb) := by subst hK; exact pe_orT ha hb
theorem w_and (ha : PE X a ta) (hb : PE X (.BoolOp .And (b :: rest) pos) tb) (hK : X.K = K := by rfl) : PE X (.BoolOp .And (a :: b :: rest) pos) (tAndT K ta tb) := by subst hK; exact pe_andT ha hb
theorem w_not (ha : PE X a ta) (hK : X.K = K := by rfl) : PE X (.UnaryOp .Not a pos) (tNotT K ta) := by subst hK; exact pe_notT ha
theorem w_tru (ha : PE X a ta) (hK : X.K = K := by rfl) (he : ∀ whole, isTrue a X.env whole = (do let v ← whole; standAt a.pos; holding [v] (truthy v)) := by intro _; rfl) : PT X a (tTru K ta) := by subst hK; exact pt_tru ha he
theorem w_isi (hK : X.K = K := by rfl) : CallR X (.builtin "isinstance") (rIsi K) := by subst hK; exact call_isi
theorem w_isiT (hK : X.K = K := by rfl) : CallR X (.builtin "isinstance") (rIsiT K) := by subst hK; exact call_isiT
def rLenU (K : PySem.W.Frag) : List V → Hp → VK → Prop := fun xs H Q => ∃ x n, xs = [x] ∧ LenV K x H n ∧ Q (.int (n : Nat)) H
theorem w_len (hK : X.K = K := by rfl) : CallR X (.builtin "len") (rLenU K) := by subst hK; exact call_len
theorem w_all (hc : X.calm = true) (hK : X.K = K := by rfl) : CallR X (.builtin "all") (rAll K) := by subst hK; exact cr_all hc
theorem w_any (hc : X.calm = true) (hK : X.K = K := by rfl) : CallR X (.builtin "any") (rAny K) := by subst hK; exact cr_any hc
def rAbs : List V → Hp → VK → Prop := fun xs H Q => ∃ i : Int, xs = [.int i] ∧ Q (.int (if i < 0 then -i else i)) H
theorem w_abs : CallR X (.builtin "abs") rAbs := call_abs
def rTupleU (K : PySem.W.Frag) : List V → Hp → VK → Prop := fun xs H Q => ∃ p ys, xs = [.ref p] ∧ ((SqL K H p ys ∧ ∀ l, H l = none → Q (.ref l) (upd H l (.tup ys))) ∨ (SqT K H p ys ∧ Q (.ref p) H))
theorem w_tuple (hK : X.K = K := by rfl) : CallR X (.type "tuple") (rTupleU K) := by subst hK; exact call_tuple_of
def rListU (K : PySem.W.Frag) : List V → Hp → VK → Prop := fun xs H Q => ∃ p ys, xs = [.ref p] ∧ (SqL K H p ys ∨ SqT K H p ys) ∧ ∀ l, H l = none → Q (.ref l) (upd H l (.lst ys))
theorem w_list (hK : X.K = K := by rfl) : CallR X (.type "list") (rListU K) := by subst hK; exact call_list_of
theorem w_repr (hu : X.A.units + 400 < cLine) (hg : X.A.guards = some []) (hK : X.K = K := by rfl) : CallR X (.builtin "repr") (rRepr K) := by subst hK; exact kx_repr (by omega) hg
theorem w_ix (hK : X.K = K := by rfl) : IxR X (rIx K) := by subst hK; exact ix_seq
def rSlU (K : PySem.W.Frag) : V → Option Int → Option Int → Hp → VK → Prop := fun x lo hi H Q => rSlS x lo hi H Q ∨ rSlL K x lo hi H Q
theorem w_sl (hK : X.K = K := by rfl) : SlR X (rSlU K) := by subst hK; exact k_sl
def rJoin (K : PySem.W.Frag) : V → List V → Hp → VK → Prop := fun x xs H Q => ∃ a p, ∃ ys : List Str, x = .str a ∧ xs = [.ref p] ∧ (SqL K H p (ys.map V.str) ∨ SqT K H p (ys.map V.str)) ∧ (ys.map (·.length)).sum + ys.length * a.length ≤ 16777216 ∧ Q (.str (Txt.join a ys)) H
theorem w_join (hK : X.K = K := by rfl) : MtR X "str.join" (rJoin K) := by subst hK; exact mt_join
theorem w_eq (hu : X.A.units + 65 < cLine) (hK : X.K = K := by rfl) : OpR X (compareOp .Eq) (rEqU K) := by subst hK; exact k_eq hu
theorem w_ne (hu : X.A.units + 65 < cLine) (hK : X.K = K := by rfl) : OpR X (compareOp .NotEq) (rNeU K) := by subst hK; exact k_ne hu
theorem w_in (hu : X.A.units + 65 < cLine) (hK : X.K = K := by rfl) : OpR X (compareOp .In) (rInU K) := by subst hK; exact k_in hu
theorem w_notin (hu : X.A.units + 65 < cLine) (hK : X.K = K := by rfl) : OpR X (compareOp .NotIn) (rNotInU K) := by subst hK; exact k_notin hu
theorem w_add (hK : X.K = K := by rfl) : OpR X (binaryOp .Add) (rAddU K) := by subst hK; exact k_add
theorem wk_bm {T : String} {r : V → List V → Hp → VK → Prop} (h : PE X e (tBM X.K T r to t)) (hK : X.K = K := by rfl) : PE X e (tBM K T r to t) := by subst hK; exact h
theorem w_bm0 {T id : String} {name : Str} {r : V → List V → Hp → VK → Prop} (pa : PlainAttrs T) (slot : Slot T name id) (hty : typeOf (.builtin id) = pure (.type "method_descriptor")) (hm : MtR X id r) (ho : PE X o to) (hK : X.K = K := by rfl)
    (hbase : attributeBase o name X.env (eval o X.env) = eval o X.env := by rfl) (hline : (apos.endLine == cpos.line) = true := by rfl) : PE X (.Call (.Attribute o name apos) [] [] cpos) (tBM0 K T r to) := by
  subst hK
  exact pe_bm0 pa slot hty hm ho hbase hline
theorem w_fld {f : Str} (hl : PE X e te) (hK : X.K = K := by rfl) (hb : attributeBase e f X.env (eval e X.env) = eval e X.env := by rfl) : PE X (.Attribute e f pos) (tFld K te f) := by subst hK; exact pe_fld hl hb
theorem w_sfld {f : Str} {pos' : Pos} {value : Expr} {tv : TE} (ho : PE X o to) (hv : PE X value tv) (hK : X.K = K := by rfl) (hs : swapsWith value (some (.Attribute o f pos')) pos.line X.env = pure false := by rfl) :
    PS X (.Assign [.Attribute o f pos'] value pos) (sFld K to tv f) := by subst hK; exact ps_fld ho hv hs
theorem w_ilist {tg l : Expr} {tl : TE} (hl : PE X l tl) (hK : X.K = K := by rfl) : PI X tg l (iList K tl) := by subst hK; exact pi_list hl
theorem w_itup {tg l : Expr} {tl : TE} (hl : PE X l tl) (hK : X.K = K := by rfl) : PI X tg l (iTup K tl) := by subst hK; exact pi_tup hl
theorem w_gtup {es : List Expr} {k : Nat} {t : TGs} {n : Nat} (hc : X.calm = true) (h : PGs X es t) (hK : X.K = K := by rfl)
    (hn : (assignEach es X.env).length = n := by rfl) (hst : (assignEach es X.env).findIdx? (·.1) = none := by rfl) : PG X (.Tuple es k pos) (gTup K n t) := by subst hK; exact pg_tup hc h hn hst
end
end KX

namespace KX
open PySem PySem.Spec PyProof.Rows L2
section
variable {K : PySem.W.Frag} {σ : L2.St} {H : Hp} {Q : VK} {D : Ends}
theorem sml {n : Nat} (h : Nat.ble n 1000 = true) : n ≤ sizeLine := Nat.le_trans (Nat.le_of_ble_eq_true h) (by decide)
theorem ifF {b : Bool} {A B : Prop} (h : b = false) (q : B) : if b = true then A else B := by subst h; exact iteF q
theorem ifY {b : Bool} {A B : Prop} (h : b = true) (q : A) : if b = true then A else B := by subst h; rw [if_pos rfl]; exact q
theorem q_ltI {i j : Int} (q : Q (.bl (decide (i < j))) H) : rLtU (.int i) (.int j) H Q := .inl ⟨i, j, rfl, rfl, q⟩
theorem q_leI {i j : Int} (q : Q (.bl (decide (i ≤ j))) H) : rLeU (.int i) (.int j) H Q := .inl ⟨i, j, rfl, rfl, q⟩
theorem q_gtI {i j : Int} (q : Q (.bl (decide (j < i))) H) : rGtU (.int i) (.int j) H Q := .inl ⟨i, j, rfl, rfl, q⟩
theorem q_geI {i j : Int} (q : Q (.bl (decide (j ≤ i))) H) : rGeU (.int i) (.int j) H Q := .inl ⟨i, j, rfl, rfl, q⟩
theorem q_leT {a b : List Nat} (q : Q (.bl (!decide (b < a))) H) : rLeU (.str (tx a)) (.str (tx b)) H Q := .inr ⟨tx a, tx b, rfl, rfl, by rw [tx_list, tx_list]; exact q⟩
theorem q_lenS {a : List Nat} (hz : a.length ≤ sizeLine) (q : Q (.int (a.length : Nat)) H) : rLenU K [.str (tx a)] H Q := ⟨.str (tx a), a.length, rfl, ⟨by rw [tx_len]; exact hz, (tx_len a).symm⟩, q⟩
theorem q_lenL {p : Addr} {xs : List V} (h : SqL K H p xs) (q : Q (.int (xs.length : Nat)) H) : rLenU K [.ref p] H Q := ⟨.ref p, xs.length, rfl, .inl ⟨xs, h, rfl⟩, q⟩
theorem q_lenT {p : Addr} {xs : List V} (h : SqT K H p xs) (q : Q (.int (xs.length : Nat)) H) : rLenU K [.ref p] H Q := ⟨.ref p, xs.length, rfl, .inr ⟨xs, h, rfl⟩, q⟩
theorem q_ixS {a : List Nat} {i : Nat} {c : Nat} (hz : a.length ≤ sizeLine) (e : a[i]? = some c) (q : Q (.str (tx [c])) H) : rIx K (.str (tx a)) (.int (i : Nat)) H Q :=
  .inr (.inr ⟨tx a, (i : Nat), c, rfl, rfl, by rw [tx_len]; exact hz, by rw [tx_list]; exact atI_nat e, q⟩)
theorem q_ixL {p : Addr} {xs : List V} {i : Nat} {v : V} (h : SqL K H p xs) (e : xs[i]? = some v) (q : Q v H) : rIx K (.ref p) (.int (i : Nat)) H Q := .inl ⟨p, xs, (i : Nat), v, rfl, rfl, h, atI_nat e, q⟩
theorem q_ixT {p : Addr} {xs : List V} {i : Nat} {v : V} (h : SqT K H p xs) (e : xs[i]? = some v) (q : Q v H) : rIx K (.ref p) (.int (i : Nat)) H Q := .inr (.inl ⟨p, xs, (i : Nat), v, rfl, rfl, h, atI_nat e, q⟩)
theorem q_inS {c : Nat} {z : Str} {b : Bool} (e : decide (c ∈ z.cps.toList) = b) (q : Q (.bl b) H) : rInU K (.str (tx [c])) (.str z) H Q := .inl ⟨c, z, rfl, rfl, by rw [e]; exact q⟩
theorem q_ninS {c : Nat} {z : Str} {b : Bool} (e : decide (c ∈ z.cps.toList) = b) (q : Q (.bl (!b)) H) : rNotInU K (.str (tx [c])) (.str z) H Q := .inl ⟨c, z, rfl, rfl, by rw [e]; exact q⟩
theorem q_all {p : Addr} {bs : List Bool} (h : H p = some (.lst (bs.map V.bl))) (q : Q (.bl (bs.all id)) H) : rAll K [.ref p] H Q := ⟨p, bs, rfl, SqL.of h, q⟩
theorem q_any {p : Addr} {bs : List Bool} (h : H p = some (.lst (bs.map V.bl))) (q : Q (.bl (bs.any id)) H) : rAny K [.ref p] H Q := ⟨p, bs, rfl, SqL.of h, q⟩
theorem q_abs {i : Int} (q : Q (.int (if i < 0 then -i else i)) H) : rAbs [.int i] H Q := ⟨i, rfl, q⟩
theorem q_intI {i : Int} (q : Q (.int i) H) : rInt [.int i] H Q := .inl ⟨i, rfl, q⟩
theorem q_mod {i j : Int} (h : 0 < j) (q : Q (.int (i % j)) H) : rI (fun _ j => 0 < j) (fun i j => V.int (i % j)) (.int i) (.int j) H Q := ⟨i, j, rfl, rfl, h, q⟩
theorem q_fdiv {i j : Int} (h : 0 < j) (h2 : j < 1073741824) (q : Q (.int (i / j)) H) : rI CDiv (fun i j => V.int (i / j)) (.int i) (.int j) H Q := ⟨i, j, rfl, rfl, ⟨h, h2⟩, q⟩
theorem q_mulI {i j : Int} (h : CMul i j) (q : Q (.int (i * j)) H) : rMulU (.int i) (.int j) H Q := .inl ⟨i, j, rfl, rfl, h, q⟩
theorem q_pow {i j : Int} (h : CPow i j) (q : Q (.int (i ^ j.toNat)) H) : rI CPow (fun i j => V.int (i ^ j.toNat)) (.int i) (.int j) H Q := ⟨i, j, rfl, rfl, h, q⟩
theorem q_app {l : Addr} {xs : List V} {y : V} (h : H l = some (.lst xs)) (hz : xs.length < sizeLine) (q : Q .non (upd H l (.lst (xs ++ [y])))) : rAppend (.ref l) [y] H Q := ⟨l, xs, y, rfl, rfl, h, hz, q⟩
theorem q_pop {l : Addr} {xs : List V} {y : V} (h : H l = some (.lst xs)) (e : xs[xs.length - 1]? = some y) (q : Q y (upd H l (.lst xs.dropLast))) : rPop (.ref l) [] H Q := ⟨l, xs, y, rfl, rfl, h, e, q⟩
theorem ty_lst {l : Addr} {xs : List V} (h : H l = some (.lst xs)) : tyV K "list" (.ref l) H := .inl ⟨rfl, xs, SqL.of h⟩
theorem ty_str {x : Str} : tyV K "str" (.str x) H := rfl
theorem q_slS {a : List Nat} {lo hi : Option Int} (hz : a.length ≤ sizeLine) (q : Q (.str (tx ((a.drop (HT.sIx a.length 0 lo)).take (HT.sIx a.length a.length hi - HT.sIx a.length 0 lo)))) H) : rSlU K (.str (tx a)) lo hi H Q := by
  refine .inl ⟨tx a, rfl, by rw [tx_len]; exact hz, ?_⟩
  have e : cutS (tx a) lo hi = tx ((a.drop (HT.sIx a.length 0 lo)).take (HT.sIx a.length a.length hi - HT.sIx a.length 0 lo)) := by
    refine (tx_of _).symm.trans (congrArg tx ?_)
    unfold cutS
    simp [tx, Array.toList_extract, List.extract_eq_take_drop]
    first | rfl | skip
  rw [e]
  exact q
end
section
variable {K : PySem.W.Frag} {σ : L2.St} {H : Hp} {Q : VK} {ta tb tc : TE} {tt uu : TT} {R : Bool → Hp → Prop}
/-- what evaluates without a change of the heap -/
abbrev Pu (te : TE) (σ : L2.St) (H : Hp) (v : V) : Prop := ∀ R : VK, R v H → te σ H R
abbrev Pt (tt : TT) (σ : L2.St) (H : Hp) (b : Bool) : Prop := ∀ R : Bool → Hp → Prop, R b H → tt σ H R
theorem q_chainLt {i j k : Int} (ha : Pu ta σ H (.int i)) (hb : Pu tb σ H (.int j)) (hc : Pu tc σ H (.int k)) (q : Q (.bl (decide (i < j) && decide (j < k))) H) : tChain rLtU rLtU ta tb tc σ H Q := by
  refine ha _ (hb _ (q_ltI ⟨_, rfl, ifT (fun h => hc _ (q_ltI ?_)) (fun h => ?_)⟩))
  · rw [h, Bool.true_and] at q
    exact q
  · rw [h, Bool.false_and] at q
    exact q
theorem q_chainLe {i j k : Int} (ha : Pu ta σ H (.int i)) (hb : Pu tb σ H (.int j)) (hc : Pu tc σ H (.int k)) (q : Q (.bl (decide (i ≤ j) && decide (j ≤ k))) H) : tChain rLeU rLeU ta tb tc σ H Q := by
  refine ha _ (hb _ (q_leI ⟨_, rfl, ifT (fun h => hc _ (q_leI ?_)) (fun h => ?_)⟩))
  · rw [h, Bool.true_and] at q
    exact q
  · rw [h, Bool.false_and] at q
    exact q
theorem q_chainT {i j k : List Nat} (ha : Pu ta σ H (.str (tx i))) (hb : Pu tb σ H (.str (tx j))) (hc : Pu tc σ H (.str (tx k))) (q : Q (.bl (!decide (j < i) && !decide (k < j))) H) : tChain rLeU rLeU ta tb tc σ H Q := by
  refine ha _ (hb _ (q_leT ⟨_, rfl, ifT (fun h => hc _ (q_leT ?_)) (fun h => ?_)⟩))
  · rw [h, Bool.true_and] at q
    exact q
  · rw [h, Bool.false_and] at q
    exact q
theorem q_andB {a b : Bool} (ha : Pt tt σ H a) (hb : a = true → Pt uu σ H b) (q : R (a && b) H) : tAnd tt uu σ H R := by
  refine ha _ (ifT (fun h => hb h _ ?_) (fun h => ?_))
  · rw [h, Bool.true_and] at q
    exact q
  · rw [h, Bool.false_and] at q
    exact q
theorem q_orB {a b : Bool} (ha : Pt tt σ H a) (hb : a = false → Pt uu σ H b) (q : R (a || b) H) : tOr tt uu σ H R := by
  refine ha _ (ifT (fun h => ?_) (fun h => hb h _ ?_))
  · rw [h, Bool.true_or] at q
    exact q
  · rw [h, Bool.false_or] at q
    exact q
theorem q_andV {a b : Bool} (ha : Pu ta σ H (.bl a)) (hb : a = true → Pu tb σ H (.bl b)) (q : Q (.bl (a && b)) H) : tAndT K ta tb σ H Q := by
  refine ha _ ⟨a, rfl, ifT (fun h => hb h _ ?_) (fun h => ?_)⟩
  · rw [h, Bool.true_and] at q
    exact q
  · rw [h] at q ⊢
    exact q
theorem q_orV {a b : Bool} (ha : Pu ta σ H (.bl a)) (hb : a = false → Pu tb σ H (.bl b)) (q : Q (.bl (a || b)) H) : tOrT K ta tb σ H Q := by
  refine ha _ ⟨a, rfl, ifT (fun h => ?_) (fun h => hb h _ ?_)⟩
  · rw [h] at q ⊢
    exact q
  · rw [h, Bool.false_or] at q
    exact q
theorem q_eqNS {i : Int} {a : List Nat} (q : Q (.bl false) H) : rEqU K (.int i) (.str (tx a)) H Q := .inl ⟨rfl, q⟩
theorem q_neNS {i : Int} {a : List Nat} (q : Q (.bl true) H) : rNeU K (.int i) (.str (tx a)) H Q := .inl ⟨rfl, q⟩
end
section
variable {K : PySem.W.Frag} {H : Hp} {Q : VK}
theorem q_pi {i : Int} {R : Int → Prop} (q : R i) : ∃ j, V.int i = V.int j ∧ R j := ⟨i, rfl, q⟩
theorem q_slTo {a : List Nat} (k : Nat) (hz : a.length ≤ sizeLine) (q : Q (.str (tx (a.take k))) H) : rSlU K (.str (tx a)) none (some (k : Int)) H Q := by
  refine q_slS hz ?_
  rw [HT.sIx_nat, HT.sIx_none, List.drop_zero, Nat.sub_zero]
  have e : a.take (min k a.length) = a.take k := by
    by_cases h : k ≤ a.length
    · rw [Nat.min_eq_left h]
    · rw [Nat.min_eq_right (by omega), List.take_length, List.take_of_length_le (by omega)]
  rw [e]
  exact q
theorem q_slFrom {a : List Nat} (k : Nat) (hz : a.length ≤ sizeLine) (q : Q (.str (tx (a.drop k))) H) : rSlU K (.str (tx a)) (some (k : Int)) none H Q := by
  refine q_slS hz ?_
  rw [HT.sIx_nat, HT.sIx_none]
  have e : (a.drop (min k a.length)).take (a.length - min k a.length) = a.drop k := by
    by_cases h : k ≤ a.length
    · rw [Nat.min_eq_left h, List.take_of_length_le (by rw [List.length_drop]; omega)]
    · rw [Nat.min_eq_right (by omega), List.drop_length, List.drop_of_length_le (by omega)]
      simp
  rw [e]
  exact q
theorem q_slMid {a : List Nat} (i j : Nat) (hz : a.length ≤ sizeLine) (hj : j ≤ a.length) (q : Q (.str (tx ((a.drop i).take (j - i)))) H) : rSlU K (.str (tx a)) (some (i : Int)) (some (j : Int)) H Q := by
  refine q_slS hz ?_
  rw [HT.sIx_nat, HT.sIx_nat, Nat.min_eq_left hj]
  have e : (a.drop (min i a.length)).take (j - min i a.length) = (a.drop i).take (j - i) := by
    by_cases h : i ≤ a.length
    · rw [Nat.min_eq_left h]
    · rw [Nat.min_eq_right (by omega), List.drop_length, List.drop_of_length_le (by omega)]
      simp
  rw [e]
  exact q
theorem q_slL {p : Addr} {xs : List V} (k : Nat) (h : SqL K H p xs) (q : ∀ l, H l = none → Q (.ref l) (upd H l (.lst (xs.take k)))) : rSlU K (.ref p) none (some (k : Int)) H Q := by
  refine .inr ⟨p, xs, rfl, h, ?_⟩
  have e : cutV xs none (some (k : Int)) = xs.take k := by
    unfold cutV
    rw [HT.sIx_nat, HT.sIx_none, List.drop_zero, Nat.sub_zero]
    by_cases h : k ≤ xs.length
    · rw [Nat.min_eq_left h]
    · rw [Nat.min_eq_right (by omega), List.take_length, List.take_of_length_le (by omega)]
  rw [e]
  exact q
end
/-! ### loops and comprehensions, over what is walked -/
def ForO (J : It) (g : TG) (tb : TS) : TS := fun D σ H1 => ∃ W : Nat → Nat → L2.St → Hp → Prop, (∃ m, W 0 m σ H1) ∧ ∀ i m σ H, W i m σ H →
  (J.stop i H ∧ D.nx σ H) ∨ (J.go i H ∧ ∃ N : L2.St → Hp → Prop, (∀ σ' H', N σ' H' → ∃ m', m' < m ∧ W (i + 1) m' σ' H') ∧ ∀ x H', J.yld i H x H' → g x σ H' fun σ2 H2 => tb { D with nx := N, ct := N, bk := D.nx } σ2 H2)
def LcO (J : It) (g : TG) (tt : TT) (te : TE) (vs : List Nat) : TE := fun σ H1 Q => ∀ D, H1 D = none → ∃ W : Nat → Nat → Hp → Prop, (∃ m, W 0 m (upd H1 D (.lst []))) ∧ ∀ i m H, W i m H →
  (J.stop i H ∧ Q (.ref D) H) ∨ (J.go i H ∧ ∃ Nx : Hp → Prop, (∀ H', Nx H' → ∃ m', m' < m ∧ W (i + 1) m' H') ∧ ∀ x H', J.yld i H x H' → g x (wipe σ vs) H' fun σ2 H2 => wipe σ2 vs = wipe σ vs ∧ tt σ2 H2 fun b H3 =>
    if b = true then te σ2 H3 fun y H4 => ∃ acc, H4 D = some (.lst acc) ∧ acc.length < sizeLine ∧ Nx (upd H4 D (.lst (acc ++ [y]))) else Nx H3)
section
variable {K : PySem.W.Frag} {σ : L2.St} {H : Hp} {Q : VK} {D : Ends} {wi : TI} {tl te : TE} {g : TG} {tb : TS} {ta : TA} {tt : TT} {vs : List Nat} {R : It → Hp → Prop}
theorem q_for (h : wi σ H fun J H1 => ForO J g tb D σ H1) : tFor wi g tb D σ H := h
theorem q_lc (h : wi σ H fun J H1 => LcO J g tt te vs σ H1 Q) : tLc wi g tt te vs σ H Q := h
theorem q_iList (h : tl σ H fun x H1 => ∃ a, x = .ref a ∧ (∃ xs, SqL K H1 a xs) ∧ R (Itl K a) H1) : iList K tl σ H R := h
theorem q_iTup (h : tl σ H fun x H1 => ∃ a, x = .ref a ∧ (∃ xs, SqT K H1 a xs) ∧ R (Itt K a) H1) : iTup K tl σ H R := h
theorem q_iStr (h : tl σ H fun v H1 => ∃ x, v = .str x ∧ R (Its x) H1) : iStr tl σ H R := h
theorem q_iRng1 (h : ta σ H fun vs H1 => ∃ j : Int, vs = [.int j] ∧ -(2 ^ 62) ≤ j ∧ j < 2 ^ 62 ∧ R (Itr 0 j.toNat) H1) : iRng1 ta σ H R := h
theorem q_iRng2 (h : ta σ H fun vs H1 => ∃ i j : Int, vs = [.int i, .int j] ∧ (-(2 ^ 62) ≤ i ∧ i < 2 ^ 62 ∧ -(2 ^ 62) ≤ j ∧ j < 2 ^ 62) ∧ R (Itr i (j - i).toNat) H1) : iRng2 ta σ H R := h
theorem q_iRng3 (h : ta σ H fun vs H1 => ∃ (i j c : Int) (n : Nat), vs = [.int i, .int j, .int c] ∧ RgC i j c n ∧ R (Itc i c n) H1) : iRng3 ta σ H R := h
theorem q_gtup {n : Nat} {gs : TGs} {v : V} {R : L2.St → Hp → Prop} (h : ∃ a xs, v = .ref a ∧ SqT K H a xs ∧ xs.length = n ∧ gs xs σ H R) : gTup K n gs v σ H R := h
theorem q_gcons {g : TG} {gs : TGs} {v : V} {r : List V} {R : L2.St → Hp → Prop} (h : g v σ H fun σ' H' => gs r σ' H' R) : gCons g gs (v :: r) σ H R := ⟨v, r, rfl, h⟩
theorem q_gnil {R : L2.St → Hp → Prop} (h : R σ H) : gNil [] σ H R := ⟨rfl, h⟩
theorem q_yes {R : Bool → Hp → Prop} (q : R true H) : tYes σ H R := q
theorem q_while {c : TT} (Wv : Nat → L2.St → Hp → Prop) (m0 : Nat) (h0 : Wv m0 σ H) (hs : ∀ m σ H, Wv m σ H → c σ H fun b H1 => if b = true then ∃ N : L2.St → Hp → Prop, (∀ σ' H', N σ' H' → ∃ m', m' < m ∧ Wv m' σ' H') ∧ tb { D with nx := N, ct := N, bk := D.nx } σ H1 else D.nx σ H1) : tWhile c tb D σ H := ⟨Wv, ⟨m0, h0⟩, hs⟩
/-- a for, by Pv of the turn, the slots and the heap -/
theorem fo {J : It} {n : Nat} {G : Hp → Prop} {Y : Nat → Hp → V → Hp → Prop} (w : Walk J n G Y) (Pv : Nat → L2.St → Hp → Prop) (h0 : Pv 0 σ H) (hG : ∀ i σ H, i ≤ n → Pv i σ H → G H)
    (hs : ∀ i x σ H H', i < n → Pv i σ H → Y i H x H' → g x σ H' fun σ2 H2 => tb { D with nx := Pv (i + 1), ct := Pv (i + 1), bk := D.nx } σ2 H2) (hd : ∀ σ H, Pv n σ H → D.nx σ H) : ForO J g tb D σ H := for_it w Pv h0 hG hs hd
theorem fo_range {lo : Int} {n : Nat} (Pv : Nat → L2.St → Hp → Prop) (h0 : Pv 0 σ H) (hs : ∀ i σ H, i < n → Pv i σ H → g (.int (lo + (i : Nat))) σ H fun σ2 H2 => tb { D with nx := Pv (i + 1), ct := Pv (i + 1), bk := D.nx } σ2 H2)
    (hd : ∀ σ H, Pv n σ H → D.nx σ H) : ForO (Itr lo n) g tb D σ H := for_range Pv h0 hs hd
theorem fo_rangeC {lo c : Int} {n : Nat} (Pv : Nat → L2.St → Hp → Prop) (h0 : Pv 0 σ H) (hs : ∀ i σ H, i < n → Pv i σ H → g (.int (lo + (i : Nat) * c)) σ H fun σ2 H2 => tb { D with nx := Pv (i + 1), ct := Pv (i + 1), bk := D.nx } σ2 H2)
    (hd : ∀ σ H, Pv n σ H → D.nx σ H) : ForO (Itc lo c n) g tb D σ H := for_rangeC Pv h0 hs hd
theorem fo_list {a : Addr} {xs : List V} (Pv : Nat → L2.St → Hp → Prop) (h0 : Pv 0 σ H) (hl : ∀ i σ H, i ≤ xs.length → Pv i σ H → SqL K H a xs)
    (hs : ∀ i x σ H, xs[i]? = some x → Pv i σ H → g x σ H fun σ2 H2 => tb { D with nx := Pv (i + 1), ct := Pv (i + 1), bk := D.nx } σ2 H2) (hd : ∀ σ H, Pv xs.length σ H → D.nx σ H) : ForO (Itl K a) g tb D σ H := for_list Pv h0 hl hs hd
theorem fo_str {l : List Nat} (Pv : Nat → L2.St → Hp → Prop) (h0 : Pv 0 σ H)
    (hs : ∀ i c σ H, l[i]? = some c → Pv i σ H → g (.str (tx [c])) σ H fun σ2 H2 => tb { D with nx := Pv (i + 1), ct := Pv (i + 1), bk := D.nx } σ2 H2) (hd : ∀ σ H, Pv l.length σ H → D.nx σ H) : ForO (Its (tx l)) g tb D σ H := by
  have hn : (tx l).cps.size = l.length := tx_len l
  refine fo walk_str Pv h0 (fun _ _ _ _ _ => trivial) (fun i x σ H H' hi p y => ?_) (fun σ H p => hd σ H (by rw [← hn]; exact p))
  obtain ⟨rfl, c, e, rfl⟩ := y
  refine hs i c σ _ ?_ p
  rw [← tx_list l, ← Array.getElem?_toList] at *
  simpa [tx_list] using e
/-- a comprehension without a test whose elements are told by values -/
theorem lc_ev {J : It} {n : Nat} {Y : Nat → Hp → V → Hp → Prop} {G : Hp → Prop} {j : Nat} (w : Walk J n G Y) (hz : n ≤ 100000) (xs : Nat → V) (f : Nat → V) (hG : ∀ H', Ex H H' → G H') (hY : ∀ i H1 x H2, i < n → Y i H1 x H2 → H2 = H1 ∧ x = xs i)
    (hw : ∀ x, wipe ((wipe σ vs).set j (some x)) vs = wipe σ vs) (he : ∀ i, i < n → Evl.Ev te ((wipe σ vs).set j (some (xs i))) H (f i))
    (q : ∀ p H', H p = none → Ex H H' → H' p = some (.lst ((List.range n).map f)) → Q (.ref p) H') : LcO J (gName j) tYes te vs σ H Q := by
  intro D hD
  have fin := lc_it (tt := tYes) (te := te) (vs := vs) (σ := σ) (g := gName j) (H1 := H) (D := D) (Qd := fun H' => Q (.ref D) H') w (fun i H' => H D = none ∧ Ex H H' ∧ H' D = some (.lst ((List.range i).map f))) ⟨hD, Evl.Ex.new hD, upd_same⟩ (fun i H' _ p => hG H' p.2.1) (fun i x H1 H2 hi p y => ?_) (fun H' p => q D H' p.1 p.2.1 p.2.2)
  · exact fin
  · obtain ⟨rfl, rfl⟩ := hY i H1 x H2 hi y
    obtain ⟨p1, p2, p3⟩ := p
    refine ⟨hw _, ?_⟩
    refine q_yes ?_
    refine ifY rfl ?_
    refine he i hi _ p2 _ fun H4 e4 => ⟨_, e4 D _ p3, ?_, p1, Evl.Ex.mut (p2.trans e4) p1, ?_⟩
    · rw [List.length_map, List.length_range]
      exact Nat.lt_of_lt_of_le (Nat.lt_of_lt_of_le hi hz) (by decide)
    · rw [upd_same, List.range_succ, List.map_append]
      rfl
/-- .. over the signs of a text -/
theorem lc_str {l : List Nat} {j : Nat} (hz : l.length ≤ 100000) (f : Nat → V) (hw : ∀ x, wipe ((wipe σ vs).set j (some x)) vs = wipe σ vs) (he : ∀ c, c ∈ l → Evl.Ev te ((wipe σ vs).set j (some (.str (tx [c])))) H (f c))
    (q : ∀ p H', H p = none → Ex H H' → H' p = some (.lst (l.map f)) → Q (.ref p) H') : LcO (Its (tx l)) (gName j) tYes te vs σ H Q := by
  have hn : (tx l).cps.size = l.length := tx_len l
  have gd : ∀ i, i < l.length → l[i]? = some (l.getD i 0) := fun i hi => by rw [List.getD_eq_getElem?_getD, List.getElem?_eq_getElem hi]; rfl
  refine lc_ev walk_str (by rw [hn]; exact hz) (fun i => .str (tx [l.getD i 0])) (fun i => f (l.getD i 0)) (fun _ _ => trivial) (fun i H1 x H2 hi y => ?_) hw (fun i hi => ?_) (fun p H' h1 h2 h3 => q p H' h1 h2 ?_)
  · obtain ⟨rfl, c, e, rfl⟩ := y
    refine ⟨rfl, ?_⟩
    have e2 : l[i]? = some c := by
      have e3 : (tx l).cps.toList[i]? = some c := by rw [Array.getElem?_toList]; exact e
      rwa [tx_list] at e3
    have e4 := gd i (by rw [← hn]; exact hi)
    rw [e2] at e4
    cases e4
    rfl
  · exact he _ (List.mem_of_getElem? (gd i (by rw [← hn]; exact hi)))
  · rw [h3, hn]
    congr 2
    refine List.ext_getElem? fun i => ?_
    rw [List.getElem?_map, List.getElem?_map]
    by_cases hi : i < l.length
    · rw [List.getElem?_range hi, gd i hi]
      rfl
    · rw [List.getElem?_eq_none (by simpa using hi), List.getElem?_eq_none (by simpa using hi)]
      rfl
end
end KX

namespace KX
open PySem PySem.Spec PyProof.Rows L2
/-! ### for place, sign in enumerate(text) -/
def Itse (x : Str) : It where
  go := fun i _ => i < x.cps.size
  yld := fun i H v H' => ∃ (B : Addr) (c : Nat), v = .ref B ∧ H B = none ∧ H' = upd H B (.tup [.int (i : Nat), .str ⟨#[c]⟩]) ∧ x.cps[i]? = some c
  stop := fun i _ => x.cps.size ≤ i
/-- how it draws, whichever iterator it is -/
theorem sign_draws {prog : Program} {w : World} {A : Around} (hh : A.handled = none) (it : Addr) (x : Str) (t : Tok) :
    Draws prog w A it [it] x.cps.size (fun i v => ∃ c u, x.cps[i]? = some c ∧ v = .str ⟨#[c]⟩ u) (fun i h => h.IsStrIter it (strIterType x) x t i) := by
  unfold strIterType
  split
  · exact Draws.strAscii hh it x t
  · exact Draws.strWide hh it x t
theorem turn_enumS {P : Program} {w : World} {K : PySem.W.Frag} {elts : List Expr} {kk : Nat} {tpos : Pos} (x : Str) (t : Tok) (e it : Addr) :
    Turn P w K (.Tuple elts kk tpos) (Itse x) [e, it] e (fun i h => (∃ old, IsEnum h e it ((i : Nat) : Int) old) ∧ h.IsStrIter it (strIterType x) x t i ∧ e ≠ it) where
  mem := by simp
  obj := fun i h st b hb => by
    obtain ⟨⟨old, h1⟩, ⟨o, h2, h3, h4⟩, _⟩ := st
    have two : b = e ∨ b = it := by simpa using hb
    rcases two with rfl | rfl
    · exact ⟨_, h1, fun v q => nomatch q⟩
    · exact ⟨o, h2, fun v q => by rw [h4] at q; cases q⟩
  keep := fun i h h' st k => by
    obtain ⟨⟨old, h1⟩, ⟨o, h2, r⟩, hne⟩ := st
    exact ⟨⟨old, k e (by simp) _ h1⟩, ⟨o, k it (by simp) o h2, r⟩, hne⟩
  item := by
    intro X hP hw hK hc i pins s σ H E I hf st hg
    subst hP hw hK
    obtain ⟨⟨old, h1⟩, h2, hne⟩ := st
    have el : e < s.heap.objs.size := Heap.lt_size h1
    have il : it < s.heap.objs.size := by
      obtain ⟨_, q, _⟩ := h2
      exact Heap.lt_size q
    have below : ∀ b ∈ [e, it], b < s.heap.objs.size := fun b hb => by
      have two : b = e ∨ b = it := by simpa using hb
      rcases two with rfl | rfl
      · exact el
      · exact il
    have Dr := sign_draws (prog := X.prog) (w := X.w) (A := X.A.in1) (I.ok.hd hc) it x t
    refine wpAny_pyNext_enum_itemD Dr h1 h2 hg hne (by simpa using hne) ?_
    rintro v h' tk ⟨c, u, hcx, rfl⟩ ho hit' hT hsz hk
    refine ⟨_, rfl, wpAny_letOwnedTupleGo_enum (s := { s with heap := h', toks := tk + 1 }) ho fun h'' he' sb => ?_⟩
    have hT2 := (sb.2 _ (Nat.ne_of_gt el)).trans hT
    have new : ObjOk X.prog X.w (upd H s.heap.objs.size (.tup [.int (i : Nat), .str ⟨#[c]⟩])) h'' s.heap.objs.size (.tup [.int (i : Nat), .str ⟨#[c]⟩]) :=
      ⟨sml rfl, [.int i tk, .str ⟨#[c]⟩ u], .cons ⟨_, rfl⟩ (.cons ⟨_, rfl⟩ .nil), ⟨_, hT2, rfl, _, rfl⟩⟩
    have other : ∀ b ob, b ∉ [e, it] → s.heap.get? b = some ob → h''.get? b = some ob := fun b ob hb q => by
      have n1 : b ≠ e := fun z => hb (by simp [z])
      have n2 : b ≠ it := fun z => hb (by simp [z])
      exact (sb.2 b n1).trans (hk b ob n1 n2 q)
    have I1 := I.turnedNew (t' := tk + 1) (ch := [e, it]) other hf (Nat.le_refl _) new
    refine ⟨.ref s.heap.objs.size, _, I1, rfl, ⟨_, c, rfl, I.hok.fresh (Nat.le_refl _), rfl, hcx⟩, ⟨⟨.str ⟨#[c]⟩ u, ?_⟩, ?_, hne⟩, fun b hb => ?_⟩
    · have e1 : ((i + 1 : Nat) : Int) = (i : Int) + 1 := by omega
      rw [e1]
      exact he'
    · obtain ⟨o, q, r⟩ := hit'
      exact ⟨o, (sb.2 it (Ne.symm hne)).trans q, r⟩
    · rw [upd_ne (Nat.ne_of_lt (below b hb))]
      exact (hf b hb).1
  done := by
    intro X hP hw hK hc i pins s σ H E I hf st hg
    subst hP hw hK
    obtain ⟨⟨old, h1⟩, h2, hne⟩ := st
    obtain ⟨f0, f1, f2, f3, f4, f5⟩ := hf it (by simp)
    by_cases hi : i = x.cps.size
    · subst hi
      have Dr := sign_draws (prog := X.prog) (w := X.w) (A := X.A.in1) (I.ok.hd hc) it x t
      exact wpAny_pyNext_enum_endD Dr h1 h2 fun h' eb => ⟨rfl, I.turned (t' := s.toks) (fun b o hb q => eb b o hb q) f0 f1 f3 f4 f5⟩
    · exact wpAny_pyNext_enum_endD (n := i) (fp := [it]) (P := fun j v => False) (St := fun j h => j = i ∧ h.IsStrIter it (strIterType x) x t i)
        { live := fun j h st => let ⟨o, ho, _⟩ := st.2; ⟨o, ho⟩
          frame := fun j h h' st hk => ⟨st.1, let ⟨o, ho, r⟩ := st.2; ⟨o, hk it (by simp) o ho, r⟩⟩
          item := fun j s Q E hj st _ => absurd st.1 (by omega)
          done := fun s Q E st hE => by
            have hx : x.cps[i]? = none := Array.getElem?_eq_none hg
            have st2 := st.2
            unfold strIterType at st2
            split at st2
            · exact wpAny_nextOf_ascii_end (A := X.A.in1) (I.ok.hd hc) st2 hx hE
            · exact wpAny_nextOf_wide_end (A := X.A.in1) (I.ok.hd hc) st2 hx hE }
        h1 ⟨rfl, h2⟩ fun h' eb => ⟨rfl, I.turned (t' := s.toks) (fun b o hb q => eb b o hb q) f0 f1 f3 f4 f5⟩
  self := fun A i s Q E st h => by
    obtain ⟨⟨_, h1⟩, _⟩ := st
    exact wpAny_pyIter_enum h1 h
def iEnumS (ta : TA) : TI := fun σ H R => ta σ H fun vs H1 => ∃ x, vs = [.str x] ∧ R (Itse x) H1
theorem pi_enumS {X : Cx} {e : Expr} {ta : TA} {p pos tpos : Pos} {elts : List Expr} {kk : Nat} (hg : Gl X "enumerate") (hm : X.mg "enumerate" = none) (ha : PA X [e] ta) (hs : starEach [e] X.env = [(false, eval e X.env)] := by rfl) :
    PI X (.Tuple elts kk tpos) (.Call (.Name "enumerate" p) [e] [] pos) (iEnumS ta) := by
  refine ⟨fun pins s σ H R I h => ?_⟩
  refine Call_ (ld_blt I hg hm boot_enumerate (PyProof.Rows.callWith_type1 (thn (ha.run pos pins s σ H _ I h) ?_) hs rfl))
  rintro us s1 ⟨vs, H1, I1, r1, x, rfl, q⟩
  obtain ⟨u, rfl, t, rfl⟩ := vals1 r1
  refine call_enumerate_str fun h' he hit hsz hk => wpAny_pyIter_enum he ?_
  have I2 : Inv X pins σ H1 { s1 with heap := h' } := I1.kept (t' := s1.toks) hk
  refine ⟨s1.heap.objs.size + 1, [s1.heap.objs.size + 1, s1.heap.objs.size], _, _, H1, rfl, I2, turn_enumS x t (s1.heap.objs.size + 1) s1.heap.objs.size, ⟨⟨.none, he⟩, hit, Nat.succ_ne_self _⟩, fun b hb => ?_, q⟩
  have two : b = s1.heap.objs.size + 1 ∨ b = s1.heap.objs.size := by simpa using hb
  have hle : s1.heap.objs.size ≤ b := by
    rcases two with rfl | rfl
    · exact Nat.le_succ _
    · exact Nat.le_refl _
  exact I1.fpOk hle (I1.hok.fresh hle)
section
variable {σ : L2.St} {H : Hp} {D : Ends} {g : TG} {tb : TS} {ta : TA} {R : It → Hp → Prop}
theorem q_cat {K : PySem.W.Frag} {Q : VK} {l b : Addr} {xs zs : List V} (h1 : H l = some (.lst xs)) (h2 : H b = some (.lst zs)) (hz : xs.length + zs.length ≤ sizeLine) (q : ∀ p, H p = none → Q (.ref p) (upd H p (.lst (xs ++ zs)))) : rAddU K (.ref l) (.ref b) H Q :=
  .inr (.inr (.inl ⟨l, b, xs, zs, rfl, rfl, h1, h2, hz, q⟩))
theorem q_ixLast {K : PySem.W.Frag} {Q : VK} {p : Addr} {xs : List V} {v : V} (h : SqL K H p (xs ++ [v])) (q : Q v H) : rIx K (.ref p) (.int (-1)) H Q := .inl ⟨p, _, -1, v, rfl, rfl, h, atI_last xs v, q⟩
theorem q_iEnumS (h : ta σ H fun vs H1 => ∃ x, vs = [.str x] ∧ R (Itse x) H1) : iEnumS ta σ H R := h
theorem fo_enumS {l : List Nat} (Pv : Nat → L2.St → Hp → Prop) (h0 : Pv 0 σ H)
    (hs : ∀ i c σ H B, l[i]? = some c → H B = none → Pv i σ H → g (.ref B) σ (upd H B (.tup [.int (i : Nat), .str (tx [c])])) fun σ2 H2 => tb { D with nx := Pv (i + 1), ct := Pv (i + 1), bk := D.nx } σ2 H2)
    (hd : ∀ σ H, Pv l.length σ H → D.nx σ H) : ForO (Itse (tx l)) g tb D σ H := by
  have hn : (tx l).cps.size = l.length := tx_len l
  have w : Walk (Itse (tx l)) l.length (fun _ => True) (Itse (tx l)).yld :=
    ⟨fun i H hi _ => (show i < (tx l).cps.size by rw [hn]; exact hi), fun H _ => (show (tx l).cps.size ≤ l.length by rw [hn]; exact Nat.le_refl _), fun _ _ _ _ _ _ y => y⟩
  refine fo w Pv h0 (fun _ _ _ _ _ => trivial) (fun i x σ H H' hi p y => ?_) hd
  obtain ⟨B, c, rfl, hB, rfl, e⟩ := y
  have e3 : (tx l).cps.toList[i]? = some c := by rw [Array.getElem?_toList]; exact e
  rw [tx_list] at e3
  exact hs i c σ H B e3 hB p
end
end KX

namespace KX
open PySem PySem.Spec PyProof.Rows L2
section
variable {K : PySem.W.Frag} {σ : L2.St} {H : Hp} {Q : VK} {D : Ends} {s1 s2 : TS} {te : TE} {g : TG}
/-- what follows a statement, told once by I -/
theorem q_seqK (I : L2.St → Hp → Prop) (h2 : ∀ σ H, I σ H → s2 D σ H) (h1 : ∀ N : L2.St → Hp → Prop, (∀ σ H, I σ H → N σ H) → s1 { D with nx := N } σ H) : tSeq s1 s2 D σ H := h1 _ h2
theorem q_isN {ta : TE} (h : ta σ H fun x H1 => Q (.bl (decide (x = .non))) H1) : tIsN ta σ H Q := h
theorem q_notN {ta : TE} (h : ta σ H fun x H1 => Q (.bl (!decide (x = .non))) H1) : tNotN ta σ H Q := h
theorem q_par3 {i j l : Nat} {t : TA} (h : t σ H fun vs H1 => ∃ u v w, vs = [u, v, w] ∧ D.nx (((σ.set i (some u)).set j (some v)).set l (some w)) H1) : tPar3 i j l t D σ H := h
theorem q_setL {p : Addr} {xs : List V} {k : Nat} {v : V} {R : Hp → Prop} (h : H p = some (.lst xs)) (hk : k < xs.length) (q : R (upd H p (.lst (xs.set k v)))) : rSetL (.ref p) (.int (k : Nat)) v H R := by
  refine ⟨p, xs, (k : Nat), k, rfl, rfl, h, ?_, q⟩
  unfold ixN
  simp [hk]
/-- all stands but r -/
def But (r : Addr) (H H' : Hp) : Prop := ∀ a o, a ≠ r → H a = some o → H' a = some o
theorem But.refl (r : Addr) (H : Hp) : But r H H := fun _ _ _ h => h
theorem But.trans {r : Addr} {H H1 H2 : Hp} (a : But r H H1) (b : But r H1 H2) : But r H H2 := fun x o n h => b x o n (a x o n h)
theorem But.of_ex {r : Addr} {H H' : Hp} (e : Ex H H') : But r H H' := fun x o _ h => e x o h
theorem But.mut {r : Addr} {H : Hp} {o : HO} : But r H (upd H r o) := fun x u n h => by rw [upd_ne n]; exact h
theorem But.ex {r : Addr} {H0 H H' : Hp} (b : But r H H') (n : H0 r = none) (e : Ex H0 H) : Ex H0 H' := fun x o h => b x o (by rintro rfl; rw [n] at h; cases h) (e x o h)
theorem But.kt {r : Addr} {H H' : Hp} {xs : List V} (b : But r H H') (h : H r = some (.lst xs)) : Kt H H' := Kt.but h trivial fun x u n e => b x u n e
/-- a comprehension whose elements may change what stands; acc: what it has made so far -/
theorem lc_fold {J : It} {n j : Nat} {Y : Nat → Hp → V → Hp → Prop} {G : Hp → Prop} {vs : List Nat} (w : Walk J n G Y) (hz : n ≤ 100000) (Pv : Addr → Nat → List V → Hp → Prop)
    (h0 : ∀ D, H D = none → Pv D 0 [] (upd H D (.lst []))) (hG : ∀ D i acc H', i ≤ n → Pv D i acc H' → G H') (hw : ∀ x, wipe ((wipe σ vs).set j (some x)) vs = wipe σ vs)
    (hs : ∀ D i acc x H1 H2, H D = none → i < n → Pv D i acc H1 → H1 D = some (.lst acc) → Y i H1 x H2 → ∀ R : VK, (∀ y H4, H4 D = some (.lst acc) → Pv D (i + 1) (acc ++ [y]) (upd H4 D (.lst (acc ++ [y]))) → R y H4) → te ((wipe σ vs).set j (some x)) H2 R)
    (hd : ∀ D acc H', H D = none → Pv D n acc H' → H' D = some (.lst acc) → Q (.ref D) H') : LcO J (gName j) tYes te vs σ H Q := by
  intro D hD
  have fin := lc_it (tt := tYes) (te := te) (vs := vs) (σ := σ) (g := gName j) (H1 := H) (D := D) (Qd := fun H' => Q (.ref D) H') w (fun i H' => ∃ acc, Pv D i acc H' ∧ H' D = some (.lst acc) ∧ acc.length = i)
    ⟨[], h0 D hD, upd_same, rfl⟩ (fun i H' hi p => by obtain ⟨acc, p1, _⟩ := p; exact hG D i acc H' hi p1) (fun i x H1 H2 hi p y => ?_) (fun H' p => by obtain ⟨acc, p1, p2, _⟩ := p; exact hd D acc H' hD p1 p2)
  · exact fin
  · obtain ⟨acc, p1, p2, p3⟩ := p
    refine ⟨hw _, ?_⟩
    refine q_yes ?_
    refine ifY rfl ?_
    refine hs D i acc x H1 H2 hD hi p1 p2 y _ fun v H4 h4 p4 => ⟨acc, h4, ?_, acc ++ [v], p4, upd_same, ?_⟩
    · rw [p3]
      exact Nat.lt_of_lt_of_le (Nat.lt_of_lt_of_le hi hz) (by decide)
    · rw [List.length_append, p3]
      rfl
end
end KX

/-! plain law: words, numbers, data as texts -/
namespace M53
open PySem
abbrev T := List Nat
def low (c : Nat) : Bool := decide (97 ≤ c) && decide (c ≤ 122)
def dig (c : Nat) : Bool := decide (48 ≤ c) && decide (c ≤ 57)
def wordc (c : Nat) : Bool := low c || dig c
def headOk (p : Nat → Bool) : T → Bool
  | [] => false
  | c :: _ => p c
def isWord (l : T) : Bool := (decide (1 ≤ l.length) && decide (l.length ≤ 12)) && (headOk low l && l.all wordc)
def wordD : PyData → Bool
  | .str s => isWord s.cps.toList
  | _ => false
def shortD : PyData → Bool
  | .int i => decide (i.natAbs < 10 ^ 4000)
  | _ => false
theorem letters : ("abcdefghijklmnopqrstuvwxyz" : Str).cps.toList = [97,98,99,100,101,102,103,104,105,106,107,108,109,110,111,112,113,114,115,116,117,118,119,120,121,122] := by decide +kernel
theorem digits : ("0123456789" : Str).cps.toList = [48,49,50,51,52,53,54,55,56,57] := by decide +kernel
theorem in_letters (c : Nat) : decide (c ∈ ("abcdefghijklmnopqrstuvwxyz" : Str).cps.toList) = low c := by
  rw [letters]
  unfold low
  rw [← Bool.decide_and, decide_eq_decide]
  simp only [List.mem_cons, List.not_mem_nil, or_false]
  omega
theorem in_digits (c : Nat) : decide (c ∈ ("0123456789" : Str).cps.toList) = dig c := by
  rw [digits]
  unfold dig
  rw [← Bool.decide_and, decide_eq_decide]
  simp only [List.mem_cons, List.not_mem_nil, or_false]
  omega
end M53

namespace M53
open PySem KX L2 TL
/-- the signs of an int -/
def itxt (i : Int) : T := if i < 0 then 45 :: numL i.natAbs else numL i.natAbs
theorem tx_int (i : Int) : Str.ofString (toString i) = tx (itxt i) := by
  refine (tx_of _).symm.trans (congrArg tx ?_)
  unfold itxt
  cases i with
  | ofNat n =>
    rw [if_neg (by simp)]
    exact tl_num n
  | negSucc n =>
    rw [if_pos (Int.negSucc_lt_zero n), PyProof.Rows.signs_ofString]
    show ("-" ++ Nat.repr (n + 1)).toList.map Char.toNat = 45 :: numL (n + 1)
    rw [String.toList_append, List.map_append, Nat.toList_repr]
    rfl
def atomT : PyData → Option T
  | .bool b => some (if b then [43] else [45])
  | .str s => if s.cps.toList = [] then some [46] else if isWord s.cps.toList then some s.cps.toList else none
  | .int i => if i.natAbs < 10 ^ 4000 then some (itxt i) else none
  | _ => none
theorem atom_int (i : Int) : atomT (.int i) = if i.natAbs < 10 ^ 4000 then some (itxt i) else none := rfl
theorem bool_txt (b : Bool) : (if b then "True" else "False" : String) = if b then "True" else "False" := rfl
end M53

namespace M53
open PySem KX L2 TL
/-- texts with commas between them -/
def comma : List T → T
  | [] => []
  | [t] => t
  | t :: u :: ts => t ++ 44 :: comma (u :: ts)
mutual
/-- the text of data; k: how many tuples may stand within one another -/
def wr : Nat → PyData → Option T
  | 0, .tuple _ => none
  | k + 1, .tuple ds => (wrs k ds).map fun ts => 91 :: (comma ts ++ [93])
  | _, .none => atomT .none
  | _, .bool b => atomT (.bool b)
  | _, .int i => atomT (.int i)
  | _, .str s => atomT (.str s)
  | _, .list ds => atomT (.list ds)
  | _, .dict ds => atomT (.dict ds)
def wrs : Nat → List PyData → Option (List T)
  | _, [] => some []
  | k, d :: ds => match wr k d, wrs k ds with
    | some t, some ts => some (t :: ts)
    | _, _ => none
end
theorem wr_atom {k : Nat} {d : PyData} (h : isTupD d = false) : wr k d = atomT d := by
  cases d with
  | tuple ds => cases h
  | _ => cases k <;> (unfold wr; rfl)
theorem wr_zero (ds : List PyData) : wr 0 (.tuple ds) = none := by unfold wr; rfl
theorem wr_succ (k : Nat) (ds : List PyData) : wr (k + 1) (.tuple ds) = (wrs k ds).map fun ts => 91 :: (comma ts ++ [93]) := by rw [wr]
mutual
def sz : PyData → Nat
  | .tuple ds => 2 + szs ds
  | _ => 1
def szs : List PyData → Nat
  | [] => 0
  | d :: ds => 1 + sz d + szs ds
end
mutual
/-- all texts within have a length that may be -/
def strOk : PyData → Bool
  | .str s => decide (s.length ≤ sizeLine)
  | .tuple ds => strOks ds
  | _ => true
def strOks : List PyData → Bool
  | [] => true
  | d :: ds => strOk d && strOks ds
end
inductive Itm where
  | lit (t : T) | dat (d : PyData) (k : Nat)
def W : List Itm → Option T
  | [] => some []
  | .lit t :: r => (W r).map (t ++ ·)
  | .dat d k :: r => match wr k d, W r with
    | some t, some u => some (t ++ u)
    | _, _ => none
def expd (k : Nat) : List PyData → List Itm
  | [] => []
  | [d] => [.dat d k]
  | d :: e :: ds => .dat d k :: .lit [44] :: expd k (e :: ds)
def msum : List Itm → Nat
  | [] => 0
  | .lit _ :: r => 1 + msum r
  | .dat d _ :: r => sz d + msum r
theorem msum_app : ∀ a b : List Itm, msum (a ++ b) = msum a + msum b
  | [], b => by simp [msum]
  | .lit t :: r, b => by simp only [List.cons_append, msum, msum_app r b]; omega
  | .dat d k :: r, b => by simp only [List.cons_append, msum, msum_app r b]; omega
theorem sz_pos (d : PyData) : 1 ≤ sz d := by cases d <;> (unfold sz; omega)
theorem W_lit (t : T) (r : List Itm) : W (.lit t :: r) = (W r).map (t ++ ·) := rfl
theorem W_dat (d : PyData) (k : Nat) (r : List Itm) : W (.dat d k :: r) = (wr k d).bind fun t => (W r).map (t ++ ·) := by
  show (match wr k d, W r with | some t, some u => some (t ++ u) | _, _ => none) = _
  cases wr k d <;> cases W r <;> rfl
theorem wrs_cons (k : Nat) (d : PyData) (ds : List PyData) : wrs k (d :: ds) = (wr k d).bind fun t => (wrs k ds).map (t :: ·) := by
  rw [wrs]
  cases wr k d <;> cases wrs k ds <;> rfl
theorem wrs_nil (k : Nat) : wrs k [] = some [] := by rw [wrs]
theorem W_expd (k : Nat) : ∀ (ds : List PyData) (r : List Itm), W (expd k ds ++ r) = (wrs k ds).bind fun ts => (W r).map (comma ts ++ ·)
  | [], r => by
    rw [wrs_nil]
    show W r = (W r).map ([] ++ ·)
    simp
  | [d], r => by
    show W (.dat d k :: r) = _
    rw [W_dat, wrs_cons, wrs_nil]
    cases wr k d <;> rfl
  | d :: e :: ds, r => by
    have ih := W_expd k (e :: ds) r
    show W (.dat d k :: .lit [44] :: (expd k (e :: ds) ++ r)) = _
    rw [W_dat, W_lit, ih, wrs_cons k d]
    cases h : wr k d with
    | none => rfl
    | some t =>
      cases h2 : wrs k (e :: ds) with
      | none => rfl
      | some ts =>
        have hne : ∃ u us, ts = u :: us := by
          rw [wrs_cons] at h2
          cases h3 : wr k e with
          | none => rw [h3] at h2; cases h2
          | some u =>
            cases h4 : wrs k ds with
            | none => rw [h3, h4] at h2; cases h2
            | some us => rw [h3, h4] at h2; cases h2; exact ⟨u, us, rfl⟩
        obtain ⟨u, us, rfl⟩ := hne
        cases W r with
        | none => rfl
        | some x =>
          show some (t ++ ([44] ++ (comma (u :: us) ++ x))) = some (comma (t :: u :: us) ++ x)
          show _ = some ((t ++ 44 :: comma (u :: us)) ++ x)
          simp
theorem W_tuple (k : Nat) (ds : List PyData) (r : List Itm) : W (.dat (.tuple ds) (k + 1) :: r) = (W (expd k ds ++ .lit [93] :: r)).map (91 :: ·) := by
  rw [W_dat, wr_succ, W_expd, W_lit]
  cases wrs k ds with
  | none => rfl
  | some ts =>
    cases W r with
    | none => rfl
    | some x =>
      show some (91 :: (comma ts ++ [93]) ++ x) = some (91 :: (comma ts ++ ([93] ++ x)))
      simp
theorem msum_expd (k : Nat) : ∀ ds : List PyData, msum (expd k ds) + (if ds = [] then 0 else 1) = szs ds
  | [] => by simp [expd, msum, szs]
  | [d] => by simp [expd, msum, szs]; omega
  | d :: e :: ds => by
    have ih := msum_expd k (e :: ds)
    rw [if_neg (by simp)] at ih ⊢
    rw [szs]
    simp only [expd, msum]
    omega
theorem expd_drop (k : Nat) (ds : List PyData) (i : Nat) (d : PyData) (h : ds[i]? = some d) :
    expd k (ds.drop i) = .dat d k :: (if i + 1 < ds.length then .lit [44] :: expd k (ds.drop (i + 1)) else []) := by
  obtain ⟨hi, e⟩ := List.getElem?_eq_some_iff.mp h
  have e1 : ds.drop i = d :: ds.drop (i + 1) := by rw [List.drop_eq_getElem_cons hi, e]
  rw [e1]
  by_cases h2 : i + 1 < ds.length
  · rw [if_pos h2]
    have e2 : ds.drop (i + 1) = ds[i + 1] :: ds.drop (i + 1 + 1) := List.drop_eq_getElem_cons h2
    rw [e2]
    rfl
  · rw [if_neg h2]
    have e2 : ds.drop (i + 1) = [] := List.drop_eq_nil_of_le (by omega)
    rw [e2]
    rfl
/-- what has been laid of a tuple's items, from the last one on, after j turns -/
def preL (k : Nat) (ds : List PyData) (j : Nat) : List Itm := (if 0 < ds.length - j ∧ 0 < j then [.lit [44]] else []) ++ expd k (ds.drop (ds.length - j))
theorem preL_zero (k : Nat) (ds : List PyData) : preL k ds 0 = [] := by
  unfold preL
  rw [if_neg (by omega), Nat.sub_zero, List.drop_length]
  rfl
theorem preL_all (k : Nat) (ds : List PyData) : preL k ds ds.length = expd k ds := by
  unfold preL
  rw [if_neg (by omega), Nat.sub_self, List.drop_zero]
  rfl
theorem preL_step (k : Nat) (ds : List PyData) (j : Nat) (d : PyData) (hj : j < ds.length) (h : ds[ds.length - 1 - j]? = some d) :
    preL k ds (j + 1) = (if 0 < ds.length - 1 - j then [.lit [44]] else []) ++ .dat d k :: preL k ds j := by
  have e := expd_drop k ds _ d h
  have e1 : ds.length - (j + 1) = ds.length - 1 - j := by omega
  have e2 : ds.length - 1 - j + 1 = ds.length - j := by omega
  unfold preL
  rw [e1, e, e2]
  congr 1
  · by_cases h0 : 0 < ds.length - 1 - j
    · rw [if_pos h0, if_pos ⟨h0, by omega⟩]
    · rw [if_neg h0, if_neg (by omega)]
  · congr 1
    by_cases h0 : 0 < j
    · rw [if_pos (show ds.length - j < ds.length by omega), if_pos ⟨by omega, h0⟩]
      rfl
    · rw [if_neg (show ¬ ds.length - j < ds.length by omega), if_neg (by omega)]
      have : j = 0 := by omega
      subst this
      rw [Nat.sub_zero, List.drop_length]
      rfl
theorem msum_rev (l : List Itm) : msum l.reverse = msum l := by
  induction l with
  | nil => rfl
  | cons i r ih =>
    rw [List.reverse_cons, msum_app, ih]
    cases i <;> simp only [msum] <;> omega
theorem szs_len : ∀ ds : List PyData, ds.length ≤ szs ds
  | [] => Nat.le_refl _
  | d :: ds => by have := szs_len ds; simp only [List.length_cons, szs]; omega
theorem szs_drop : ∀ (ds : List PyData) (i : Nat), szs (ds.drop i) ≤ szs ds
  | [], i => by simp
  | d :: ds, 0 => Nat.le_refl _
  | d :: ds, i + 1 => by have := szs_drop ds i; simp only [List.drop_succ_cons, szs]; omega
theorem preL_msum (k : Nat) (ds : List PyData) (j : Nat) (hj : j ≤ ds.length) : msum (preL k ds j) ≤ szs ds := by
  unfold preL
  rw [msum_app]
  have h1 := msum_expd k (ds.drop (ds.length - j))
  have h2 := szs_drop ds (ds.length - j)
  by_cases h : 0 < ds.length - j ∧ 0 < j
  · rw [if_pos h]
    have hne : ds.drop (ds.length - j) ≠ [] := by
      intro e
      have := congrArg List.length e
      rw [List.length_drop] at this
      simp at this
      omega
    rw [if_neg hne] at h1
    simp only [msum]
    omega
  · rw [if_neg h]
    simp only [msum]
    split at h1 <;> omega
theorem strOks_get : ∀ {ds : List PyData} {i : Nat} {d : PyData}, strOks ds = true → ds[i]? = some d → strOk d = true
  | [], i, d, _, h => by simp at h
  | e :: ds, 0, d, hs, h => by
    simp at h
    subst h
    simp only [strOks, Bool.and_eq_true] at hs
    exact hs.1
  | e :: ds, i + 1, d, hs, h => by
    simp only [strOks, Bool.and_eq_true] at hs
    exact strOks_get hs.2 (by simpa using h)
theorem strOk_tup {ds : List PyData} (h : strOk (.tuple ds) = true) : strOks ds = true := by simpa [strOk] using h
theorem strOk_str {s : Str} (h : strOk (.str s) = true) : s.length ≤ sizeLine := by simpa [strOk] using h
theorem join_none (fs : List T) : Txt.join (tx []) (fs.map tx) = tx fs.flatten := by
  refine (tx_of _).symm.trans (congrArg tx ?_)
  rw [join_eq]
  have e := tl_join (tx []) (fs.map tx)
  have e0 : tl (tx []) = [] := rfl
  rw [e0] at e
  refine Eq.trans e ?_
  have g : ∀ l : List (List Nat), joinL [] l = l.flatten := by
    intro l
    induction l with
    | nil => rfl
    | cons x r ih =>
      cases r with
      | nil => simp [joinL]
      | cons y r =>
        show x ++ ([] ++ joinL [] (y :: r)) = _
        rw [ih]
        simp
  rw [g]
  congr 1
  rw [List.map_map]
  refine Eq.trans (List.map_congr_left fun x _ => ?_) (List.map_id fs)
  exact tx_list x
end M53

namespace M53
open PySem KX L2 TL NumText
/-! reading back -/
def body (l : T) : T := if l.take 1 = [45] then l.drop 1 else l
def okNum (l : T) : Bool := ((decide (1 ≤ (body l).length) && decide ((body l).length ≤ 4000)) && (body l).all dig) && !(decide ((body l).take 1 = [48]) && !decide (l = [48]))
def numVal (l : T) : Int := if l.take 1 = [45] then -((digitsVal (body l) : Nat) : Int) else ((digitsVal (body l) : Nat) : Int)
def rdAtom (l : T) : Option PyData :=
  if l = [43] then some (.bool true) else if l = [45] then some (.bool false) else if l = [46] then some (.str (tx [])) else if isWord l = true then some (.str (tx l)) else if okNum l = true then some (.int (numVal l)) else none
theorem all_dig {l : T} (h : l.all dig = true) : AllDigits l := fun c hc => by
  have := List.all_eq_true.mp h c hc
  unfold dig at this
  simpa using this
theorem int_num' {l : T} (h : okNum l = true) : intText? (tx l) = some (numVal l) := by
  unfold okNum at h
  simp only [Bool.and_eq_true, decide_eq_true_eq] at h
  obtain ⟨⟨⟨h1, h2⟩, h3⟩, _⟩ := h
  have hd := all_dig h3
  have hne : body l ≠ [] := fun e => by rw [e] at h1; simp at h1
  unfold numVal
  by_cases hs : l.take 1 = [45]
  · rw [if_pos hs]
    have eb : body l = l.drop 1 := if_pos hs
    have el : l = 45 :: body l := by
      have := List.take_append_drop 1 l
      rw [hs] at this
      rw [eb]
      exact this.symm
    have hlen : l.length ≤ 4300 := by
      rw [el]
      simp only [List.length_cons]
      omega
    exact intText_neg (by rw [tx_list]; exact el) hd hne (by rw [tx_len]; exact hlen)
  · rw [if_neg hs]
    have eb : body l = l := if_neg hs
    rw [eb] at h2 hd hne ⊢
    have := intText_digits (x := tx l) (by rw [tx_list]; exact hd) (by rw [tx_list]; exact hne) (by rw [tx_len]; omega)
    rw [tx_list] at this
    exact this
theorem okNum_len {l : T} (h : okNum l = true) : l.length ≤ 4001 := by
  unfold okNum at h
  simp only [Bool.and_eq_true, decide_eq_true_eq] at h
  obtain ⟨⟨⟨h1, h2⟩, h3⟩, _⟩ := h
  unfold body at h2
  split at h2
  · rw [List.length_drop] at h2
    omega
  · omega
theorem body_le (l : T) : (body l).length ≤ l.length := by
  unfold body
  split
  · rw [List.length_drop]; omega
  · exact Nat.le_refl _
end M53

namespace M53
open PySem KX L2 TL NumText
def sep (c : Nat) : Bool := decide (c = 91) || (decide (c = 93) || decide (c = 44))
theorem in_sep (c : Nat) : decide (c ∈ (tx [91, 93, 44]).cps.toList) = sep c := by
  rw [tx_list]
  unfold sep
  rw [← Bool.decide_or, ← Bool.decide_or, decide_eq_decide]
  simp only [List.mem_cons, List.not_mem_nil, or_false]
/-- a token that may be empty -/
def tok (cur : T) : List T := if cur = [] then [] else [cur]
/-- the brackets, commas and longest other pieces; cur: the piece that has begun -/
def pcs : T → T → List T
  | cur, [] => tok cur
  | cur, c :: r => if sep c = true then tok cur ++ [c] :: pcs [] r else pcs (cur ++ [c]) r
theorem pcs_sep {cur r : T} {c : Nat} (h : sep c = true) : pcs cur (c :: r) = tok cur ++ [c] :: pcs [] r := by
  rw [pcs, if_pos h]
theorem pcs_no {cur r : T} {c : Nat} (h : sep c = false) : pcs cur (c :: r) = pcs (cur ++ [c]) r := by
  rw [pcs, if_neg (by rw [h]; exact Bool.false_ne_true)]
theorem pcs_len : ∀ (l cur : T), (pcs cur l).length ≤ 2 * l.length + 1
  | [], cur => by
    unfold pcs tok
    split <;> simp
  | c :: r, cur => by
    unfold pcs
    have h1 := pcs_len r []
    have h2 := pcs_len r (cur ++ [c])
    split
    · have : (tok cur).length ≤ 1 := by
        unfold tok
        split <;> simp
      simp only [List.length_append, List.length_cons]
      omega
    · simp only [List.length_cons]
      omega
theorem pcs_each : ∀ (l cur : T) (n : Nat), cur.length + l.length ≤ n → ∀ t ∈ pcs cur l, t.length ≤ n
  | [], cur, n, h, t, ht => by
    unfold pcs tok at ht
    split at ht
    · cases ht
    · rw [List.mem_singleton] at ht
      subst ht
      simpa using h
  | c :: r, cur, n, h, t, ht => by
    simp only [List.length_cons] at h
    unfold pcs at ht
    split at ht
    · rcases List.mem_append.mp ht with h1 | h1
      · unfold tok at h1
        split at h1
        · cases h1
        · rw [List.mem_singleton] at h1
          subst h1
          omega
      · rcases List.mem_cons.mp h1 with h2 | h2
        · subst h2
          simp only [List.length_cons, List.length_nil]
          omega
        · exact pcs_each r [] n (by simp only [List.length_nil]; omega) t h2
    · exact pcs_each r (cur ++ [c]) n (by simp only [List.length_append, List.length_cons, List.length_nil]; omega) t ht
end M53

namespace M53
open PySem KX L2 TL NumText
/-! the reader's machine -/
structure RS where
  stack : List (List PyData)
  ready : Bool
  told : List PyData
def itemS (S : RS) (d : PyData) : Option RS :=
  if S.ready = false then none else
  match S.stack.getLast? with
  | none => some ⟨[], false, S.told ++ [d]⟩
  | some x => some ⟨S.stack.dropLast ++ [x ++ [d]], false, S.told⟩
def openS (S : RS) : Option RS := if S.ready = false ∨ 1000 ≤ S.stack.length then none else some ⟨S.stack ++ [[]], S.ready, S.told⟩
def closeS (S : RS) : Option RS :=
  match S.stack.getLast? with
  | none => none
  | some x => if S.ready = true ∧ x ≠ [] then none else itemS ⟨S.stack.dropLast, true, S.told⟩ (.tuple x)
def commaS (S : RS) : Option RS := if S.ready = true ∨ S.stack = [] then none else some ⟨S.stack, true, S.told⟩
def takeS (S : RS) (p : T) : Option RS :=
  if p = [91] then openS S else if p = [93] then closeS S else if p = [44] then commaS S else
  match rdAtom p with
  | none => none
  | some d => itemS S d
def runS : RS → List T → Option RS
  | S, [] => some S
  | S, p :: ps => match takeS S p with
    | none => none
    | some S' => runS S' ps
def rd (l : T) : Option PyData :=
  match runS ⟨[], true, []⟩ (pcs [] l) with
  | none => none
  | some S => if S.stack ≠ [] ∨ S.told.length ≠ 1 then none else S.told.head?
theorem item_no (st : List (List PyData)) (told : List PyData) (d : PyData) : itemS ⟨st, false, told⟩ d = none := rfl
theorem item_nil (told : List PyData) (d : PyData) : itemS ⟨[], true, told⟩ d = some ⟨[], false, told ++ [d]⟩ := rfl
theorem item_app (st0 : List (List PyData)) (x told : List PyData) (d : PyData) : itemS ⟨st0 ++ [x], true, told⟩ d = some ⟨st0 ++ [x ++ [d]], false, told⟩ := by
  unfold itemS
  simp
theorem close_nil (b : Bool) (told : List PyData) : closeS ⟨[], b, told⟩ = none := rfl
theorem close_app (st0 : List (List PyData)) (x told : List PyData) (b : Bool) : closeS ⟨st0 ++ [x], b, told⟩ = if b = true ∧ x ≠ [] then none else itemS ⟨st0, true, told⟩ (.tuple x) := by
  unfold closeS
  simp
/-- how much is held -/
def wt (S : RS) : Nat := (S.stack.map fun x => x.length + 1).sum + S.told.length
def flatRS (S : RS) : Bool := S.stack.all flatDs && flatDs S.told
theorem flatDs_app (a b : List PyData) : flatDs (a ++ b) = (flatDs a && flatDs b) := by
  induction a with
  | nil => simp [flatDs]
  | cons x r ih => simp only [List.cons_append, flatDs, ih, Bool.and_assoc]
theorem last_split {α : Type} {l : List α} {x : α} (h : l.getLast? = some x) : l = l.dropLast ++ [x] := by
  obtain ⟨ys, e⟩ := List.getLast?_eq_some_iff.mp h
  rw [e, List.dropLast_concat]
theorem item_wt {S S' : RS} {d : PyData} (h : itemS S d = some S') : wt S' ≤ wt S + 1 := by
  unfold itemS at h
  split at h
  · cases h
  · split at h
    · cases h
      unfold wt
      simp only [List.map_nil, List.sum_nil, List.length_append, List.length_cons, List.length_nil]
      omega
    · rename_i x e
      cases h
      have e2 := last_split e
      unfold wt
      rw [e2]
      simp only [List.dropLast_concat, List.map_append, List.map_cons, List.map_nil, List.sum_append, List.sum_cons, List.sum_nil, List.length_append, List.length_cons, List.length_nil]
      omega
theorem item_flat {S S' : RS} {d : PyData} (h : itemS S d = some S') (hf : flatRS S = true) (hd : flatD d = true) : flatRS S' = true := by
  unfold flatRS at hf ⊢
  rw [Bool.and_eq_true] at hf
  unfold itemS at h
  split at h
  · cases h
  · split at h
    · cases h
      rw [flatDs_app]
      simp only [List.all_nil, flatDs, hf.2, hd, Bool.and_self]
    · rename_i x e
      cases h
      have e2 := last_split e
      rw [e2, List.all_append] at hf
      have h1 := hf.1
      simp only [List.all_cons, List.all_nil, Bool.and_eq_true, Bool.and_true] at h1
      rw [List.all_append]
      simp only [List.all_cons, List.all_nil, flatDs_app, flatDs, h1.1, h1.2, hd, hf.2, Bool.and_self]
theorem open_wt {S S' : RS} (h : openS S = some S') : wt S' ≤ wt S + 1 := by
  unfold openS at h
  split at h
  · cases h
  · cases h
    unfold wt
    simp only [List.map_append, List.map_cons, List.map_nil, List.sum_append, List.sum_cons, List.sum_nil, List.length_nil]
    omega
theorem open_flat {S S' : RS} (h : openS S = some S') (hf : flatRS S = true) : flatRS S' = true := by
  unfold openS at h
  split at h
  · cases h
  · cases h
    unfold flatRS at hf ⊢
    simp only [List.all_append, List.all_cons, List.all_nil, flatDs, Bool.and_true] at hf ⊢
    exact hf
theorem close_wt {S S' : RS} (h : closeS S = some S') : wt S' ≤ wt S + 1 := by
  unfold closeS at h
  split at h
  · cases h
  · rename_i x e
    split at h
    · cases h
    · have h1 := item_wt h
      have e2 := last_split e
      refine Nat.le_trans h1 ?_
      unfold wt
      rw [e2]
      simp only [List.dropLast_concat, List.map_append, List.map_cons, List.map_nil, List.sum_append, List.sum_cons, List.sum_nil]
      omega
theorem close_flat {S S' : RS} (h : closeS S = some S') (hf : flatRS S = true) : flatRS S' = true := by
  unfold closeS at h
  split at h
  · cases h
  · rename_i x e
    split at h
    · cases h
    · have e2 := last_split e
      unfold flatRS at hf
      rw [Bool.and_eq_true, e2, List.all_append] at hf
      have h1 := hf.1
      simp only [List.all_cons, List.all_nil, Bool.and_eq_true, Bool.and_true] at h1
      refine item_flat h ?_ (by simpa only [flatD] using h1.2)
      unfold flatRS
      show (S.stack.dropLast.all flatDs && flatDs S.told) = true
      rw [h1.1, hf.2, Bool.and_self]
theorem comma_wt {S S' : RS} (h : commaS S = some S') : wt S' ≤ wt S + 1 := by
  unfold commaS at h
  split at h
  · cases h
  · cases h
    show (S.stack.map fun x => x.length + 1).sum + S.told.length ≤ (S.stack.map fun x => x.length + 1).sum + S.told.length + 1
    omega
theorem comma_flat {S S' : RS} (h : commaS S = some S') (hf : flatRS S = true) : flatRS S' = true := by
  unfold commaS at h
  split at h
  · cases h
  · cases h
    exact hf
theorem rdAtom_flat {l : T} {d : PyData} (h : rdAtom l = some d) : flatD d = true ∧ isTupD d = false := by
  unfold rdAtom at h
  repeat' split at h
  all_goals (first | (cases h; exact ⟨rfl, rfl⟩) | cases h)
theorem take_wt {S S' : RS} {p : T} (h : takeS S p = some S') : wt S' ≤ wt S + 1 := by
  unfold takeS at h
  split at h
  · exact open_wt h
  · split at h
    · exact close_wt h
    · split at h
      · exact comma_wt h
      · split at h
        · cases h
        · exact item_wt h
theorem take_flat {S S' : RS} {p : T} (h : takeS S p = some S') (hf : flatRS S = true) : flatRS S' = true := by
  unfold takeS at h
  split at h
  · exact open_flat h hf
  · split at h
    · exact close_flat h hf
    · split at h
      · exact comma_flat h hf
      · split at h
        · cases h
        · rename_i d e
          exact item_flat h hf (rdAtom_flat e).1
end M53

namespace M53
open PySem KX L2 TL NumText
/-! what a written text tells of its data -/
theorem join_comma (fs : List T) : Txt.join (tx [44]) (fs.map tx) = tx (comma fs) := by
  refine (tx_of _).symm.trans (congrArg tx ?_)
  rw [join_eq]
  have e := tl_join (tx [44]) (fs.map tx)
  have e0 : tl (tx [44]) = [44] := rfl
  rw [e0] at e
  refine Eq.trans e ?_
  have e1 : (fs.map tx).map tl = fs := by
    rw [List.map_map]
    exact (List.map_congr_left fun x _ => tx_list x).trans (List.map_id fs)
  rw [e1]
  clear e e0 e1
  induction fs with
  | nil => rfl
  | cons x r ih =>
    cases r with
    | nil => rfl
    | cons y r =>
      show x ++ ([44] ++ joinL [44] (y :: r)) = x ++ 44 :: comma (y :: r)
      rw [ih]
      rfl
theorem comma_len : ∀ ts : List T, (comma ts).length + (if ts = [] then 0 else 1) = (ts.map List.length).sum + ts.length
  | [] => rfl
  | [t] => by simp [comma]
  | t :: u :: ts => by
    have ih := comma_len (u :: ts)
    rw [if_neg (by simp)] at ih ⊢
    simp only [comma, List.length_append, List.length_cons, List.map_cons, List.sum_cons] at ih ⊢
    omega
theorem wr_tup {k : Nat} {ds : List PyData} {t : T} (h : wr k (.tuple ds) = some t) : ∃ k' ts, k = k' + 1 ∧ wrs k' ds = some ts ∧ t = 91 :: (comma ts ++ [93]) := by
  cases k with
  | zero => rw [wr_zero] at h; cases h
  | succ k =>
    rw [wr_succ, Option.map_eq_some_iff] at h
    obtain ⟨ts, h1, h2⟩ := h
    exact ⟨k, ts, rfl, h1, h2.symm⟩
theorem wrs_len : ∀ {k : Nat} {ds : List PyData} {ts : List T}, wrs k ds = some ts → ts.length = ds.length
  | k, [], ts, h => by
    rw [wrs_nil] at h
    cases h
    rfl
  | k, d :: ds, ts, h => by
    rw [wrs_cons] at h
    cases h1 : wr k d with
    | none => rw [h1] at h; cases h
    | some t =>
      cases h2 : wrs k ds with
      | none => rw [h1, h2] at h; cases h
      | some us =>
        rw [h1, h2] at h
        cases h
        simp only [List.length_cons, wrs_len h2]
theorem wrs_get : ∀ {k : Nat} {ds : List PyData} {ts : List T}, wrs k ds = some ts → ∀ (i : Nat) (d : PyData), ds[i]? = some d → ∃ t, ts[i]? = some t ∧ wr k d = some t
  | k, [], ts, h, i, d, e => by simp at e
  | k, d :: ds, ts, h, i, x, e => by
    rw [wrs_cons] at h
    cases h1 : wr k d with
    | none => rw [h1] at h; cases h
    | some t =>
      cases h2 : wrs k ds with
      | none => rw [h1, h2] at h; cases h
      | some us =>
        rw [h1, h2] at h
        cases h
        cases i with
        | zero => simp at e; subst e; exact ⟨t, rfl, h1⟩
        | succ i => exact wrs_get h2 i x (by simpa using e)
theorem sum_get {ts : List T} {t : T} (h : t ∈ ts) : t.length ≤ (ts.map List.length).sum := by
  induction ts with
  | nil => cases h
  | cons x r ih =>
    simp only [List.map_cons, List.sum_cons]
    rcases List.mem_cons.mp h with h | h
    · subst h; omega
    · have := ih h; omega
theorem numL_small {n : Nat} : ∀ c ∈ numL n, c < 128 := fun c hc => by
  have := numL_digits n c hc
  omega
theorem itxt_small {i : Int} : ∀ c ∈ itxt i, c < 128 := fun c hc => by
  unfold itxt at hc
  split at hc
  · rcases List.mem_cons.mp hc with h | h
    · omega
    · exact numL_small c h
  · exact numL_small c hc
theorem isWord_signs {l : T} (h : isWord l = true) : ∀ c ∈ l, wordc c = true := by
  unfold isWord at h
  simp only [Bool.and_eq_true] at h
  exact List.all_eq_true.mp h.2.2
theorem wordc_small {c : Nat} (h : wordc c = true) : c < 128 := by
  unfold wordc low dig at h
  simp only [Bool.or_eq_true, Bool.and_eq_true, decide_eq_true_eq] at h
  omega
theorem atom_str (s : Str) : atomT (.str s) = if s.cps.toList = [] then some [46] else if isWord s.cps.toList then some s.cps.toList else none := rfl
theorem atomT_small {d : PyData} {t : T} (h : atomT d = some t) : ∀ c ∈ t, c < 128 := by
  intro c hc
  cases d with
  | bool b =>
    cases b <;> (cases h; simp at hc; omega)
  | int i =>
    rw [atom_int] at h
    split at h
    · cases h
      exact itxt_small c hc
    · cases h
  | str s =>
    rw [atom_str] at h
    split at h
    · cases h
      rw [List.mem_singleton] at hc
      omega
    · split at h
      · rename_i hw
        cases h
        exact wordc_small (isWord_signs hw c hc)
      · cases h
  | none => cases h
  | list _ => cases h
  | tuple _ => cases h
  | dict _ => cases h
theorem comma_mem {c : Nat} : ∀ {ts : List T}, c ∈ comma ts → c = 44 ∨ ∃ t ∈ ts, c ∈ t
  | [], h => by cases h
  | [t], h => .inr ⟨t, by simp, h⟩
  | t :: u :: ts, h => by
    simp only [comma, List.mem_append, List.mem_cons] at h
    rcases h with h | h | h
    · exact .inr ⟨t, by simp, h⟩
    · exact .inl h
    · rcases comma_mem h with h | ⟨x, h1, h2⟩
      · exact .inl h
      · exact .inr ⟨x, by simp [List.mem_cons.mp h1], h2⟩
mutual
theorem wr_small : ∀ (d : PyData) {k : Nat} {t : T}, wr k d = some t → ∀ c ∈ t, c < 128
  | .tuple ds, k, t, h, c, hc => by
    obtain ⟨k', ts, rfl, h1, rfl⟩ := wr_tup h
    rcases List.mem_cons.mp hc with h | h
    · omega
    · rcases List.mem_append.mp h with h | h
      · rcases comma_mem h with h | ⟨t, h2, h3⟩
        · omega
        · exact wrs_small ds h1 t h2 c h3
      · rw [List.mem_singleton] at h
        omega
  | .none, k, t, h, c, hc => by rw [wr_atom rfl] at h; exact atomT_small h c hc
  | .bool _, k, t, h, c, hc => by rw [wr_atom rfl] at h; exact atomT_small h c hc
  | .int _, k, t, h, c, hc => by rw [wr_atom rfl] at h; exact atomT_small h c hc
  | .str _, k, t, h, c, hc => by rw [wr_atom rfl] at h; exact atomT_small h c hc
  | .list _, k, t, h, c, hc => by rw [wr_atom rfl] at h; exact atomT_small h c hc
  | .dict _, k, t, h, c, hc => by rw [wr_atom rfl] at h; exact atomT_small h c hc
theorem wrs_small : ∀ (ds : List PyData) {k : Nat} {ts : List T}, wrs k ds = some ts → ∀ t ∈ ts, ∀ c ∈ t, c < 128
  | [], k, ts, h, t, ht, c, hc => by
    rw [wrs_nil] at h
    cases h
    cases ht
  | d :: ds, k, ts, h, t, ht, c, hc => by
    rw [wrs_cons] at h
    cases h1 : wr k d with
    | none => rw [h1] at h; cases h
    | some u =>
      cases h2 : wrs k ds with
      | none => rw [h1, h2] at h; cases h
      | some us =>
        rw [h1, h2] at h
        cases h
        rcases List.mem_cons.mp ht with h | h
        · subst h; exact wr_small d h1 c hc
        · exact wrs_small ds h2 t h c hc
end
theorem wrs_flat {k : Nat} : ∀ {ds : List PyData} {ts : List T}, wrs k ds = some ts → ∀ d ∈ ds, ∃ t ∈ ts, wr k d = some t := fun {ds ts} h d hd => by
  obtain ⟨i, hi⟩ := List.mem_iff_getElem?.mp hd
  obtain ⟨t, h1, h2⟩ := wrs_get h i d hi
  exact ⟨t, List.mem_of_getElem? h1, h2⟩
end M53

namespace K53
open PySem PySem.Spec PyProof.Rows L2 KX
def top (i : Nat) : Stmt := PySem.Challenge.pw_forksalike_k53_whole_plain_data.main.body.getD i (.Pass ⟨0, 0, 0, 0⟩)
abbrev s_is_whole : Stmt := top 5
abbrev n_is_whole : List Str := ["value"]
theorem sc_is_whole : FnScope n_is_whole ["value"] (defScope s_is_whole) := ⟨rfl, rfl, rfl, by decide +kernel, rfl, by decide +kernel, by decide +kernel⟩
abbrev s_is_word : Stmt := top 12
abbrev n_is_word : List Str := ["value", "sign"]
theorem sc_is_word : FnScope n_is_word ["value"] (defScope s_is_word) := ⟨rfl, rfl, rfl, by decide +kernel, rfl, by decide +kernel, by decide +kernel⟩
abbrev s_is_short : Stmt := top 13
abbrev n_is_short : List Str := ["value", "most", "_"]
theorem sc_is_short : FnScope n_is_short ["value"] (defScope s_is_short) := ⟨rfl, rfl, rfl, by decide +kernel, rfl, by decide +kernel, by decide +kernel⟩
abbrev s_atom_text : Stmt := top 14
abbrev n_atom_text : List Str := ["value"]
theorem sc_atom_text : FnScope n_atom_text ["value"] (defScope s_atom_text) := ⟨rfl, rfl, rfl, by decide +kernel, rfl, by decide +kernel, by decide +kernel⟩
abbrev s_write_data : Stmt := top 15
abbrev n_write_data : List Str := ["data", "waiting", "found", "one", "depth", "k"]
theorem sc_write_data : FnScope n_write_data ["data"] (defScope s_write_data) := ⟨rfl, rfl, rfl, by decide +kernel, rfl, by decide +kernel, by decide +kernel⟩
abbrev s_read_whole : Stmt := top 16
abbrev n_read_whole : List Str := ["text", "body", "sign"]
theorem sc_read_whole : FnScope n_read_whole ["text"] (defScope s_read_whole) := ⟨rfl, rfl, rfl, by decide +kernel, rfl, by decide +kernel, by decide +kernel⟩
abbrev s_read_atom : Stmt := top 17
abbrev n_read_atom : List Str := ["piece"]
theorem sc_read_atom : FnScope n_read_atom ["piece"] (defScope s_read_atom) := ⟨rfl, rfl, rfl, by decide +kernel, rfl, by decide +kernel, by decide +kernel⟩
abbrev s_pieces_of : Stmt := top 18
abbrev n_pieces_of : List Str := ["text", "found", "start", "place", "sign"]
theorem sc_pieces_of : FnScope n_pieces_of ["text"] (defScope s_pieces_of) := ⟨rfl, rfl, rfl, by decide +kernel, rfl, by decide +kernel, by decide +kernel⟩
abbrev s_DataReader___init__ : Stmt := inClass (top 19) 0
abbrev n_DataReader___init__ : List Str := ["self"]
theorem sc_DataReader___init__ : FnScope n_DataReader___init__ ["self"] (defScope s_DataReader___init__) := ⟨rfl, rfl, rfl, by decide +kernel, rfl, by decide +kernel, by decide +kernel⟩
abbrev s_DataReader_item : Stmt := inClass (top 19) 1
abbrev n_DataReader_item : List Str := ["self", "value"]
theorem sc_DataReader_item : FnScope n_DataReader_item ["self", "value"] (defScope s_DataReader_item) := ⟨rfl, rfl, rfl, by decide +kernel, rfl, by decide +kernel, by decide +kernel⟩
abbrev s_DataReader_open_one : Stmt := inClass (top 19) 2
abbrev n_DataReader_open_one : List Str := ["self"]
theorem sc_DataReader_open_one : FnScope n_DataReader_open_one ["self"] (defScope s_DataReader_open_one) := ⟨rfl, rfl, rfl, by decide +kernel, rfl, by decide +kernel, by decide +kernel⟩
abbrev s_DataReader_close_one : Stmt := inClass (top 19) 3
abbrev n_DataReader_close_one : List Str := ["self", "found"]
theorem sc_DataReader_close_one : FnScope n_DataReader_close_one ["self"] (defScope s_DataReader_close_one) := ⟨rfl, rfl, rfl, by decide +kernel, rfl, by decide +kernel, by decide +kernel⟩
abbrev s_DataReader_comma : Stmt := inClass (top 19) 4
abbrev n_DataReader_comma : List Str := ["self"]
theorem sc_DataReader_comma : FnScope n_DataReader_comma ["self"] (defScope s_DataReader_comma) := ⟨rfl, rfl, rfl, by decide +kernel, rfl, by decide +kernel, by decide +kernel⟩
abbrev s_DataReader_take : Stmt := inClass (top 19) 5
abbrev n_DataReader_take : List Str := ["self", "piece"]
theorem sc_DataReader_take : FnScope n_DataReader_take ["self", "piece"] (defScope s_DataReader_take) := ⟨rfl, rfl, rfl, by decide +kernel, rfl, by decide +kernel, by decide +kernel⟩
abbrev s_read_data : Stmt := top 20
abbrev n_read_data : List Str := ["text", "reader", "piece"]
theorem sc_read_data : FnScope n_read_data ["text"] (defScope s_read_data) := ⟨rfl, rfl, rfl, by decide +kernel, rfl, by decide +kernel, by decide +kernel⟩
abbrev s__law_draw : Stmt := top 22
abbrev n__law_draw : List Str := ["script", "seed", "cell"]
theorem sc__law_draw : FnScope n__law_draw ["script"] (defScope s__law_draw) := ⟨rfl, rfl, rfl, by decide +kernel, rfl, by decide +kernel, by decide +kernel⟩
abbrev s__law_take : Stmt := top 23
abbrev n__law_take : List Str := ["draw", "many", "found"]
theorem sc__law_take : FnScope n__law_take ["draw", "many"] (defScope s__law_take) := ⟨rfl, rfl, rfl, by decide +kernel, rfl, by decide +kernel, by decide +kernel⟩
abbrev s__law_data : Stmt := top 24
abbrev n__law_data : List Str := ["draw", "deep", "k", "turn"]
theorem sc__law_data : FnScope n__law_data ["draw", "deep"] (defScope s__law_data) := ⟨rfl, rfl, rfl, by decide +kernel, rfl, by decide +kernel, by decide +kernel⟩
abbrev s__law_word : Stmt := top 25
abbrev n__law_word : List Str := ["value", "sign"]
theorem sc__law_word : FnScope n__law_word ["value"] (defScope s__law_word) := ⟨rfl, rfl, rfl, by decide +kernel, rfl, by decide +kernel, by decide +kernel⟩
abbrev s__law_written : Stmt := top 26
abbrev n__law_written : List Str := ["data", "parts", "item"]
theorem sc__law_written : FnScope n__law_written ["data"] (defScope s__law_written) := ⟨rfl, rfl, rfl, by decide +kernel, rfl, by decide +kernel, by decide +kernel⟩
abbrev s__law_number : Stmt := top 27
abbrev n__law_number : List Str := ["text", "body", "sign"]
theorem sc__law_number : FnScope n__law_number ["text"] (defScope s__law_number) := ⟨rfl, rfl, rfl, by decide +kernel, rfl, by decide +kernel, by decide +kernel⟩
abbrev s__law_read : Stmt := top 28
abbrev n__law_read : List Str := ["text", "rows", "done", "token", "ahead", "sign", "atom", "row"]
theorem sc__law_read : FnScope n__law_read ["text"] (defScope s__law_read) := ⟨rfl, rfl, rfl, by decide +kernel, rfl, by decide +kernel, by decide +kernel⟩
abbrev s__law_told : Stmt := top 29
abbrev n__law_told : List Str := ["which", "value"]
theorem sc__law_told : FnScope n__law_told ["which", "value"] (defScope s__law_told) := ⟨rfl, rfl, rfl, by decide +kernel, rfl, by decide +kernel, by decide +kernel⟩
abbrev s_law : Stmt := top 30
abbrev n_law : List Str := ["script", "draw", "turn", "data", "text", "again", "i", "sign", "other", "due", "bad", "long", "deep", "value"]
theorem sc_law : FnScope n_law ["script"] (defScope s_law) := ⟨rfl, rfl, rfl, by decide +kernel, rfl, by decide +kernel, by decide +kernel⟩
theorem lit_0 : Str.ofString "." = tx [46] := by decide +kernel
theorem lit_1 : Str.ofString "+" = tx [43] := by decide +kernel
theorem lit_2 : Str.ofString "-" = tx [45] := by decide +kernel
theorem lit_3 : Str.ofString "" = tx [] := by decide +kernel
theorem lit_4 : Str.ofString "[" = tx [91] := by decide +kernel
theorem lit_5 : Str.ofString "]" = tx [93] := by decide +kernel
theorem lit_6 : Str.ofString "," = tx [44] := by decide +kernel
theorem lit_7 : Str.ofString "0" = tx [48] := by decide +kernel
theorem lit_8 : Str.ofString "[]," = tx [91, 93, 44] := by decide +kernel
theorem lit_9 : Str.ofString "a23456789012" = tx [97, 50, 51, 52, 53, 54, 55, 56, 57, 48, 49, 50] := by decide +kernel
theorem lit_10 : Str.ofString "abz9" = tx [97, 98, 122, 57] := by decide +kernel
theorem lit_11 : Str.ofString "a" = tx [97] := by decide +kernel
theorem lit_12 : Str.ofString "z" = tx [122] := by decide +kernel
theorem lit_13 : Str.ofString "9" = tx [57] := by decide +kernel
theorem lit_14 : Str.ofString "True" = tx [84, 114, 117, 101] := by decide +kernel
theorem lit_15 : Str.ofString "False" = tx [70, 97, 108, 115, 101] := by decide +kernel
theorem lit_16 : Str.ofString "0123456789" = tx [48, 49, 50, 51, 52, 53, 54, 55, 56, 57] := by decide +kernel
theorem lit_17 : Str.ofString ";" = tx [59] := by decide +kernel
theorem lit_18 : Str.ofString "[],;" = tx [91, 93, 44, 59] := by decide +kernel
theorem lit_19 : Str.ofString "A" = tx [65] := by decide +kernel
theorem lit_20 : Str.ofString "a b" = tx [97, 32, 98] := by decide +kernel
theorem lit_21 : Str.ofString "9a" = tx [57, 97] := by decide +kernel
theorem lit_22 : Str.ofString "abcdefghijklm" = tx [97, 98, 99, 100, 101, 102, 103, 104, 105, 106, 107, 108, 109] := by decide +kernel
theorem lit_23 : Str.ofString "[],a0-1 A+." = tx [91, 93, 44, 97, 48, 45, 49, 32, 65, 43, 46] := by decide +kernel
theorem lit_24 : Str.ofString "[a][b]" = tx [91, 97, 93, 91, 98, 93] := by decide +kernel
theorem lit_25 : Str.ofString "a,b" = tx [97, 44, 98] := by decide +kernel
theorem lit_26 : Str.ofString "[a" = tx [91, 97] := by decide +kernel
/-- what the top has written -/
structure Txt (K : PySem.W.Frag) (mg : Str → Option Value) (CM : Addr) : Prop where
  x_Malformed : ExcAt K mg "Malformed" CM
  b_isinstance : mg "isinstance" = none
  b_int : mg "int" = none
  b_bool : mg "bool" = none
  b_str : mg "str" = none
  b_tuple : mg "tuple" = none
  b_len : mg "len" = none
  b_all : mg "all" = none
  b_any : mg "any" = none
  b_abs : mg "abs" = none
  b_range : mg "range" = none
  b_repr : mg "repr" = none
  b_enumerate : mg "enumerate" = none
  g_LETTERS : ∃ u, mg "LETTERS" = some u ∧ RelV (.str "abcdefghijklmnopqrstuvwxyz") u
  g_DIGITS : ∃ u, mg "DIGITS" = some u ∧ RelV (.str "0123456789") u
  g_MOST_WORD : ∃ u, mg "MOST_WORD" = some u ∧ RelV (.int 12) u
  g_MOST_DEPTH : ∃ u, mg "MOST_DEPTH" = some u ∧ RelV (.int 1000) u
  g_MOST_DIGITS : ∃ u, mg "MOST_DIGITS" = some u ∧ RelV (.int 4000) u
end K53

namespace K53
open PySem PySem.Spec PyProof.Rows L2 KX M53
local macro_rules | `(tactic| walk_at "kx1") => `(tactic| first
  | (with_reducible refine q_seq ?_) | (with_reducible refine q_ifs ?_) | (with_reducible refine q_asg ?_) | (with_reducible refine q_gname ?_) | (with_reducible refine q_ret ?_)
  | (with_reducible refine q_drop ?_) | (with_reducible refine q_next ?_) | (with_reducible refine q_par ?_) | (with_reducible refine q_sfld ?_) | (with_reducible refine q_rs ?_) | (with_reducible refine q_gsub ?_) | (with_reducible refine q_retN ?_)
  | ((with_reducible show tVar _ _ _ _); (refine q_var rfl ?_)) | (with_reducible refine q_c ?_) | (with_reducible refine q_op ?_) | (with_reducible refine q_un ?_) | (with_reducible refine q_neg ?_) | (with_reducible refine q_cb ?_)
  | (with_reducible refine q_nil ?_) | (with_reducible refine q_cons ?_) | (with_reducible refine q_tup ?_) | (with_reducible refine q_lst ?_) | (with_reducible refine q_if ?_)
  | (with_reducible refine q_notT ?_) | (with_reducible refine q_call ?_) | (with_reducible refine q_callS ?_) | (with_reducible refine q_fld ?_)
  | (with_reducible refine q_bm ?_) | (with_reducible refine q_bm0 ?_) | (with_reducible refine q_sl ?_) | (with_reducible refine q_nopart ?_) | (with_reducible refine q_part ?_) | (with_reducible refine q_meth ?_) | (with_reducible refine q_make ?_)
  | (with_reducible refine q_test ?_) | (with_reducible refine q_tB ?_) | (with_reducible refine q_tru ?_) | (with_reducible refine q_not ?_)
  | (with_reducible refine q_blk ?_) | (with_reducible refine q_tv ?_) | (with_reducible refine q_addI ?_) | (with_reducible refine q_subI ?_) | (with_reducible refine q_eqI ?_) | (with_reducible refine q_neI ?_)
  | (with_reducible refine q_for ?_) | (with_reducible refine q_lc ?_) | (with_reducible refine q_iList ?_) | (with_reducible refine q_iTup ?_) | (with_reducible refine q_iStr ?_) | (with_reducible refine q_iRng1 ?_) | (with_reducible refine q_iRng2 ?_) | (with_reducible refine q_iRng3 ?_) | (with_reducible refine q_gcons ?_) | (with_reducible refine q_gnil ?_) | (with_reducible refine q_yes ?_) | (with_reducible refine q_ltI ?_) | (with_reducible refine q_iEnumS ?_) | (with_reducible refine q_pi ?_) | (with_reducible refine q_leI ?_) | (with_reducible refine q_gtI ?_) | (with_reducible refine q_geI ?_) | (with_reducible refine q_leT ?_) | (with_reducible refine q_intI ?_) | (with_reducible refine q_abs ?_) | (with_reducible refine q_eqT ?_) | (with_reducible refine q_neT ?_) | (with_reducible refine q_par3 ?_) | (with_reducible refine q_isN ?_) | (with_reducible refine q_notN ?_))
local macro_rules | `(tactic| walk_at "kx") => `(tactic| repeat walk_at "kx1")
local macro_rules | `(tactic| walk_at "kxs") => `(tactic| repeat (first | walk_at "kx1" | (with_reducible refine q_andT ?_) | (with_reducible refine q_orT ?_) | (with_reducible refine q_chain ?_) | (with_reducible refine q_and ?_) | (with_reducible refine q_or ?_)))
local macro_rules | `(tactic| walk_at "lits") => `(tactic| simp only [lit_0, lit_1, lit_2, lit_3, lit_4, lit_5, lit_6, lit_7, lit_8, lit_9, lit_10, lit_11, lit_12, lit_13, lit_14, lit_15, lit_16, lit_17, lit_18, lit_19, lit_20, lit_21, lit_22, lit_23, lit_24, lit_25, lit_26])

section
variable {P : Program} {w : World} {K : PySem.W.Frag} {mg : Str → Option Value} {base : Heap} {CM : Addr}
def spIsWhole (K : PySem.W.Frag) : Sp := fun vs H Q _ => ∃ v d, vs = [v] ∧ Dp K H v d ∧ Q (.bl (isIntD d && !isBoolD d)) H
theorem ok_is_whole {f : Addr} {fd : FuncData} (D : DefAt K mg "is_whole" s_is_whole f fd ["value"]) (T : Txt K mg CM) : FnOk P w K mg base CX0 1 f fd ["value"] (spIsWhole K) := by
  refine D.fn.ok sc_is_whole (fun vs H Q E h => ?_) (fun cdv A outer s H vs Q E hr h => ?_)
  · obtain ⟨v, d, rfl, _⟩ := h
    rfl
  · obtain ⟨v, d, rfl, hd, q⟩ := h
    refine ⟨_, (pss_one (ps_ret (w_and (K := K) (pe_callB (w_isi (K := K)) rfl T.b_isinstance bb_isinstance (pa_cons (pv 0) (pa_cons (pe_bltn (v := V.ty "int") rfl T.b_int bb_int rfl) pa_nil))) (pe_one (w_not (K := K) (pe_callB (w_isi (K := K)) rfl T.b_isinstance bb_isinstance (pa_cons (pv 0) (pa_cons (pe_bltn (v := V.ty "bool") rfl T.b_bool bb_bool rfl) pa_nil)))))))), ?_⟩
    walk_at "kxs"
    refine is_int hd ?_
    walk_at "kxs"
    refine ifT (fun h1 => ?_) (fun h1 => ?_)
    · walk_at "kxs"
      refine is_bool hd ?_
      walk_at "kxs"
      rw [h1] at q
      exact q
    · rw [h1] at q ⊢
      exact q
def spIsWord (K : PySem.W.Frag) : Sp := fun vs H Q _ => ∃ v d, vs = [v] ∧ Dp K H v d ∧ (∀ s, d = .str s → s.length ≤ sizeLine) ∧ ∀ H', Ex H H' → Q (.bl (wordD d)) H'
theorem word_ev (K : PySem.W.Frag) (v : V) (c : Nat) (H : Hp) :
    Evl.Ev (tOrT K (tOp (rInU K) (tVar 1) (tC (V.str (Str.ofString "abcdefghijklmnopqrstuvwxyz")))) (tOp (rInU K) (tVar 1) (tC (V.str (Str.ofString "0123456789"))))) [some v, some (.str (tx [c]))] H (.bl (wordc c)) := by
  intro H1 e1 Q q
  have q0 := q H1 (Evl.Ex.refl H1)
  walk_at "kxs"
  refine q_inS (in_letters c) ?_
  walk_at "kxs"
  unfold wordc at q0
  refine ifT (fun h => ?_) (fun h => ?_)
  · rw [h] at q0 ⊢
    exact q0
  · walk_at "kxs"
    refine q_inS (in_digits c) ?_
    rw [h] at q0
    exact q0
theorem ok_is_word {f : Addr} {fd : FuncData} (D : DefAt K mg "is_word" s_is_word f fd ["value"]) (T : Txt K mg CM) : FnOk P w K mg base CX0 1 f fd ["value"] (spIsWord K) := by
  refine D.fn.ok sc_is_word (fun vs H Q E h => ?_) (fun cdv A outer s H vs Q E hr h => ?_)
  · obtain ⟨v, d, rfl, _⟩ := h
    rfl
  · obtain ⟨v, d, rfl, hd, hz, q⟩ := h
    have hu := u65 hr
    refine ⟨_, (pss_cons (ps_if (PW.pt (pw_or (pt_not (w_tru (K := K) (pe_callB (w_isi (K := K)) rfl T.b_isinstance bb_isinstance (pa_cons (pv 0) (pa_cons (pe_bltn (v := V.ty "str") rfl T.b_str bb_str rfl) pa_nil))))) (pw_or (pt_not (pt_chain k_le k_le pe_int (pe_callB (w_len (K := K)) rfl T.b_len bb_len (pa_cons (pv 0) pa_nil)) (k_glob rfl T.g_MOST_WORD))) (pw_or1 (pt_cmpR (w_notin (K := K) hu) (pe_ix (w_ix (K := K)) (pv 0) pe_int (fun _ _ => rfl)) (k_glob rfl T.g_LETTERS) (by rfl)))))) (pss_one (ps_ret pe_bl)) pss_nil)
      (pss_one (ps_ret (pe_callB (w_all (K := K) rfl) rfl T.b_all bb_all (pa_cons (pe_lc (own := [("sign", 1)]) rfl sc_is_word.nd (pi_str (pv 0)) (blkOk_by (N := n_is_word) (sc := defScope s_is_word) (by decide +kernel)) (fun _ _ _ _ _ => (pg_name (i := 1) sc_is_word.nd rfl (Or.inl rfl))) (fun _ _ _ _ _ => pts_nil) (fun _ _ _ _ _ => (w_or (K := K) (pe_cmpR (w_in (K := K) hu) (pv 1) (k_glob rfl T.g_LETTERS) (by rfl)) (pe_one (pe_cmpR (w_in (K := K) hu) (pv 1) (k_glob rfl T.g_DIGITS) (by rfl)))))) pa_nil))))), ?_⟩
    walk_at "kxs"
    refine is_str hd ?_
    walk_at "kxs"
    by_cases hs : ∃ s, d = .str s
    · obtain ⟨s0, rfl⟩ := hs
      cases hd
      obtain ⟨l, rfl⟩ : ∃ l, s0 = tx l := ⟨_, (tx_of s0).symm⟩
      have hl : l.length ≤ sizeLine := by rw [← tx_len]; exact hz _ rfl
      have ew : wordD (.str (tx l)) = isWord l := by simp only [wordD, tx_list]
      rw [ew] at q
      have no : isWord l = false → Q (.bl false) H := fun e => by rw [e] at q; exact q H (Evl.Ex.refl H)
      refine ifF rfl ?_
      walk_at "kxs"
      refine q_lenS hl ?_
      walk_at "kxs"
      refine ifT (fun h1 => ?_) (fun h1 => ?_)
      · walk_at "kxs"
        refine ifT (fun h2 => ?_) (fun h2 => ?_)
        · refine ifY rfl ?_
          walk_at "kxs"
          refine no ?_
          have h3 : decide (l.length ≤ 12) = false := by
            have := of_decide_eq_false (Bool.not_eq_true' _ |>.mp h2)
            exact decide_eq_false (by omega)
          unfold isWord
          rw [h3, Bool.and_false, Bool.false_and]
        · have h1' := of_decide_eq_true h1
          have h2' : l.length ≤ 12 := by
            have := of_decide_eq_true (by simpa using h2 : decide ((l.length : Int) ≤ 12) = true)
            omega
          obtain ⟨c, r, rfl⟩ : ∃ c r, l = c :: r := by
            cases l with
            | nil => simp at h1'
            | cons c r => exact ⟨c, r, rfl⟩
          have e0 : isWord (c :: r) = (low c && (c :: r).all wordc) := by
            unfold isWord
            rw [decide_eq_true h2', decide_eq_true (show 1 ≤ (c :: r).length by simp), Bool.and_self, Bool.true_and]
            rfl
          walk_at "kxs"
          refine q_ixS (i := 0) (c := c) hl rfl ?_
          walk_at "kxs"
          refine q_ninS (in_letters c) ?_
          walk_at "kxs"
          refine ifT (fun h3 => ?_) (fun h3 => ?_)
          · walk_at "kxs"
            refine no ?_
            rw [e0, (by simpa using h3 : low c = false), Bool.false_and]
          · walk_at "kxs"
            refine ⟨_, rfl, ?_⟩
            refine lc_str (by omega) (fun c => .bl (wordc c)) (fun _ => rfl) (fun c _ => word_ev K _ c H) (fun p H' hp he e => ?_)
            walk_at "kxs"
            refine q_all (bs := (c :: r).map wordc) (by rw [e, List.map_map]; rfl) ?_
            have e1 : ((c :: r).map wordc).all id = (c :: r).all wordc := by rw [List.all_map]; rfl
            rw [e1]
            rw [e0, (by simpa using h3 : low c = true), Bool.true_and] at q
            exact q H' he
      · walk_at "kxs"
        refine ifY rfl (ifY rfl ?_)
        walk_at "kxs"
        refine no ?_
        have h3 : decide (1 ≤ l.length) = false := by
          have := of_decide_eq_false h1
          exact decide_eq_false (by omega)
        unfold isWord
        rw [h3, Bool.false_and, Bool.false_and]
    · have e : isStrD d = false := by
        cases d with
        | str s => exact absurd ⟨s, rfl⟩ hs
        | _ => rfl
      have e2 : wordD d = false := by
        cases d with
        | str s => exact absurd ⟨s, rfl⟩ hs
        | _ => rfl
      refine ifY (by rw [e]; rfl) (ifY rfl ?_)
      walk_at "kxs"
      rw [e2] at q
      exact q H (Evl.Ex.refl H)
end
end K53

namespace K53
open PySem PySem.Spec PyProof.Rows L2 KX M53
local macro_rules | `(tactic| walk_at "kx1") => `(tactic| first
  | (with_reducible refine q_seq ?_) | (with_reducible refine q_ifs ?_) | (with_reducible refine q_asg ?_) | (with_reducible refine q_gname ?_) | (with_reducible refine q_ret ?_)
  | (with_reducible refine q_drop ?_) | (with_reducible refine q_next ?_) | (with_reducible refine q_par ?_) | (with_reducible refine q_sfld ?_) | (with_reducible refine q_rs ?_) | (with_reducible refine q_gsub ?_) | (with_reducible refine q_retN ?_)
  | ((with_reducible show tVar _ _ _ _); (refine q_var rfl ?_)) | (with_reducible refine q_c ?_) | (with_reducible refine q_op ?_) | (with_reducible refine q_un ?_) | (with_reducible refine q_neg ?_) | (with_reducible refine q_cb ?_)
  | (with_reducible refine q_nil ?_) | (with_reducible refine q_cons ?_) | (with_reducible refine q_tup ?_) | (with_reducible refine q_lst ?_) | (with_reducible refine q_if ?_)
  | (with_reducible refine q_notT ?_) | (with_reducible refine q_call ?_) | (with_reducible refine q_callS ?_) | (with_reducible refine q_fld ?_)
  | (with_reducible refine q_bm ?_) | (with_reducible refine q_bm0 ?_) | (with_reducible refine q_sl ?_) | (with_reducible refine q_nopart ?_) | (with_reducible refine q_part ?_) | (with_reducible refine q_meth ?_) | (with_reducible refine q_make ?_)
  | (with_reducible refine q_test ?_) | (with_reducible refine q_tB ?_) | (with_reducible refine q_tru ?_) | (with_reducible refine q_not ?_)
  | (with_reducible refine q_blk ?_) | (with_reducible refine q_tv ?_) | (with_reducible refine q_addI ?_) | (with_reducible refine q_subI ?_) | (with_reducible refine q_eqI ?_) | (with_reducible refine q_neI ?_)
  | (with_reducible refine q_for ?_) | (with_reducible refine q_lc ?_) | (with_reducible refine q_iList ?_) | (with_reducible refine q_iTup ?_) | (with_reducible refine q_iStr ?_) | (with_reducible refine q_iRng1 ?_) | (with_reducible refine q_iRng2 ?_) | (with_reducible refine q_iRng3 ?_) | (with_reducible refine q_gcons ?_) | (with_reducible refine q_gnil ?_) | (with_reducible refine q_yes ?_) | (with_reducible refine q_ltI ?_) | (with_reducible refine q_iEnumS ?_) | (with_reducible refine q_pi ?_) | (with_reducible refine q_leI ?_) | (with_reducible refine q_gtI ?_) | (with_reducible refine q_geI ?_) | (with_reducible refine q_leT ?_) | (with_reducible refine q_intI ?_) | (with_reducible refine q_abs ?_) | (with_reducible refine q_eqT ?_) | (with_reducible refine q_neT ?_) | (with_reducible refine q_par3 ?_) | (with_reducible refine q_isN ?_) | (with_reducible refine q_notN ?_))
local macro_rules | `(tactic| walk_at "kx") => `(tactic| repeat walk_at "kx1")
local macro_rules | `(tactic| walk_at "kxs") => `(tactic| repeat (first | walk_at "kx1" | (with_reducible refine q_andT ?_) | (with_reducible refine q_orT ?_) | (with_reducible refine q_chain ?_) | (with_reducible refine q_and ?_) | (with_reducible refine q_or ?_)))
local macro_rules | `(tactic| walk_at "lits") => `(tactic| simp only [lit_0, lit_1, lit_2, lit_3, lit_4, lit_5, lit_6, lit_7, lit_8, lit_9, lit_10, lit_11, lit_12, lit_13, lit_14, lit_15, lit_16, lit_17, lit_18, lit_19, lit_20, lit_21, lit_22, lit_23, lit_24, lit_25, lit_26])

section
variable {P : Program} {w : World} {K : PySem.W.Frag} {mg : Str → Option Value} {base : Heap} {CM : Addr}
theorem p10_lt (k : Nat) : (10 : Nat) ^ k < 2 ^ (4 * k + 1) := by
  have h : (10 : Nat) ^ k ≤ 16 ^ k := Nat.pow_le_pow_left (by decide) k
  have e : (16 : Nat) ^ k = 2 ^ (4 * k) := by rw [Nat.pow_mul]
  rw [e] at h
  exact Nat.lt_of_le_of_lt h (Nat.pow_lt_pow_right (by decide) (by omega))
theorem p10_log (k : Nat) : ((10 : Int) ^ k).natAbs.log2 < 4 * k + 1 := by
  have e : ((10 : Int) ^ k).natAbs = 10 ^ k := by rw [Int.natAbs_pow]; rfl
  rw [e]
  exact (Nat.log2_lt (Nat.ne_of_gt (Nat.pow_pos (by decide)))).mpr (p10_lt k)
theorem between (i : Int) (n : Nat) : (decide (-((n : Nat) : Int) < i) && decide (i < (n : Int))) = decide (i.natAbs < n) := by
  rw [← Bool.decide_and, decide_eq_decide]
  omega
theorem p10_cast (k : Nat) : ((10 : Int) ^ k) = (((10 : Nat) ^ k : Nat) : Int) := by rw [Int.natCast_pow]; rfl
def spIsShort (K : PySem.W.Frag) : Sp := fun vs H Q _ => ∃ v d, vs = [v] ∧ Dp K H v d ∧ Q (.bl (shortD d)) H
theorem ok_is_short {f g : Addr} {fd gd : FuncData} (D : DefAt K mg "is_short" s_is_short f fd ["value"]) (T : Txt K mg CM) (D_is_whole : DefAt K mg "is_whole" s_is_whole g gd ["value"]) :
    FnOk P w K mg base CX0 2 f fd ["value"] (spIsShort K) := by
  have G_is_whole : FnOk P w K mg base CX0 1 g gd ["value"] (spIsWhole K) := ok_is_whole D_is_whole T
  refine D.fn.ok sc_is_short (fun vs H Q E h => ?_) (fun cdv A outer s H vs Q E hr h => ?_)
  · obtain ⟨v, d, rfl, _⟩ := h
    rfl
  · obtain ⟨v, d, rfl, hd, q⟩ := h
    refine ⟨_, (pss_cons (ps_if (pt_not (w_tru (K := K) (pe_call G_is_whole (hr.mono (by decide)) rfl D_is_whole.g D_is_whole.kp D_is_whole.b .nil pass0 (pa_cons (pv 0) pa_nil)))) (pss_one (ps_ret pe_bl)) pss_nil)
      (pss_cons (ps_set (i := 1) sc_is_short.nd rfl (Or.inl rfl) (pe_op op_pow pe_int pe_int))
      (pss_cons (ps_if (pt_chain k_lt k_lt (pe_un un_neg (pv 1)) (pv 0) (pv 1)) (pss_one (ps_ret pe_bl)) pss_nil)
      (pss_cons (ps_for PassesOwn.never rfl (pi_range1 rfl T.b_range (pa_cons (pe_op op_sub (pe_op op_fdiv (k_glob rfl T.g_MOST_DIGITS) pe_int) pe_int) pa_nil)) (pg_name (i := 2) sc_is_short.nd rfl (Or.inl rfl)) (pss_one (ps_aug (i := 1) sc_is_short.nd rfl (Or.inl rfl) (pe_op op_pow pe_int pe_int) (pip_of k_imul))))
      (pss_one (ps_ret (pe_chain k_lt k_lt (pe_un un_neg (pv 1)) (pv 0) (pv 1)))))))), ?_⟩
    walk_at "kx"
    refine ⟨v, d, rfl, hd, ?_⟩
    walk_at "kx"
    by_cases hs : ∃ i, d = .int i
    · obtain ⟨i, rfl⟩ := hs
      cases hd
      refine ifF rfl ?_
      walk_at "kx"
      refine q_pow ⟨by decide, by decide, by decide⟩ ?_
      walk_at "kx"
      have pc : ∀ (k : Nat) (v2 : Option V) (H : Hp), Pu (tChain rLtU rLtU (tUn (rU fun i => V.int (-i)) (tVar 1)) (tVar 0) (tVar 1)) [some (.int i), some (.int ((10 : Int) ^ k)), v2] H (.bl (decide (i.natAbs < 10 ^ k))) := by
        intro k v2 H R q
        refine q_chainLt (i := -((10 : Int) ^ k)) (j := i) (k := (10 : Int) ^ k) (fun R q => ?_) (fun R q => ?_) (fun R q => ?_) ?_
        · walk_at "kx"
          exact q
        · walk_at "kx"
          exact q
        · walk_at "kx"
          exact q
        · rw [p10_cast, between]
          exact q
      refine pc 32 none H _ ?_
      walk_at "kx"
      have pin : ∀ k, k ≤ 4000 → i.natAbs < 10 ^ k → shortD (.int i) = true := fun k h1 h2 =>
        decide_eq_true (Nat.lt_of_lt_of_le h2 (Nat.pow_le_pow_right (by decide) h1))
      refine ifT (fun h1 => ?_) (fun h1 => ?_)
      · walk_at "kx"
        rw [pin 32 (by decide) (of_decide_eq_true h1)] at q
        exact q
      · walk_at "kx"
        refine q_fdiv (by decide) (by decide) ?_
        walk_at "kx"
        refine ⟨_, rfl, by decide, by decide, ?_⟩
        refine fo_range (fun n σ H' => H' = H ∧ ∃ v2, σ = [some (.int i), some (.int ((10 : Int) ^ (32 * (n + 1)))), v2]) ⟨rfl, none, rfl⟩ ?_ ?_
        · rintro n σ H' hn ⟨rfl, v2, rfl⟩
          have hn2 : n < 124 := hn
          walk_at "kx"
          refine q_aug rfl ?_
          walk_at "kx"
          refine q_pow ⟨by decide, by decide, by decide⟩ ?_
          refine .inr ⟨_, _, rfl, rfl, ?_, ?_⟩
          · have a1 := p10_log (32 * (n + 1))
            have a2 := p10_log 32
            show ((10 : Int) ^ (32 * (n + 1))).natAbs.log2 + ((10 : Int) ^ 32).natAbs.log2 < 1000000
            omega
          · refine ⟨rfl, some (.int (0 + (n : Nat))), ?_⟩
            have e : (10 : Int) ^ (32 * (n + 1)) * 10 ^ 32 = 10 ^ (32 * (n + 1 + 1)) := by rw [← Int.pow_add, ← Nat.mul_succ]
            show _ = [some (V.int i), some (V.int ((10 : Int) ^ (32 * (n + 1 + 1)))), some (.int (0 + (n : Nat)))]
            rw [← e]
            rfl
        · rintro σ H' ⟨rfl, v2, rfl⟩
          walk_at "kx"
          refine pc 4000 v2 _ _ ?_
          exact q
    · have e : (isIntD d && !isBoolD d) = false := by
        cases d with
        | int i => exact absurd ⟨i, rfl⟩ hs
        | _ => rfl
      have e2 : shortD d = false := by
        cases d with
        | int i => exact absurd ⟨i, rfl⟩ hs
        | _ => rfl
      refine ifY (by rw [e]; rfl) ?_
      walk_at "kx"
      rw [e2] at q
      exact q
end
end K53

namespace K53
open PySem PySem.Spec PyProof.Rows L2 KX M53
local macro_rules | `(tactic| walk_at "kx1") => `(tactic| first
  | (with_reducible refine q_seq ?_) | (with_reducible refine q_ifs ?_) | (with_reducible refine q_asg ?_) | (with_reducible refine q_gname ?_) | (with_reducible refine q_ret ?_)
  | (with_reducible refine q_drop ?_) | (with_reducible refine q_next ?_) | (with_reducible refine q_par ?_) | (with_reducible refine q_sfld ?_) | (with_reducible refine q_rs ?_) | (with_reducible refine q_gsub ?_) | (with_reducible refine q_retN ?_)
  | ((with_reducible show tVar _ _ _ _); (refine q_var rfl ?_)) | (with_reducible refine q_c ?_) | (with_reducible refine q_op ?_) | (with_reducible refine q_un ?_) | (with_reducible refine q_neg ?_) | (with_reducible refine q_cb ?_)
  | (with_reducible refine q_nil ?_) | (with_reducible refine q_cons ?_) | (with_reducible refine q_tup ?_) | (with_reducible refine q_lst ?_) | (with_reducible refine q_if ?_)
  | (with_reducible refine q_notT ?_) | (with_reducible refine q_call ?_) | (with_reducible refine q_callS ?_) | (with_reducible refine q_fld ?_)
  | (with_reducible refine q_bm ?_) | (with_reducible refine q_bm0 ?_) | (with_reducible refine q_sl ?_) | (with_reducible refine q_nopart ?_) | (with_reducible refine q_part ?_) | (with_reducible refine q_meth ?_) | (with_reducible refine q_make ?_)
  | (with_reducible refine q_test ?_) | (with_reducible refine q_tB ?_) | (with_reducible refine q_tru ?_) | (with_reducible refine q_not ?_)
  | (with_reducible refine q_blk ?_) | (with_reducible refine q_tv ?_) | (with_reducible refine q_addI ?_) | (with_reducible refine q_subI ?_) | (with_reducible refine q_eqI ?_) | (with_reducible refine q_neI ?_)
  | (with_reducible refine q_for ?_) | (with_reducible refine q_lc ?_) | (with_reducible refine q_iList ?_) | (with_reducible refine q_iTup ?_) | (with_reducible refine q_iStr ?_) | (with_reducible refine q_iRng1 ?_) | (with_reducible refine q_iRng2 ?_) | (with_reducible refine q_iRng3 ?_) | (with_reducible refine q_gcons ?_) | (with_reducible refine q_gnil ?_) | (with_reducible refine q_yes ?_) | (with_reducible refine q_ltI ?_) | (with_reducible refine q_iEnumS ?_) | (with_reducible refine q_pi ?_) | (with_reducible refine q_leI ?_) | (with_reducible refine q_gtI ?_) | (with_reducible refine q_geI ?_) | (with_reducible refine q_leT ?_) | (with_reducible refine q_intI ?_) | (with_reducible refine q_abs ?_) | (with_reducible refine q_eqT ?_) | (with_reducible refine q_neT ?_) | (with_reducible refine q_par3 ?_) | (with_reducible refine q_isN ?_) | (with_reducible refine q_notN ?_))
local macro_rules | `(tactic| walk_at "kx") => `(tactic| repeat walk_at "kx1")
local macro_rules | `(tactic| walk_at "kxs") => `(tactic| repeat (first | walk_at "kx1" | (with_reducible refine q_andT ?_) | (with_reducible refine q_orT ?_) | (with_reducible refine q_chain ?_) | (with_reducible refine q_and ?_) | (with_reducible refine q_or ?_)))
local macro_rules | `(tactic| walk_at "lits") => `(tactic| simp only [lit_0, lit_1, lit_2, lit_3, lit_4, lit_5, lit_6, lit_7, lit_8, lit_9, lit_10, lit_11, lit_12, lit_13, lit_14, lit_15, lit_16, lit_17, lit_18, lit_19, lit_20, lit_21, lit_22, lit_23, lit_24, lit_25, lit_26])

section
variable {P : Program} {w : World} {K : PySem.W.Frag} {mg : Str → Option Value} {base : Heap} {CM : Addr}
def spAtom (K : PySem.W.Frag) (CM : Addr) : Sp := fun vs H Q E => ∃ v d, vs = [v] ∧ Dp K H v d ∧ (∀ s, d = .str s → s.length ≤ sizeLine) ∧
  (∀ t, atomT d = some t → ∀ H', Ex H H' → Q (.str (tx t)) H') ∧ (atomT d = none → ∀ H', Ex H H' → E (.ref CM) none H')
theorem ok_atom_text {f f1 f2 f3 : Addr} {fd fd1 fd2 fd3 : FuncData} (D : DefAt K mg "atom_text" s_atom_text f fd ["value"]) (T : Txt K mg CM) (nd : base.NoDigits)
    (D_is_whole : DefAt K mg "is_whole" s_is_whole f1 fd1 ["value"]) (D_is_word : DefAt K mg "is_word" s_is_word f2 fd2 ["value"]) (D_is_short : DefAt K mg "is_short" s_is_short f3 fd3 ["value"]) :
    FnOk P w K mg base (L2.CX P w) 3 f fd ["value"] (spAtom K CM) := by
  have G_is_word : FnOk P w K mg base CX0 1 f2 fd2 ["value"] (spIsWord K) := ok_is_word D_is_word T
  have G_is_short : FnOk P w K mg base CX0 2 f3 fd3 ["value"] (spIsShort K) := ok_is_short D_is_short T D_is_whole
  refine D.fn.okX sc_atom_text (fun vs H Q E h => ?_) (fun cdv A outer s H vs Q E hr h => ?_)
  · obtain ⟨v, d, rfl, _⟩ := h
    rfl
  · obtain ⟨v, d, rfl, hd, hz, q, qE⟩ := h
    have hu := u65 hr
    have hr1 : Room 1 _ := hr.mono (by decide)
    refine ⟨_, (pss_cons (ps_if (w_tru (K := K) (pe_callB (w_isi (K := K)) rfl T.b_isinstance bb_isinstance (pa_cons (pv 0) (pa_cons (pe_bltn (v := V.ty "bool") rfl T.b_bool bb_bool rfl) pa_nil)))) (pss_one (ps_ret (pe_ifExp (w_tru (K := K) (pv 0)) pe_str pe_str))) pss_nil)
      (pss_cons (ps_if (PW.pt (pw_and (pt_not (w_tru (K := K) (pe_call G_is_word (hr.mono (by decide)) rfl D_is_word.g D_is_word.kp D_is_word.b .nil pass0 (pa_cons (pv 0) pa_nil)))) (pw_and (pt_not (w_tru (K := K) (pe_call G_is_short (hr.mono (by decide)) rfl D_is_short.g D_is_short.kp D_is_short.b .nil pass0 (pa_cons (pv 0) pa_nil)))) (pw_and1 (pt_not (PW.pt (pw_and (w_tru (K := K) (pe_callB (w_isi (K := K)) rfl T.b_isinstance bb_isinstance (pa_cons (pv 0) (pa_cons (pe_bltn (v := V.ty "str") rfl T.b_str bb_str rfl) pa_nil)))) (pw_and1 (pt_cmpR (w_eq (K := K) hu) (pv 0) pe_str (nomark _)))))))))) (pss_one (ps_rs rfl tkE T.x_Malformed)) pss_nil)
      (pss_one (ps_ret (pe_ifExp (pt_cmpR (w_ne (K := K) hu) (pv 0) pe_str (nomark _)) (pe_callTy (kx_str rfl nd) rfl T.b_str bb_str (pa_cons (pv 0) pa_nil)) pe_str))))), ?_⟩
    walk_at "lits"
    walk_at "kx"
    refine is_bool hd ?_
    walk_at "kx"
    by_cases hb : isBoolD d = true
    · cases d with
      | bool b =>
        cases hd
        refine ifY rfl ?_
        walk_at "kx"
        refine ifT (fun h1 => ?_) (fun h1 => ?_)
        · subst h1
          exact q _ rfl H (Evl.Ex.refl H)
        · subst h1
          exact q _ rfl H (Evl.Ex.refl H)
      | _ => cases hb
    · have hb' : isBoolD d = false := by simpa using hb
      refine ifF hb' ?_
      have rest : ∀ H1, Ex H H1 → (atomT d).isSome = true → tRet (tIf (tTest (tOp (rNeU K) (tVar 0) (tC (V.str (tx []))))) (tCB rStr (tCons (tVar 0) tNil)) (tC (V.str (tx [46]))))
          { nx := fun x H' => Q V.non H', rt := Q } (L2.start n_atom_text [v]) H1 := by
        intro H1 e1 hs
        cases d with
        | int i =>
          cases hd
          have hi : i.natAbs < 10 ^ 4000 := by
            by_cases h : i.natAbs < 10 ^ 4000
            · exact h
            · rw [atom_int, if_neg h] at hs
              cases hs
          have ha : atomT (.int i) = some (itxt i) := if_pos hi
          walk_at "kx"
          refine q_neNS ?_
          walk_at "kx"
          refine ifY rfl ?_
          walk_at "kx"
          refine .inl ⟨i, rfl, Nat.lt_of_lt_of_le hi (Nat.pow_le_pow_right (by decide) (by decide)), ?_⟩
          rw [tx_int]
          exact q _ ha H1 e1
        | str s0 =>
          cases hd
          obtain ⟨l, rfl⟩ : ∃ l, s0 = tx l := ⟨_, (tx_of s0).symm⟩
          have ha : atomT (.str (tx l)) = if l = [] then some [46] else if isWord l then some l else none := by simp only [atomT, tx_list]
          rw [ha] at hs q
          walk_at "kx"
          by_cases hl : l = []
          · subst hl
            refine ifF rfl ?_
            walk_at "kx"
            exact q _ rfl H1 e1
          · refine ifY (by rw [decide_eq_false hl]; rfl) ?_
            walk_at "kx"
            refine .inr (.inr ⟨tx l, rfl, ?_⟩)
            rw [if_neg hl] at hs q
            by_cases hw : isWord l = true
            · rw [if_pos hw] at q
              exact q _ rfl H1 e1
            · rw [if_neg hw] at hs
              cases hs
        | bool b => cases hb'
        | none => cases hs
        | list ds => cases hs
        | tuple ds => cases hs
        | dict ds => cases hs
      walk_at "kxs"
      refine ⟨v, d, rfl, hd, hz, fun H1 e1 => ?_⟩
      walk_at "kx"
      refine ifT (fun h1 => ?_) (fun h1 => ?_)
      · have hw : wordD d = false := by simpa using h1
        walk_at "kxs"
        refine ⟨v, d, rfl, dp_ex e1 hd, ?_⟩
        walk_at "kx"
        refine ifT (fun h2 => ?_) (fun h2 => ?_)
        · have hsh : shortD d = false := by simpa using h2
          walk_at "kxs"
          refine is_str (dp_ex e1 hd) ?_
          walk_at "kx"
          have bad : atomT d = none → E (.ref CM) none H1 := fun e => qE e H1 e1
          cases d with
          | str s0 =>
            cases hd
            obtain ⟨l, rfl⟩ : ∃ l, s0 = tx l := ⟨_, (tx_of s0).symm⟩
            have ha : atomT (.str (tx l)) = if l = [] then some [46] else if isWord l then some l else none := by simp only [atomT, tx_list]
            have hw' : isWord l = false := by simpa only [wordD, tx_list] using hw
            refine ifY rfl ?_
            walk_at "kx"
            by_cases hl : l = []
            · subst hl
              refine ifF rfl ?_
              exact rest H1 e1 (by rw [ha]; rfl)
            · refine ifY (by rw [decide_eq_false hl]; rfl) ?_
              exact bad (by rw [ha, if_neg hl, hw']; rfl)
          | int i =>
            refine ifF rfl (ifY rfl (bad ?_))
            have := of_decide_eq_false hsh
            exact if_neg this
          | bool b => cases hb'
          | none => exact ifF rfl (ifY rfl (bad rfl))
          | list ds => exact ifF rfl (ifY rfl (bad rfl))
          | tuple ds => exact ifF rfl (ifY rfl (bad rfl))
          | dict ds => exact ifF rfl (ifY rfl (bad rfl))
        · have hsh : shortD d = true := by simpa using h2
          refine ifF rfl ?_
          refine rest H1 e1 ?_
          cases d with
          | int i =>
            have := of_decide_eq_true hsh
            have e : atomT (.int i) = some (itxt i) := if_pos this
            rw [e]
            rfl
          | _ => cases hsh
      · have hw : wordD d = true := by simpa using h1
        refine ifF rfl ?_
        refine rest H1 e1 ?_
        cases d with
        | str s0 =>
          have e : atomT (.str s0) = if s0.cps.toList = [] then some [46] else if isWord s0.cps.toList then some s0.cps.toList else none := rfl
          have hw2 : isWord s0.cps.toList = true := hw
          rw [e, if_pos hw2]
          split <;> rfl
        | _ => cases hw
end
end K53

namespace K53
open PySem PySem.Spec PyProof.Rows L2 KX M53
local macro_rules | `(tactic| walk_at "kx1") => `(tactic| first
  | (with_reducible refine q_seq ?_) | (with_reducible refine q_ifs ?_) | (with_reducible refine q_asg ?_) | (with_reducible refine q_gname ?_) | (with_reducible refine q_ret ?_)
  | (with_reducible refine q_drop ?_) | (with_reducible refine q_next ?_) | (with_reducible refine q_par ?_) | (with_reducible refine q_sfld ?_) | (with_reducible refine q_rs ?_) | (with_reducible refine q_gsub ?_) | (with_reducible refine q_retN ?_)
  | ((with_reducible show tVar _ _ _ _); (refine q_var rfl ?_)) | (with_reducible refine q_c ?_) | (with_reducible refine q_op ?_) | (with_reducible refine q_un ?_) | (with_reducible refine q_neg ?_) | (with_reducible refine q_cb ?_)
  | (with_reducible refine q_nil ?_) | (with_reducible refine q_cons ?_) | (with_reducible refine q_tup ?_) | (with_reducible refine q_lst ?_) | (with_reducible refine q_if ?_)
  | (with_reducible refine q_notT ?_) | (with_reducible refine q_call ?_) | (with_reducible refine q_callS ?_) | (with_reducible refine q_fld ?_)
  | (with_reducible refine q_bm ?_) | (with_reducible refine q_bm0 ?_) | (with_reducible refine q_sl ?_) | (with_reducible refine q_nopart ?_) | (with_reducible refine q_part ?_) | (with_reducible refine q_meth ?_) | (with_reducible refine q_make ?_)
  | (with_reducible refine q_test ?_) | (with_reducible refine q_tB ?_) | (with_reducible refine q_tru ?_) | (with_reducible refine q_not ?_)
  | (with_reducible refine q_blk ?_) | (with_reducible refine q_tv ?_) | (with_reducible refine q_addI ?_) | (with_reducible refine q_subI ?_) | (with_reducible refine q_eqI ?_) | (with_reducible refine q_neI ?_)
  | (with_reducible refine q_for ?_) | (with_reducible refine q_lc ?_) | (with_reducible refine q_iList ?_) | (with_reducible refine q_iTup ?_) | (with_reducible refine q_iStr ?_) | (with_reducible refine q_iRng1 ?_) | (with_reducible refine q_iRng2 ?_) | (with_reducible refine q_iRng3 ?_) | (with_reducible refine q_gcons ?_) | (with_reducible refine q_gnil ?_) | (with_reducible refine q_yes ?_) | (with_reducible refine q_ltI ?_) | (with_reducible refine q_iEnumS ?_) | (with_reducible refine q_pi ?_) | (with_reducible refine q_leI ?_) | (with_reducible refine q_gtI ?_) | (with_reducible refine q_geI ?_) | (with_reducible refine q_leT ?_) | (with_reducible refine q_intI ?_) | (with_reducible refine q_abs ?_) | (with_reducible refine q_eqT ?_) | (with_reducible refine q_neT ?_) | (with_reducible refine q_par3 ?_) | (with_reducible refine q_isN ?_) | (with_reducible refine q_notN ?_))
local macro_rules | `(tactic| walk_at "kx") => `(tactic| repeat walk_at "kx1")
local macro_rules | `(tactic| walk_at "kxs") => `(tactic| repeat (first | walk_at "kx1" | (with_reducible refine q_andT ?_) | (with_reducible refine q_orT ?_) | (with_reducible refine q_chain ?_) | (with_reducible refine q_and ?_) | (with_reducible refine q_or ?_)))
local macro_rules | `(tactic| walk_at "lits") => `(tactic| simp only [lit_0, lit_1, lit_2, lit_3, lit_4, lit_5, lit_6, lit_7, lit_8, lit_9, lit_10, lit_11, lit_12, lit_13, lit_14, lit_15, lit_16, lit_17, lit_18, lit_19, lit_20, lit_21, lit_22, lit_23, lit_24, lit_25, lit_26])

/-! ### what waits -/
def ItemAt (K : PySem.W.Frag) (H0 H : Hp) (a : Addr) : Itm → Prop
  | .lit t => H a = some (.tup [.str (tx t), .int 0])
  | .dat d k => ∃ v, H a = some (.tup [v, .int (1001 - (k : Int))]) ∧ Dp K H0 v d ∧ k ≤ 1000 ∧ strOk d = true
def Items (K : PySem.W.Frag) (H0 H : Hp) : List Addr → List Itm → Prop
  | [], [] => True
  | a :: as, i :: is => ItemAt K H0 H a i ∧ Items K H0 H as is
  | _, _ => False
theorem ItemAt.kt {K : PySem.W.Frag} {H0 H H' : Hp} (k : Kt H H') {a : Addr} : ∀ {i : Itm}, ItemAt K H0 H a i → ItemAt K H0 H' a i
  | .lit t, h => k.1 _ _ h
  | .dat d n, ⟨v, h, r⟩ => ⟨v, k.1 _ _ h, r⟩
theorem Items.kt {K : PySem.W.Frag} {H0 H H' : Hp} (k : Kt H H') : ∀ {as : List Addr} {is : List Itm}, Items K H0 H as is → Items K H0 H' as is
  | [], [], _ => trivial
  | _ :: _, _ :: _, ⟨h, r⟩ => ⟨h.kt k, Items.kt k r⟩
  | [], _ :: _, h => h.elim
  | _ :: _, [], h => h.elim
theorem Items.app {K : PySem.W.Frag} {H0 H : Hp} : ∀ {as : List Addr} {is : List Itm} {a : Addr} {i : Itm}, Items K H0 H as is → ItemAt K H0 H a i → Items K H0 H (as ++ [a]) (is ++ [i])
  | [], [], _, _, _, h => ⟨h, trivial⟩
  | _ :: _, _ :: _, _, _, ⟨h, r⟩, h' => ⟨h, Items.app r h'⟩
  | [], _ :: _, _, _, h, _ => h.elim
  | _ :: _, [], _, _, h, _ => h.elim
theorem Items.last {K : PySem.W.Frag} {H0 H : Hp} : ∀ {bs : List Addr} {is : List Itm}, Items K H0 H bs is → bs ≠ [] → ∃ as a is0 i, bs = as ++ [a] ∧ is = is0 ++ [i] ∧ Items K H0 H as is0 ∧ ItemAt K H0 H a i
  | [], _, _, h => absurd rfl h
  | a :: as, [], h, _ => h.elim
  | [a], [i], ⟨h, _⟩, _ => ⟨[], a, [], i, rfl, rfl, trivial, h⟩
  | [a], i :: j :: is, ⟨_, h⟩, _ => h.elim
  | a :: b :: as, [i], ⟨_, h⟩, _ => h.elim
  | a :: b :: as, i :: j :: is, ⟨h, r⟩, _ => by
    obtain ⟨as', a', is', i', e1, e2, h1, h2⟩ := Items.last r (by simp)
    exact ⟨a :: as', a', i :: is', i', by rw [e1]; rfl, by rw [e2]; rfl, ⟨h, h1⟩, h2⟩
theorem Items.nil {K : PySem.W.Frag} {H0 H : Hp} : ∀ {is : List Itm}, Items K H0 H [] is → is = []
  | [], _ => rfl
  | _ :: _, h => h.elim
structure HInv (K : PySem.W.Frag) (H0 : Hp) (wl fl : Addr) (H : Hp) (bs : List Addr) (its : List Itm) (fs : List T) : Prop where
  ex : Ex H0 H
  nw : H0 wl = none
  nf : H0 fl = none
  ne : wl ≠ fl
  w : H wl = some (.lst (bs.map V.ref))
  f : H fl = some (.lst (fs.map fun t => V.str (tx t)))
  it : Items K H0 H bs its
section
variable {K : PySem.W.Frag} {H0 H : Hp} {wl fl : Addr} {bs : List Addr} {its : List Itm} {fs : List T}
theorem HInv.pop {a : Addr} {i : Itm} (I : HInv K H0 wl fl H (bs ++ [a]) (its ++ [i]) fs) (h : Items K H0 H bs its) : HInv K H0 wl fl (upd H wl (.lst (((bs ++ [a]).map V.ref).dropLast))) bs its fs :=
  ⟨Evl.Ex.mut I.ex I.nw, I.nw, I.nf, I.ne, by rw [upd_same, List.map_append]; simp, by rw [upd_ne I.ne.symm]; exact I.f, h.kt (Kt.upd I.w trivial)⟩
theorem HInv.found {t : T} (I : HInv K H0 wl fl H bs its fs) : HInv K H0 wl fl (upd H fl (.lst ((fs.map fun t => V.str (tx t)) ++ [.str (tx t)]))) bs its (fs ++ [t]) :=
  ⟨Evl.Ex.mut I.ex I.nf, I.nw, I.nf, I.ne, by rw [upd_ne I.ne]; exact I.w, by rw [upd_same, List.map_append]; rfl, I.it.kt (Kt.upd I.f trivial)⟩
theorem HInv.grow {H' : Hp} (I : HInv K H0 wl fl H bs its fs) (e : Ex H H') : HInv K H0 wl fl H' bs its fs :=
  ⟨I.ex.trans e, I.nw, I.nf, I.ne, e _ _ I.w, e _ _ I.f, I.it.kt (Kt.of_ex e)⟩
theorem HInv.push {p : Addr} {i : Itm} (I : HInv K H0 wl fl H bs its fs) (h : ItemAt K H0 H p i) : HInv K H0 wl fl (upd H wl (.lst (bs.map V.ref ++ [.ref p]))) (bs ++ [p]) (its ++ [i]) fs :=
  ⟨Evl.Ex.mut I.ex I.nw, I.nw, I.nf, I.ne, by rw [upd_same, List.map_append]; rfl, by rw [upd_ne I.ne.symm]; exact I.f, Items.app (I.it.kt (Kt.upd I.w trivial)) (h.kt (Kt.upd I.w trivial))⟩
theorem Items.len : ∀ {as : List Addr} {is : List Itm}, Items K H0 H as is → as.length = is.length
  | [], [], _ => rfl
  | _ :: _, _ :: _, ⟨_, r⟩ => by simp [Items.len r]
  | [], _ :: _, h => h.elim
  | _ :: _, [], h => h.elim
theorem HInv.len (I : HInv K H0 wl fl H bs its fs) : bs.length ≤ msum its := by
  rw [I.it.len]
  clear I
  induction its with
  | nil => exact Nat.le_refl _
  | cons i r ih =>
    cases i with
    | lit t => simp only [List.length_cons, msum]; omega
    | dat d k => have := sz_pos d; simp only [List.length_cons, msum]; omega
/-- what the texts come to, and how much may still come -/
def TInv (d0 : PyData) (its : List Itm) (fs : List T) : Prop := (W its.reverse).map (fs.flatten ++ ·) = wr 1000 d0 ∧ fs.length + msum its ≤ sz d0
theorem TInv.lit {d0 : PyData} {its : List Itm} {fs : List T} {t : T} (h : TInv d0 (its ++ [.lit t]) fs) : TInv d0 its (fs ++ [t]) := by
  obtain ⟨h1, h2⟩ := h
  rw [List.reverse_append] at h1
  refine ⟨?_, by rw [msum_app] at h2; simp only [List.length_append, List.length_cons, List.length_nil, msum] at h2 ⊢; omega⟩
  rw [← h1]
  show _ = (W (.lit t :: its.reverse)).map _
  rw [W_lit]
  cases W its.reverse with
  | none => rfl
  | some x => simp
theorem TInv.atom {d0 d : PyData} {k : Nat} {its : List Itm} {fs : List T} {t : T} (h : TInv d0 (its ++ [.dat d k]) fs) (e : wr k d = some t) : TInv d0 its (fs ++ [t]) := by
  obtain ⟨h1, h2⟩ := h
  rw [List.reverse_append] at h1
  have := sz_pos d
  refine ⟨?_, by rw [msum_app] at h2; simp only [List.length_append, List.length_cons, List.length_nil, msum] at h2 ⊢; omega⟩
  rw [← h1]
  show _ = (W (.dat d k :: its.reverse)).map _
  rw [W_dat, e]
  cases W its.reverse with
  | none => rfl
  | some x => simp
theorem TInv.bad {d0 d : PyData} {k : Nat} {its : List Itm} {fs : List T} (h : TInv d0 (its ++ [.dat d k]) fs) (e : wr k d = none) : wr 1000 d0 = none := by
  obtain ⟨h1, h2⟩ := h
  rw [List.reverse_append] at h1
  rw [← h1]
  show (W (.dat d k :: its.reverse)).map _ = none
  rw [W_dat, e]
  rfl
theorem TInv.tuple {d0 : PyData} {ds : List PyData} {k : Nat} {its : List Itm} {fs : List T} (h : TInv d0 (its ++ [.dat (.tuple ds) (k + 1)]) fs) : TInv d0 (its ++ (.lit [93] :: (expd k ds).reverse)) (fs ++ [[91]]) := by
  obtain ⟨h1, h2⟩ := h
  rw [List.reverse_append] at h1
  have e := msum_expd k ds
  have er : msum (expd k ds).reverse = msum (expd k ds) := by
    have g : ∀ l : List Itm, msum l.reverse = msum l := by
      intro l
      induction l with
      | nil => rfl
      | cons i r ih =>
        rw [List.reverse_cons, msum_app, ih]
        cases i <;> simp only [msum] <;> omega
    exact g _
  refine ⟨?_, ?_⟩
  · rw [← h1]
    show _ = (W (.dat (.tuple ds) (k + 1) :: its.reverse)).map _
    rw [W_tuple]
    have e2 : (its ++ (Itm.lit [93] :: (expd k ds).reverse)).reverse = expd k ds ++ .lit [93] :: its.reverse := by simp
    rw [e2]
    cases W (expd k ds ++ .lit [93] :: its.reverse) with
    | none => rfl
    | some x => simp
  · rw [msum_app] at h2 ⊢
    simp only [List.length_append, List.length_cons, List.length_nil, msum, sz] at h2 ⊢
    rw [er]
    omega
end
section
variable {P : Program} {w : World} {K : PySem.W.Frag} {mg : Str → Option Value} {base : Heap} {CM : Addr}
def spWrite (K : PySem.W.Frag) (CM : Addr) : Sp := fun vs H Q E => ∃ v d, vs = [v] ∧ Dp K H v d ∧ strOk d = true ∧ sz d ≤ 1000000 ∧
  (∀ t, wr 1000 d = some t → t.length ≤ 16777216 ∧ ∀ H', Ex H H' → Q (.str (tx t)) H') ∧ (wr 1000 d = none → ∀ H', Ex H H' → E (.ref CM) none H')
theorem ok_write_data {f f0 f1 f2 f3 : Addr} {fd fd0 fd1 fd2 fd3 : FuncData} (D : DefAt K mg "write_data" s_write_data f fd ["data"]) (T : Txt K mg CM) (nd : base.NoDigits) (D_atom_text : DefAt K mg "atom_text" s_atom_text f0 fd0 ["value"])
    (D_is_whole : DefAt K mg "is_whole" s_is_whole f1 fd1 ["value"]) (D_is_word : DefAt K mg "is_word" s_is_word f2 fd2 ["value"]) (D_is_short : DefAt K mg "is_short" s_is_short f3 fd3 ["value"]) :
    FnOk P w K mg base (L2.CX P w) 4 f fd ["data"] (spWrite K CM) := by
  have G_atom_text : FnOk P w K mg base (L2.CX P w) 3 f0 fd0 ["value"] (spAtom K CM) := ok_atom_text D_atom_text T nd D_is_whole D_is_word D_is_short
  refine D.fn.okX sc_write_data (fun vs H Q E h => ?_) (fun cdv A outer s H vs Q E hr h => ?_)
  · obtain ⟨v, d, rfl, _⟩ := h
    rfl
  · obtain ⟨v, d, rfl, hd, hso, hsz, q, qE⟩ := h
    have hu := u65 hr
    refine ⟨_, (pss_cons (ps_par (i := 1) (j := 2) rfl sc_write_data.nd rfl rfl (by decide) rfl rfl (pa_cons (pe_lst (pa_cons (pe_tup (pa_cons (pv 0) (pa_cons pe_int pa_nil))) pa_nil)) (pa_cons (pe_lst pa_nil) pa_nil)) (by rfl))
      (pss_cons (ps_while (passes_of rfl) (pt_cmpR k_gt (pe_callB (w_len (K := K)) rfl T.b_len bb_len (pa_cons (pv 1) pa_nil)) pe_int (nomark _)) (pss_cons (ps_asg (w_bm0 (K := K) PySem.F.plainAttrs_list PySem.F.slot_list_pop PySem.F.type_list_pop mt_pop (pv 1)) (w_gtup (K := K) (n := 2) rfl (pgs_cons (pg_name (i := 3) sc_write_data.nd rfl (Or.inl rfl)) (pgs_cons (pg_name (i := 4) sc_write_data.nd rfl (Or.inl rfl)) pgs_nil))))
      (pss_one (ps_if (pt_cmpR (w_eq (K := K) hu) (pv 4) pe_int (nomark _)) (pss_one (ps_expr (wk_bm (K := K) (pe_bm PySem.F.plainAttrs_list PySem.F.slot_list_append PySem.F.type_list_append mt_append (pv 2) (pa_cons (pv 3) pa_nil))))) (pss_one (ps_if (PW.pt (pw_and (w_tru (K := K) (pe_callB (w_isi (K := K)) rfl T.b_isinstance bb_isinstance (pa_cons (pv 3) (pa_cons (pe_bltn (v := V.ty "tuple") rfl T.b_tuple bb_tuple rfl) pa_nil)))) (pw_and1 (pt_cmpR k_le (pv 4) (k_glob rfl T.g_MOST_DEPTH) (nomark _))))) (pss_cons (ps_expr (wk_bm (K := K) (pe_bm PySem.F.plainAttrs_list PySem.F.slot_list_append PySem.F.type_list_append mt_append (pv 2) (pa_cons pe_str pa_nil))))
      (pss_cons (ps_expr (wk_bm (K := K) (pe_bm PySem.F.plainAttrs_list PySem.F.slot_list_append PySem.F.type_list_append mt_append (pv 1) (pa_cons (pe_tup (pa_cons pe_str (pa_cons pe_int pa_nil))) pa_nil))))
      (pss_one (ps_for (passes_of rfl) rfl (pi_range3 rfl T.b_range (pa_cons (pe_op op_sub (pe_callB (w_len (K := K)) rfl T.b_len bb_len (pa_cons (pv 3) pa_nil)) pe_int) (pa_cons (pe_un un_neg pe_int) (pa_cons (pe_un un_neg pe_int) pa_nil)))) (pg_name (i := 5) sc_write_data.nd rfl (Or.inl rfl)) (pss_cons (ps_expr (wk_bm (K := K) (pe_bm PySem.F.plainAttrs_list PySem.F.slot_list_append PySem.F.type_list_append mt_append (pv 1) (pa_cons (pe_tup (pa_cons (pe_ix (w_ix (K := K)) (pv 3) (pv 5) (fun _ _ => rfl)) (pa_cons (pe_op (w_add (K := K)) (pv 4) pe_int) pa_nil))) pa_nil))))
      (pss_one (ps_if (pt_cmpR k_gt (pv 5) pe_int (nomark _)) (pss_one (ps_expr (wk_bm (K := K) (pe_bm PySem.F.plainAttrs_list PySem.F.slot_list_append PySem.F.type_list_append mt_append (pv 1) (pa_cons (pe_tup (pa_cons pe_str (pa_cons pe_int pa_nil))) pa_nil))))) pss_nil))))))) (pss_one (ps_expr (wk_bm (K := K) (pe_bm PySem.F.plainAttrs_list PySem.F.slot_list_append PySem.F.type_list_append mt_append (pv 2) (pa_cons (pe_call G_atom_text (hr.mono (by decide)) rfl D_atom_text.g D_atom_text.kp D_atom_text.b .nil passT (pa_cons (pv 3) pa_nil)) pa_nil)))))))))))
      (pss_one (ps_ret (wk_bm (K := K) (pe_bm PySem.F.plainAttrs_str PySem.F.slot_str_join PySem.F.type_str_join (w_join (K := K)) pe_str (pa_cons (pv 2) pa_nil))))))), ?_⟩
    walk_at "lits"
    walk_at "kx"
    refine ⟨sml rfl, fun p np => ?_⟩
    walk_at "kx"
    refine ⟨sml rfl, fun wl nwl => ?_⟩
    walk_at "kx"
    refine ⟨sml rfl, fun fl nfl => ?_⟩
    walk_at "kx"
    refine ⟨_, _, rfl, ?_⟩
    walk_at "kx"
    refine q_while (fun m σ H' => ∃ bs its fs o3 o4 o5, σ = [some v, some (.ref wl), some (.ref fl), o3, o4, o5] ∧ HInv K H wl fl H' bs its fs ∧ TInv d its fs ∧ m = msum its) (sz d)
      ⟨[p], [.dat d 1000], [], none, none, none, rfl, ?_, ⟨?_, Nat.le_of_eq (Nat.zero_add _)⟩, rfl⟩ ?_
    · have x1 : Ex H (upd H p (.tup [v, .int 1])) := Evl.Ex.new np
      have x2 := x1.trans (Evl.Ex.new nwl (o := .lst [V.ref p]))
      have x3 := x2.trans (Evl.Ex.new nfl (o := .lst []))
      have ne : wl ≠ fl := ne_of_none (upd_same) nfl
      have npw : p ≠ wl := ne_of_none (upd_same) nwl
      have npf : p ≠ fl := ne_of_none (by rw [upd_ne npw]; exact upd_same) nfl
      exact ⟨x3, Evl.fresh_back x1 nwl, Evl.fresh_back x2 nfl, ne, by rw [upd_ne ne]; exact upd_same, upd_same, ⟨⟨v, by rw [upd_ne npf, upd_ne npw]; exact upd_same, hd, by decide, hso⟩, trivial⟩⟩
    · show (W [.dat d 1000]).map _ = _
      rw [W_dat]
      cases wr 1000 d with
      | none => rfl
      | some t => show some ([] ++ (t ++ [])) = some t; simp
    · rintro m σ H' ⟨bs, its, fs, o3, o4, o5, rfl, I, T1, rfl⟩
      have hfs : fs.length < sizeLine := by have := T1.2; have := sizeLine_eq; omega
      walk_at "kx"
      refine q_lenL (SqL.of I.w) ?_
      walk_at "kx"
      refine ifT (fun h1 => ?_) (fun h1 => ?_)
      · refine ⟨_, fun σ' H' h => h, ?_⟩
        have hbs : bs ≠ [] := by
          rintro rfl
          simp at h1
        obtain ⟨bs, a, its, i, rfl, rfl, hi, ha⟩ := I.it.last hbs
        walk_at "kx"
        refine ⟨ty_lst I.w, ?_⟩
        refine q_pop I.w (y := .ref a) (by simp) ?_
        have I2 := I.pop hi
        have ha2 := ha.kt (Kt.upd I.w trivial : Kt H' (upd H' wl (.lst (((bs ++ [a]).map V.ref).dropLast))))
        generalize upd H' wl (.lst (((bs ++ [a]).map V.ref).dropLast)) = H2 at I2 ha2
        refine q_gtup ?_
        cases i with
        | lit t =>
          refine ⟨a, _, rfl, SqT.of ha2, rfl, ?_⟩
          walk_at "kx"
          refine ifY rfl ?_
          walk_at "kx"
          refine ⟨ty_lst I2.f, ?_⟩
          walk_at "kx"
          refine q_app I2.f (by rw [List.length_map]; exact hfs) ?_
          exact ⟨msum its, by rw [msum_app]; simp only [msum]; omega, bs, its, fs ++ [t], _, _, _, rfl, I2.found, T1.lit, rfl⟩
        | dat d2 k =>
          obtain ⟨v2, ha2, hd2, hk, hs2⟩ := ha2
          have hlt : msum its < msum (its ++ [.dat d2 k]) := by
            have := sz_pos d2
            rw [msum_app]
            simp only [msum]
            omega
          refine ⟨a, _, rfl, SqT.of ha2, rfl, ?_⟩
          walk_at "kx"
          refine ifF (decide_eq_false (by omega)) ?_
          walk_at "kx"
          refine q_andB (a := isTupD d2) (b := decide ((1001 - (k : Int)) ≤ 1000)) (fun R q => ?_) (fun _ R q => ?_) ?_
          · walk_at "kx"
            refine is_tup (dp_ex I2.ex hd2) ?_
            walk_at "kx"
            exact q
          · walk_at "kx"
            exact q
          refine ifT (fun h2 => ?_) (fun h2 => ?_)
          · rw [Bool.and_eq_true] at h2
            obtain ⟨h2, h3⟩ := h2
            have hk1 := of_decide_eq_true h3
            cases d2 with
            | tuple ds =>
              obtain ⟨k, rfl⟩ : ∃ k', k = k' + 1 := ⟨k - 1, by omega⟩
              cases hd2 with
              | tup hs hall =>
                rename_i a2 vs
                have hvl := dpa_len hall
                have hsos := strOk_tup hs2
                have hm := msum_expd k ds
                have hsz2 : szs ds ≤ 1000000 := by
                  have t2 := T1.2
                  rw [msum_app] at t2
                  simp only [msum, sz] at t2
                  omega
                have hdl := szs_len ds
                walk_at "kx"
                refine ⟨ty_lst I2.f, ?_⟩
                walk_at "kx"
                refine q_app I2.f (by rw [List.length_map]; exact hfs) ?_
                have I3 := I2.found (t := [91])
                generalize upd H2 fl _ = H3 at I3
                walk_at "kx"
                refine ⟨ty_lst I3.w, ?_⟩
                walk_at "kx"
                refine ⟨sml rfl, fun p np => ?_⟩
                have I4 := I3.grow (Evl.Ex.new np (o := .tup [V.str (tx [93]), V.int 0]))
                have hb4 := I4.len
                have hsl := sizeLine_eq
                have t2 := T1.2
                rw [msum_app] at t2
                simp only [msum, M53.sz] at t2
                walk_at "kx"
                refine q_app I4.w (by rw [List.length_map]; omega) ?_
                have I5 := I4.push (i := .lit [93]) upd_same
                generalize upd (upd H3 p _) wl _ = H5 at I5
                walk_at "kx"
                refine q_lenT (Evl.ex_t I5.ex hs) ?_
                walk_at "kx"
                have rg := RgC.neg (i := ((vs.length : Nat) : Int) - 1) (j := -1) (by omega) (by omega) (by decide) (by decide)
                have en : (((vs.length : Nat) : Int) - 1 - -1).toNat = ds.length := by omega
                rw [en] at rg
                refine ⟨_, _, _, _, rfl, rg, ?_⟩
                refine fo_rangeC (fun j σ H' => ∃ bs' o5, σ = [some v, some (.ref wl), some (.ref fl), some (.ref a2), some (.int (1001 - ((k + 1 : Nat) : Int))), o5] ∧ HInv K H wl fl H' bs' (its ++ (.lit [93] :: (preL k ds j).reverse)) (fs ++ [[91]]))
                  ⟨_, o5, rfl, by rw [preL_zero]; exact I5⟩ ?_ ?_
                · rintro j σ H' hj ⟨bs', o5, rfl, J⟩
                  have ei : (((vs.length : Nat) : Int) - 1 + (j : Nat) * -1) = ((ds.length - 1 - j : Nat) : Int) := by omega
                  rw [ei]
                  obtain ⟨d3, hd3⟩ : ∃ d3, ds[ds.length - 1 - j]? = some d3 := ⟨ds[ds.length - 1 - j], List.getElem?_eq_getElem (by omega)⟩
                  obtain ⟨v3, hv3, hdp3⟩ := dpa_get hall hd3
                  have est := preL_step k ds j d3 hj hd3
                  walk_at "kx"
                  refine ⟨ty_lst J.w, ?_⟩
                  walk_at "kx"
                  refine q_ixT (Evl.ex_t J.ex hs) hv3 ?_
                  walk_at "kx"
                  refine ⟨sml rfl, fun p np => ?_⟩
                  have ed : (1001 - ((k + 1 : Nat) : Int) + 1) = 1001 - (k : Int) := by omega
                  rw [ed]
                  have J4 := J.grow (Evl.Ex.new np (o := .tup [v3, V.int (1001 - (k : Int))]))
                  have hJ := J4.len
                  rw [msum_app] at hJ
                  simp only [msum] at hJ
                  rw [msum_rev] at hJ
                  have hmj := preL_msum k ds j (by omega)
                  walk_at "kx"
                  refine q_app J4.w (by rw [List.length_map]; omega) ?_
                  have J5 := J4.push (i := .dat d3 k) ⟨v3, upd_same, hdp3, by omega, strOks_get hsos hd3⟩
                  generalize upd (upd H' p _) wl _ = H6 at J5
                  walk_at "kx"
                  refine ifT (fun h4 => ?_) (fun h4 => ?_)
                  · have h4' := of_decide_eq_true h4
                    walk_at "kx"
                    refine ⟨ty_lst J5.w, ?_⟩
                    walk_at "kx"
                    refine ⟨sml rfl, fun p2 np2 => ?_⟩
                    have J6 := J5.grow (Evl.Ex.new np2 (o := .tup [V.str (tx [44]), V.int 0]))
                    walk_at "kx"
                    refine q_app J6.w (by rw [List.length_map]; simp only [List.length_append, List.length_cons, List.length_nil]; omega) ?_
                    have J7 := J6.push (i := .lit [44]) upd_same
                    refine ⟨bs' ++ [p] ++ [p2], _, rfl, ?_⟩
                    have el : its ++ Itm.lit [93] :: (preL k ds j).reverse ++ [Itm.dat d3 k] ++ [Itm.lit [44]] = its ++ Itm.lit [93] :: (preL k ds (j + 1)).reverse := by
                      rw [est, if_pos (by omega)]
                      simp
                    rw [← el]
                    exact J7
                  · have h4' := of_decide_eq_false h4
                    walk_at "kx"
                    refine ⟨bs' ++ [p], _, rfl, ?_⟩
                    have el : its ++ Itm.lit [93] :: (preL k ds j).reverse ++ [Itm.dat d3 k] = its ++ Itm.lit [93] :: (preL k ds (j + 1)).reverse := by
                      rw [est, if_neg (by omega)]
                      simp
                    rw [← el]
                    exact J5
                · rintro σ H' ⟨bs', o5, rfl, J⟩
                  rw [preL_all] at J
                  refine ⟨_, ?_, bs', _, _, _, _, _, rfl, J, T1.tuple, rfl⟩
                  rw [msum_app, msum_app]
                  simp only [msum, M53.sz]
                  rw [msum_rev]
                  split at hm <;> omega
            | _ => cases h2
          · have ew : wr k d2 = atomT d2 := by
              by_cases ht : isTupD d2 = true
              · cases d2 with
                | tuple ds =>
                  rw [ht, Bool.true_and] at h2
                  have h3 := of_decide_eq_false h2
                  have : k = 0 := by omega
                  subst this
                  exact wr_zero ds
                | _ => cases ht
              · exact wr_atom (by simpa using ht)
            walk_at "kx"
            refine ⟨ty_lst I2.f, ?_⟩
            walk_at "kx"
            refine ⟨v2, d2, rfl, dp_ex I2.ex hd2, fun s e => by subst e; exact strOk_str hs2, fun t et H3 e3 => ?_, fun et H3 e3 => ?_⟩
            · have I3 := I2.grow e3
              walk_at "kx"
              refine q_app I3.f (by rw [List.length_map]; exact hfs) ?_
              exact ⟨msum its, hlt, bs, its, fs ++ [t], _, _, _, rfl, I3.found, T1.atom (by rw [ew]; exact et), rfl⟩
            · exact qE (T1.bad (by rw [ew]; exact et)) H3 (I2.grow e3).ex
      · have hbs : bs = [] := by
          cases bs with
          | nil => rfl
          | cons a r =>
            have := of_decide_eq_false h1
            simp only [List.map_cons, List.length_cons] at this
            omega
        subst hbs
        have hits := I.it.nil
        subst hits
        have e : wr 1000 d = some fs.flatten := by
          rw [← T1.1]
          show some (fs.flatten ++ []) = _
          rw [List.append_nil]
        obtain ⟨hlen, qq⟩ := q _ e
        walk_at "kx"
        refine ⟨ty_str, ?_⟩
        walk_at "kx"
        refine ⟨tx [], fl, fs.map tx, rfl, rfl, .inl (SqL.of (by rw [I.f, List.map_map]; rfl)), ?_, ?_⟩
        · rw [List.map_map]
          have e1 : ((fun x : Str => x.length) ∘ tx) = List.length := by funext l; exact tx_len l
          rw [e1, ← List.length_flatten]
          show fs.flatten.length + _ * 0 ≤ _
          omega
        · rw [join_none]
          exact qq H' I.ex
end
end K53

namespace K53
open PySem PySem.Spec PyProof.Rows L2 KX M53
local macro_rules | `(tactic| walk_at "kx1") => `(tactic| first
  | (with_reducible refine q_seq ?_) | (with_reducible refine q_ifs ?_) | (with_reducible refine q_asg ?_) | (with_reducible refine q_gname ?_) | (with_reducible refine q_ret ?_)
  | (with_reducible refine q_drop ?_) | (with_reducible refine q_next ?_) | (with_reducible refine q_par ?_) | (with_reducible refine q_sfld ?_) | (with_reducible refine q_rs ?_) | (with_reducible refine q_gsub ?_) | (with_reducible refine q_retN ?_)
  | ((with_reducible show tVar _ _ _ _); (refine q_var rfl ?_)) | (with_reducible refine q_c ?_) | (with_reducible refine q_op ?_) | (with_reducible refine q_un ?_) | (with_reducible refine q_neg ?_) | (with_reducible refine q_cb ?_)
  | (with_reducible refine q_nil ?_) | (with_reducible refine q_cons ?_) | (with_reducible refine q_tup ?_) | (with_reducible refine q_lst ?_) | (with_reducible refine q_if ?_)
  | (with_reducible refine q_notT ?_) | (with_reducible refine q_call ?_) | (with_reducible refine q_callS ?_) | (with_reducible refine q_fld ?_)
  | (with_reducible refine q_bm ?_) | (with_reducible refine q_bm0 ?_) | (with_reducible refine q_sl ?_) | (with_reducible refine q_nopart ?_) | (with_reducible refine q_part ?_) | (with_reducible refine q_meth ?_) | (with_reducible refine q_make ?_)
  | (with_reducible refine q_test ?_) | (with_reducible refine q_tB ?_) | (with_reducible refine q_tru ?_) | (with_reducible refine q_not ?_)
  | (with_reducible refine q_blk ?_) | (with_reducible refine q_tv ?_) | (with_reducible refine q_addI ?_) | (with_reducible refine q_subI ?_) | (with_reducible refine q_eqI ?_) | (with_reducible refine q_neI ?_)
  | (with_reducible refine q_for ?_) | (with_reducible refine q_lc ?_) | (with_reducible refine q_iList ?_) | (with_reducible refine q_iTup ?_) | (with_reducible refine q_iStr ?_) | (with_reducible refine q_iRng1 ?_) | (with_reducible refine q_iRng2 ?_) | (with_reducible refine q_iRng3 ?_) | (with_reducible refine q_gcons ?_) | (with_reducible refine q_gnil ?_) | (with_reducible refine q_yes ?_) | (with_reducible refine q_ltI ?_) | (with_reducible refine q_iEnumS ?_) | (with_reducible refine q_pi ?_) | (with_reducible refine q_leI ?_) | (with_reducible refine q_gtI ?_) | (with_reducible refine q_geI ?_) | (with_reducible refine q_leT ?_) | (with_reducible refine q_intI ?_) | (with_reducible refine q_abs ?_) | (with_reducible refine q_eqT ?_) | (with_reducible refine q_neT ?_) | (with_reducible refine q_par3 ?_) | (with_reducible refine q_isN ?_) | (with_reducible refine q_notN ?_))
local macro_rules | `(tactic| walk_at "kx") => `(tactic| repeat walk_at "kx1")
local macro_rules | `(tactic| walk_at "kxs") => `(tactic| repeat (first | walk_at "kx1" | (with_reducible refine q_andT ?_) | (with_reducible refine q_orT ?_) | (with_reducible refine q_chain ?_) | (with_reducible refine q_and ?_) | (with_reducible refine q_or ?_)))
local macro_rules | `(tactic| walk_at "lits") => `(tactic| simp only [lit_0, lit_1, lit_2, lit_3, lit_4, lit_5, lit_6, lit_7, lit_8, lit_9, lit_10, lit_11, lit_12, lit_13, lit_14, lit_15, lit_16, lit_17, lit_18, lit_19, lit_20, lit_21, lit_22, lit_23, lit_24, lit_25, lit_26])

section
variable {P : Program} {w : World} {K : PySem.W.Frag} {mg : Str → Option Value} {base : Heap} {CM : Addr}
def spWholeR (CM : Addr) : Sp := fun vs H Q E => ∃ l, vs = [.str (tx l)] ∧ l.length ≤ 100000 ∧ (okNum l = true → ∀ H', Ex H H' → Q (.int (numVal l)) H') ∧ (okNum l = false → ∀ H', Ex H H' → E (.ref CM) none H')
theorem ok_read_whole {f : Addr} {fd : FuncData} (D : DefAt K mg "read_whole" s_read_whole f fd ["text"]) (T : Txt K mg CM) (nd : base.NoDigits) : FnOk P w K mg base (L2.CX P w) 1 f fd ["text"] (spWholeR CM) := by
  refine D.fn.okX sc_read_whole (fun vs H Q E h => ?_) (fun cdv A outer s H vs Q E hr h => ?_)
  · obtain ⟨l, rfl, _⟩ := h
    rfl
  · obtain ⟨l, rfl, hl, q, qE⟩ := h
    have hu := u65 hr
    have hsl : l.length ≤ sizeLine := by have := sizeLine_eq; omega
    have hbl := body_le l
    refine ⟨_, (pss_cons (ps_set (i := 1) sc_read_whole.nd rfl (Or.inl rfl) (pe_ifExp (pt_cmpR (w_eq (K := K) hu) (pe_slice (w_sl (K := K)) (pv 0) po_none (po_some pe_int)) pe_str (nomark _)) (pe_slice (w_sl (K := K)) (pv 0) (po_some pe_int) po_none) (pv 0)))
      (pss_cons (ps_if (PW.pt (pw_or (pt_not (pt_chain k_le k_le pe_int (pe_callB (w_len (K := K)) rfl T.b_len bb_len (pa_cons (pv 1) pa_nil)) (k_glob rfl T.g_MOST_DIGITS))) (pw_or1 (pt_not (w_tru (K := K) (pe_callB (w_all (K := K) rfl) rfl T.b_all bb_all (pa_cons (pe_lc (own := [("sign", 2)]) rfl sc_read_whole.nd (pi_str (pv 1)) (blkOk_by (N := n_read_whole) (sc := defScope s_read_whole) (by decide +kernel)) (fun _ _ _ _ _ => (pg_name (i := 2) sc_read_whole.nd rfl (Or.inl rfl))) (fun _ _ _ _ _ => pts_nil) (fun _ _ _ _ _ => (pe_cmpR (w_in (K := K) hu) (pv 2) (k_glob rfl T.g_DIGITS) (by rfl)))) pa_nil))))))) (pss_one (ps_rs rfl tkE T.x_Malformed)) pss_nil)
      (pss_cons (ps_if (PW.pt (pw_and (pt_cmpR (w_eq (K := K) hu) (pe_ix (w_ix (K := K)) (pv 1) pe_int (fun _ _ => rfl)) pe_str (nomark _)) (pw_and1 (pt_cmpR (w_ne (K := K) hu) (pv 0) pe_str (nomark _))))) (pss_one (ps_rs rfl tkE T.x_Malformed)) pss_nil)
      (pss_one (ps_ret (pe_callTy (kx_int nd) rfl T.b_int bb_int (pa_cons (pv 0) pa_nil))))))), ?_⟩
    walk_at "lits"
    walk_at "kx"
    refine q_slTo 1 hsl ?_
    walk_at "kx"
    -- what stands behind the first statement, at the body
    have rest : ∀ D' : Ends, (okNum l = true → ∀ H', Ex H H' → D'.rt (.int (numVal l)) H') → (okNum l = false → ∀ H', Ex H H' → E (.ref CM) none H') →
        tSeq (tIfS (tOr (tNot (tTest (tChain rLeU rLeU (tC (V.int 1)) (tCB (rLenU K) (tCons (tVar 1) tNil)) (tC (V.int 4000)))))
          (tNot (tTru K (tCB (rAll K) (tCons (tLc (iStr (tVar 1)) (gName 2) tYes (tOp (rInU K) (tVar 2) (tC (V.str (tx [48, 49, 50, 51, 52, 53, 54, 55, 56, 57])))) (List.map (fun x => x.snd) [(Str.ofString "sign", 2)])) tNil)))))
          (tRs CM fun cls d x H => E cls d H) tNext)
          (tSeq (tIfS (tAnd (tTest (tOp (rEqU K) (tOp (rIx K) (tVar 1) (tC (V.int 0))) (tC (V.str (tx [48]))))) (tTest (tOp (rNeU K) (tVar 0) (tC (V.str (tx [48])))))) (tRs CM fun cls d x H => E cls d H) tNext)
            (tRet (tCB rInt (tCons (tVar 0) tNil)))) D' [some (.str (tx l)), some (.str (tx (body l))), none] H := by
      intro D' q qE
      have hbs : (body l).length ≤ sizeLine := by have := sizeLine_eq; omega
      walk_at "kx"
      refine q_or ?_
      walk_at "kx"
      refine q_chainLe (i := 1) (j := ((body l).length : Nat)) (k := 4000) (fun R q => ?_) (fun R q => ?_) (fun R q => ?_) ?_
      · walk_at "kx"
        exact q
      · walk_at "kx"
        refine q_lenS hbs ?_
        exact q
      · walk_at "kx"
        exact q
      walk_at "kx"
      refine ifT (fun h1 => ?_) (fun h1 => ?_)
      · refine ifY rfl ?_
        refine qE ?_ H (Evl.Ex.refl H)
        have h2 : (decide (1 ≤ (body l).length) && decide ((body l).length ≤ 4000)) = false := by
          rw [← Bool.decide_and] at h1 ⊢
          refine decide_eq_false fun h3 => ?_
          have h4 : ((1 : Int) ≤ ((body l).length : Nat) ∧ (((body l).length : Nat) : Int) ≤ 4000) := by omega
          rw [decide_eq_true h4] at h1
          cases h1
        unfold okNum
        rw [h2, Bool.false_and, Bool.false_and]
      · have h2 : (decide (1 ≤ (body l).length) && decide ((body l).length ≤ 4000)) = true := by
          rw [← Bool.decide_and] at h1 ⊢
          refine decide_eq_true ?_
          have := of_decide_eq_true (by simpa using h1)
          omega
        have h3 : 1 ≤ (body l).length := by
          rw [Bool.and_eq_true] at h2
          exact of_decide_eq_true h2.1
        obtain ⟨c, r, eb⟩ : ∃ c r, body l = c :: r := by
          cases e : body l with
          | nil => rw [e] at h3; simp at h3
          | cons c r => exact ⟨c, r, rfl⟩
        walk_at "kx"
        refine ⟨_, rfl, ?_⟩
        refine lc_str (by omega) (fun c => .bl (dig c)) (fun _ => rfl) (fun c _ H1 e1 Q2 q2 => ?_) (fun p H' hp he e => ?_)
        · walk_at "kx"
          have e10 : tx [48, 49, 50, 51, 52, 53, 54, 55, 56, 57] = ("0123456789" : Str) := by rw [← lit_16]
          rw [e10]
          exact q_inS (in_digits c) (q2 H1 (Evl.Ex.refl H1))
        walk_at "kx"
        refine q_all (bs := (body l).map dig) (by rw [e, List.map_map]; rfl) ?_
        have e1 : ((body l).map dig).all id = (body l).all dig := by rw [List.all_map]; rfl
        rw [e1]
        walk_at "kx"
        refine ifT (fun h4 => ?_) (fun h4 => ?_)
        · refine qE ?_ H' he
          unfold okNum
          rw [(by simpa using h4 : (body l).all dig = false), Bool.and_false, Bool.false_and]
        · walk_at "kx"
          refine q_andB (a := decide ([c] = [48])) (b := !decide (l = [48])) (fun R q => ?_) (fun _ R q => ?_) ?_
          · walk_at "kx"
            refine q_ixS (i := 0) (c := c) hbs (by rw [eb]; rfl) ?_
            walk_at "kx"
            exact q
          · walk_at "kx"
            exact q
          have h5 : okNum l = !(decide ([c] = [48]) && !decide (l = [48])) := by
            unfold okNum
            rw [h2, (by simpa using h4 : (body l).all dig = true), Bool.and_self, Bool.true_and, eb]
            rfl
          refine ifT (fun h6 => ?_) (fun h6 => ?_)
          · exact qE (by rw [h5, h6]; rfl) H' he
          · rw [h6] at h5
            walk_at "kx"
            refine .inr (.inr ⟨tx l, numVal l, rfl, int_num' h5, by rw [tx_len]; have := okNum_len h5; omega, q h5 H' he⟩)
    refine ifT (fun h1 => ?_) (fun h1 => ?_)
    · have e1 : body l = l.drop 1 := if_pos (of_decide_eq_true h1)
      rw [e1] at rest
      walk_at "kx"
      refine q_slFrom 1 hsl ?_
      refine rest _ q qE
    · have e1 : body l = l := if_neg (of_decide_eq_false h1)
      rw [e1] at rest
      walk_at "kx"
      refine rest _ q qE
end
end K53

namespace K53
open PySem PySem.Spec PyProof.Rows L2 KX M53
local macro_rules | `(tactic| walk_at "kx1") => `(tactic| first
  | (with_reducible refine q_seq ?_) | (with_reducible refine q_ifs ?_) | (with_reducible refine q_asg ?_) | (with_reducible refine q_gname ?_) | (with_reducible refine q_ret ?_)
  | (with_reducible refine q_drop ?_) | (with_reducible refine q_next ?_) | (with_reducible refine q_par ?_) | (with_reducible refine q_sfld ?_) | (with_reducible refine q_rs ?_) | (with_reducible refine q_gsub ?_) | (with_reducible refine q_retN ?_)
  | ((with_reducible show tVar _ _ _ _); (refine q_var rfl ?_)) | (with_reducible refine q_c ?_) | (with_reducible refine q_op ?_) | (with_reducible refine q_un ?_) | (with_reducible refine q_neg ?_) | (with_reducible refine q_cb ?_)
  | (with_reducible refine q_nil ?_) | (with_reducible refine q_cons ?_) | (with_reducible refine q_tup ?_) | (with_reducible refine q_lst ?_) | (with_reducible refine q_if ?_)
  | (with_reducible refine q_notT ?_) | (with_reducible refine q_call ?_) | (with_reducible refine q_callS ?_) | (with_reducible refine q_fld ?_)
  | (with_reducible refine q_bm ?_) | (with_reducible refine q_bm0 ?_) | (with_reducible refine q_sl ?_) | (with_reducible refine q_nopart ?_) | (with_reducible refine q_part ?_) | (with_reducible refine q_meth ?_) | (with_reducible refine q_make ?_)
  | (with_reducible refine q_test ?_) | (with_reducible refine q_tB ?_) | (with_reducible refine q_tru ?_) | (with_reducible refine q_not ?_)
  | (with_reducible refine q_blk ?_) | (with_reducible refine q_tv ?_) | (with_reducible refine q_addI ?_) | (with_reducible refine q_subI ?_) | (with_reducible refine q_eqI ?_) | (with_reducible refine q_neI ?_)
  | (with_reducible refine q_for ?_) | (with_reducible refine q_lc ?_) | (with_reducible refine q_iList ?_) | (with_reducible refine q_iTup ?_) | (with_reducible refine q_iStr ?_) | (with_reducible refine q_iRng1 ?_) | (with_reducible refine q_iRng2 ?_) | (with_reducible refine q_iRng3 ?_) | (with_reducible refine q_gcons ?_) | (with_reducible refine q_gnil ?_) | (with_reducible refine q_yes ?_) | (with_reducible refine q_ltI ?_) | (with_reducible refine q_iEnumS ?_) | (with_reducible refine q_pi ?_) | (with_reducible refine q_leI ?_) | (with_reducible refine q_gtI ?_) | (with_reducible refine q_geI ?_) | (with_reducible refine q_leT ?_) | (with_reducible refine q_intI ?_) | (with_reducible refine q_abs ?_) | (with_reducible refine q_eqT ?_) | (with_reducible refine q_neT ?_) | (with_reducible refine q_par3 ?_) | (with_reducible refine q_isN ?_) | (with_reducible refine q_notN ?_))
local macro_rules | `(tactic| walk_at "kx") => `(tactic| repeat walk_at "kx1")
local macro_rules | `(tactic| walk_at "kxs") => `(tactic| repeat (first | walk_at "kx1" | (with_reducible refine q_andT ?_) | (with_reducible refine q_orT ?_) | (with_reducible refine q_chain ?_) | (with_reducible refine q_and ?_) | (with_reducible refine q_or ?_)))
local macro_rules | `(tactic| walk_at "lits") => `(tactic| simp only [lit_0, lit_1, lit_2, lit_3, lit_4, lit_5, lit_6, lit_7, lit_8, lit_9, lit_10, lit_11, lit_12, lit_13, lit_14, lit_15, lit_16, lit_17, lit_18, lit_19, lit_20, lit_21, lit_22, lit_23, lit_24, lit_25, lit_26])

/-- what SIGNS tells -/
def sgnV (l : T) : Option V := if l = [43] then some (.bl true) else if l = [45] then some (.bl false) else if l = [46] then some (.str (tx [])) else none
structure Signs (K : PySem.W.Frag) (w : World) (mg : Str → Option Value) (dS : Addr) : Prop where
  g : ∃ u, mg "SIGNS" = some u ∧ RelV (.ref dS) u
  lk : ∃ es n, KDict K w dS es n
  no : ∀ l, sgnV l = none → PySem.W.nsIn K dS (tx l) = some none
  yes : ∀ l v, sgnV l = some v → ∃ u, PySem.W.nsIn K dS (tx l) = some (some u) ∧ RelV v u
section
variable {P : Program} {w : World} {K : PySem.W.Frag} {mg : Str → Option Value} {base : Heap} {CM dS : Addr}
/-- the value of data that are no tuple -/
def valD : PyData → V
  | .bool b => .bl b
  | .int i => .int i
  | .str s => .str s
  | _ => .non
def spAtomR (CM : Addr) : Sp := fun vs H Q E => ∃ l, vs = [.str (tx l)] ∧ l.length ≤ 100000 ∧ (∀ d, rdAtom l = some d → ∀ H', Ex H H' → Q (valD d) H') ∧ (rdAtom l = none → ∀ H', Ex H H' → E (.ref CM) none H')
theorem ok_read_atom {f f1 f2 : Addr} {fd fd1 fd2 : FuncData} (D : DefAt K mg "read_atom" s_read_atom f fd ["piece"]) (T : Txt K mg CM) (S : Signs K w mg dS) (nd : base.NoDigits)
    (D_is_word : DefAt K mg "is_word" s_is_word f1 fd1 ["value"]) (D_read_whole : DefAt K mg "read_whole" s_read_whole f2 fd2 ["text"]) : FnOk P w K mg base (L2.CX P w) 2 f fd ["piece"] (spAtomR CM) := by
  have G_is_word : FnOk P w K mg base CX0 1 f1 fd1 ["value"] (spIsWord K) := ok_is_word D_is_word T
  have G_read_whole : FnOk P w K mg base (L2.CX P w) 1 f2 fd2 ["text"] (spWholeR CM) := ok_read_whole D_read_whole T nd
  obtain ⟨es, n, kd_SIGNS⟩ := S.lk
  refine D.fn.okX sc_read_atom (fun vs H Q E h => ?_) (fun cdv A outer s H vs Q E hr h => ?_)
  · obtain ⟨l, rfl, _⟩ := h
    rfl
  · obtain ⟨l, rfl, hl, q, qE⟩ := h
    have hu := u65 hr
    refine ⟨_, (pss_cons (ps_if (pt_cmpR (op_in_kd kd_SIGNS) (pv 0) (k_glob rfl S.g) (by rfl)) (pss_one (ps_ret (pe_ix ix_kdict (k_glob rfl S.g) (pv 0) (fun _ _ => rfl)))) pss_nil)
      (pss_one (ps_ret (pe_ifExp (w_tru (K := K) (pe_call G_is_word (hr.mono (by decide)) rfl D_is_word.g D_is_word.kp D_is_word.b .nil pass0 (pa_cons (pv 0) pa_nil))) (pv 0) (pe_call G_read_whole (hr.mono (by decide)) rfl D_read_whole.g D_read_whole.kp D_read_whole.b .nil passT (pa_cons (pv 0) pa_nil)))))), ?_⟩
    walk_at "kx"
    cases hsg : sgnV l with
    | some v =>
      obtain ⟨u, hu1, hu2⟩ := S.yes l v hsg
      refine ⟨tx l, some u, rfl, rfl, hu1, ?_⟩
      walk_at "kx"
      refine ifY rfl ?_
      walk_at "kx"
      refine ⟨_, tx l, v, rfl, rfl, ⟨es, n, u, kd_SIGNS.at_, kd_SIGNS.lit, hu1, hu2⟩, ?_⟩
      have ev : ∃ d, rdAtom l = some d ∧ valD d = v := by
        unfold sgnV at hsg
        unfold rdAtom
        split at hsg
        · cases hsg
          exact ⟨_, if_pos (by assumption), rfl⟩
        · rename_i h1
          split at hsg
          · rename_i h2
            cases hsg
            exact ⟨.bool false, by rw [if_neg h1, if_pos h2], rfl⟩
          · rename_i h2
            split at hsg
            · rename_i h3
              cases hsg
              exact ⟨.str (tx []), by rw [if_neg h1, if_neg h2, if_pos h3], rfl⟩
            · cases hsg
      obtain ⟨d, e1, rfl⟩ := ev
      exact q d e1 H (Evl.Ex.refl H)
    | none =>
      have e0 : rdAtom l = if isWord l = true then some (.str (tx l)) else if okNum l = true then some (.int (numVal l)) else none := by
        unfold sgnV at hsg
        unfold rdAtom
        by_cases h1 : l = [43]
        · rw [if_pos h1] at hsg; cases hsg
        · rw [if_neg h1] at hsg ⊢
          by_cases h2 : l = [45]
          · rw [if_pos h2] at hsg; cases hsg
          · rw [if_neg h2] at hsg ⊢
            by_cases h3 : l = [46]
            · rw [if_pos h3] at hsg; cases hsg
            · rw [if_neg h3]
      refine ⟨tx l, none, rfl, rfl, S.no l hsg, ?_⟩
      walk_at "kx"
      refine ifF rfl ?_
      walk_at "kx"
      refine ⟨.str (tx l), .str (tx l), rfl, .str _, fun s e => by cases e; rw [tx_len]; have := sizeLine_eq; omega, fun H1 e1 => ?_⟩
      walk_at "kx"
      have ew : wordD (.str (tx l)) = isWord l := by simp only [wordD, tx_list]
      rw [ew]
      refine ifT (fun h1 => ?_) (fun h1 => ?_)
      · rw [if_pos h1] at e0
        walk_at "kx"
        exact q _ e0 H1 e1
      · rw [if_neg (by rw [h1]; exact Bool.false_ne_true)] at e0
        walk_at "kx"
        refine ⟨l, rfl, hl, fun ho H2 e2 => ?_, fun ho H2 e2 => ?_⟩
        · rw [if_pos ho] at e0
          exact q _ e0 H2 (e1.trans e2)
        · rw [if_neg (by rw [ho]; exact Bool.false_ne_true)] at e0
          exact qE e0 H2 (e1.trans e2)
end
end K53

namespace K53
open PySem PySem.Spec PyProof.Rows L2 KX M53
local macro_rules | `(tactic| walk_at "kx1") => `(tactic| first
  | (with_reducible refine q_seq ?_) | (with_reducible refine q_ifs ?_) | (with_reducible refine q_asg ?_) | (with_reducible refine q_gname ?_) | (with_reducible refine q_ret ?_)
  | (with_reducible refine q_drop ?_) | (with_reducible refine q_next ?_) | (with_reducible refine q_par ?_) | (with_reducible refine q_sfld ?_) | (with_reducible refine q_rs ?_) | (with_reducible refine q_gsub ?_) | (with_reducible refine q_retN ?_)
  | ((with_reducible show tVar _ _ _ _); (refine q_var rfl ?_)) | (with_reducible refine q_c ?_) | (with_reducible refine q_op ?_) | (with_reducible refine q_un ?_) | (with_reducible refine q_neg ?_) | (with_reducible refine q_cb ?_)
  | (with_reducible refine q_nil ?_) | (with_reducible refine q_cons ?_) | (with_reducible refine q_tup ?_) | (with_reducible refine q_lst ?_) | (with_reducible refine q_if ?_)
  | (with_reducible refine q_notT ?_) | (with_reducible refine q_call ?_) | (with_reducible refine q_callS ?_) | (with_reducible refine q_fld ?_)
  | (with_reducible refine q_bm ?_) | (with_reducible refine q_bm0 ?_) | (with_reducible refine q_sl ?_) | (with_reducible refine q_nopart ?_) | (with_reducible refine q_part ?_) | (with_reducible refine q_meth ?_) | (with_reducible refine q_make ?_)
  | (with_reducible refine q_test ?_) | (with_reducible refine q_tB ?_) | (with_reducible refine q_tru ?_) | (with_reducible refine q_not ?_)
  | (with_reducible refine q_blk ?_) | (with_reducible refine q_tv ?_) | (with_reducible refine q_addI ?_) | (with_reducible refine q_subI ?_) | (with_reducible refine q_eqI ?_) | (with_reducible refine q_neI ?_)
  | (with_reducible refine q_for ?_) | (with_reducible refine q_lc ?_) | (with_reducible refine q_iList ?_) | (with_reducible refine q_iTup ?_) | (with_reducible refine q_iStr ?_) | (with_reducible refine q_iRng1 ?_) | (with_reducible refine q_iRng2 ?_) | (with_reducible refine q_iRng3 ?_) | (with_reducible refine q_gcons ?_) | (with_reducible refine q_gnil ?_) | (with_reducible refine q_yes ?_) | (with_reducible refine q_ltI ?_) | (with_reducible refine q_iEnumS ?_) | (with_reducible refine q_pi ?_) | (with_reducible refine q_leI ?_) | (with_reducible refine q_gtI ?_) | (with_reducible refine q_geI ?_) | (with_reducible refine q_leT ?_) | (with_reducible refine q_intI ?_) | (with_reducible refine q_abs ?_) | (with_reducible refine q_eqT ?_) | (with_reducible refine q_neT ?_) | (with_reducible refine q_par3 ?_) | (with_reducible refine q_isN ?_) | (with_reducible refine q_notN ?_))
local macro_rules | `(tactic| walk_at "kx") => `(tactic| repeat walk_at "kx1")
local macro_rules | `(tactic| walk_at "kxs") => `(tactic| repeat (first | walk_at "kx1" | (with_reducible refine q_andT ?_) | (with_reducible refine q_orT ?_) | (with_reducible refine q_chain ?_) | (with_reducible refine q_and ?_) | (with_reducible refine q_or ?_)))
local macro_rules | `(tactic| walk_at "lits") => `(tactic| simp only [lit_0, lit_1, lit_2, lit_3, lit_4, lit_5, lit_6, lit_7, lit_8, lit_9, lit_10, lit_11, lit_12, lit_13, lit_14, lit_15, lit_16, lit_17, lit_18, lit_19, lit_20, lit_21, lit_22, lit_23, lit_24, lit_25, lit_26])

section
variable {P : Program} {w : World} {K : PySem.W.Frag} {mg : Str → Option Value} {base : Heap} {CM dS : Addr}
def spPieces : Sp := fun vs H Q _ => ∃ l, vs = [.str (tx l)] ∧ l.length ≤ 100000 ∧ ∀ p H', H p = none → Ex H H' → H' p = some (.lst ((pcs [] l).map fun t => .str (tx t))) → Q (.ref p) H'
theorem ok_pieces_of {f : Addr} {fd : FuncData} (D : DefAt K mg "pieces_of" s_pieces_of f fd ["text"]) (T : Txt K mg CM) : FnOk P w K mg base CX0 1 f fd ["text"] spPieces := by
  refine D.fn.ok sc_pieces_of (fun vs H Q E h => ?_) (fun cdv A outer s H vs Q E hr h => ?_)
  · obtain ⟨l, rfl, _⟩ := h
    rfl
  · obtain ⟨l, rfl, hl, q⟩ := h
    have hu := u65 hr
    have hsl : l.length ≤ sizeLine := by have := sizeLine_eq; omega
    have hpl := pcs_len l []
    have hs0 := sizeLine_eq
    refine ⟨_, (pss_cons (ps_par (i := 1) (j := 2) rfl sc_pieces_of.nd rfl rfl (by decide) rfl rfl (pa_cons (pe_lst pa_nil) (pa_cons pe_int pa_nil)) (by rfl))
      (pss_cons (ps_for PassesOwn.never rfl (pi_enumS rfl T.b_enumerate (pa_cons (pv 0) pa_nil)) (w_gtup (K := K) (n := 2) rfl (pgs_cons (pg_name (i := 3) sc_pieces_of.nd rfl (Or.inl rfl)) (pgs_cons (pg_name (i := 4) sc_pieces_of.nd rfl (Or.inl rfl)) pgs_nil))) (pss_one (ps_if (pt_cmpR (w_in (K := K) hu) (pv 4) pe_str (by rfl)) (pss_cons (ps_if (pt_cmpR k_lt (pv 2) (pv 3) (nomark _)) (pss_one (ps_expr (wk_bm (K := K) (pe_bm PySem.F.plainAttrs_list PySem.F.slot_list_append PySem.F.type_list_append mt_append (pv 1) (pa_cons (pe_slice (w_sl (K := K)) (pv 0) (po_some (pv 2)) (po_some (pv 3))) pa_nil))))) pss_nil)
      (pss_cons (ps_expr (wk_bm (K := K) (pe_bm PySem.F.plainAttrs_list PySem.F.slot_list_append PySem.F.type_list_append mt_append (pv 1) (pa_cons (pv 4) pa_nil))))
      (pss_one (ps_set (i := 2) sc_pieces_of.nd rfl (Or.inl rfl) (pe_op (w_add (K := K)) (pv 3) pe_int))))) pss_nil)))
      (pss_one (ps_ret (pe_op (w_add (K := K)) (pv 1) (pe_ifExp (pt_cmpR k_lt (pv 2) (pe_callB (w_len (K := K)) rfl T.b_len bb_len (pa_cons (pv 0) pa_nil)) (nomark _)) (pe_lst (pa_cons (pe_slice (w_sl (K := K)) (pv 0) (po_some (pv 2)) po_none) pa_nil)) (pe_lst pa_nil))))))), ?_⟩
    walk_at "lits"
    walk_at "kx"
    refine ⟨sml rfl, fun fl nfl => ?_⟩
    walk_at "kx"
    refine ⟨_, _, rfl, ?_⟩
    walk_at "kx"
    refine ⟨_, rfl, ?_⟩
    refine fo_enumS (fun i σ H' => i ≤ l.length ∧ ∃ (s : Nat) (fs : List (List Nat)) (o3 o4 : Option V), σ = [some (.str (tx l)), some (.ref fl), some (.int (s : Nat)), o3, o4] ∧ Ex H H' ∧ H' fl = some (.lst (fs.map fun t => .str (tx t))) ∧ s ≤ i ∧ fs ++ pcs ((l.drop s).take (i - s)) (l.drop i) = pcs [] l)
      ⟨Nat.zero_le _, 0, [], none, none, rfl, Evl.Ex.new nfl, upd_same, Nat.le_refl _, rfl⟩ ?_ ?_
    · rintro i c σ H' B hc nB ⟨hi, s, fs, o3, o4, rfl, e1, hf, hsi, ep⟩
      obtain ⟨hil, ec⟩ := List.getElem?_eq_some_iff.mp hc
      have ed : l.drop i = c :: l.drop (i + 1) := by rw [List.drop_eq_getElem_cons hil, ec]
      have e2 := e1.trans (Evl.Ex.new nB (o := .tup [.int (i : Nat), .str (tx [c])]))
      have hf2 : upd H' B (.tup [.int (i : Nat), .str (tx [c])]) fl = some (.lst (fs.map fun t => .str (tx t))) := Evl.Ex.new nB _ _ hf
      have hB : upd H' B (.tup [.int (i : Nat), .str (tx [c])]) B = _ := upd_same
      generalize upd H' B (.tup [.int (i : Nat), .str (tx [c])]) = H2 at e2 hf2 hB
      have hfl := congrArg List.length ep
      rw [List.length_append] at hfl
      refine q_gtup ⟨B, _, rfl, SqT.of hB, rfl, ?_⟩
      walk_at "kx"
      refine q_inS (in_sep c) ?_
      walk_at "kx"
      have cur_nil : (l.drop s).take (i - s) = [] ↔ ¬ s < i := by
        rw [← List.length_eq_zero_iff, List.length_take, List.length_drop]
        omega
      refine ifT (fun h1 => ?_) (fun h1 => ?_)
      · rw [ed, pcs_sep h1] at ep
        walk_at "kx"
        have fin : ∀ (fs2 : List (List Nat)) (H3 : Hp), fs2 = fs ++ tok ((l.drop s).take (i - s)) → Ex H H3 → H3 fl = some (.lst (fs2.map fun t => .str (tx t))) → ∃ (s' : Nat) (fs' : List (List Nat)) (o3 o4 : Option V),
            [some (V.str (tx l)), some (.ref fl), some (.int ((i : Nat) + 1)), some (.int (i : Nat)), some (.str (tx [c]))] = [some (V.str (tx l)), some (.ref fl), some (.int (s' : Nat)), o3, o4] ∧
            Ex H (upd H3 fl (.lst ((fs2.map fun t => V.str (tx t)) ++ [.str (tx [c])]))) ∧ (upd H3 fl (.lst ((fs2.map fun t => V.str (tx t)) ++ [.str (tx [c])]))) fl = some (.lst (fs'.map fun t => .str (tx t))) ∧ s' ≤ i + 1 ∧ fs' ++ pcs ((l.drop s').take (i + 1 - s')) (l.drop (i + 1)) = pcs [] l := by
          intro fs2 H3 e3 e4 h3
          refine ⟨i + 1, fs2 ++ [[c]], _, _, rfl, Evl.Ex.mut e4 nfl, by rw [upd_same, List.map_append]; rfl, Nat.le_refl _, ?_⟩
          rw [Nat.sub_self, List.take_zero, e3, ← ep]
          simp
        by_cases hsi2 : s < i
        · have ht : tok ((l.drop s).take (i - s)) = [(l.drop s).take (i - s)] := if_neg (fun z => cur_nil.mp z hsi2)
          refine ifY (decide_eq_true (by omega)) ?_
          walk_at "kx"
          refine ⟨ty_lst hf2, ?_⟩
          walk_at "kx"
          refine q_slMid s i hsl hi ?_
          walk_at "kx"
          refine q_app hf2 (by rw [List.length_map]; omega) ?_
          have e3 := Evl.Ex.mut (o := .lst ((fs.map fun t => V.str (tx t)) ++ [.str (tx ((l.drop s).take (i - s)))])) e2 nfl
          have hf3 : upd H2 fl (.lst ((fs.map fun t => V.str (tx t)) ++ [.str (tx ((l.drop s).take (i - s)))])) fl = _ := upd_same
          generalize upd H2 fl _ = H3 at e3 hf3
          have hf4 : H3 fl = some (.lst ((fs ++ [(l.drop s).take (i - s)]).map fun t => .str (tx t))) := by rw [hf3, List.map_append]; rfl
          walk_at "kx"
          refine ⟨ty_lst hf4, ?_⟩
          walk_at "kx"
          refine q_app hf4 (by rw [List.length_map, List.length_append]; simp only [List.length_cons, List.length_nil]; omega) ?_
          walk_at "kx"
          exact ⟨by omega, fin _ H3 (by rw [ht]) e3 hf4⟩
        · have ht : tok ((l.drop s).take (i - s)) = [] := if_pos (cur_nil.mpr hsi2)
          refine ifF (decide_eq_false (by omega)) ?_
          walk_at "kx"
          refine ⟨ty_lst hf2, ?_⟩
          walk_at "kx"
          refine q_app hf2 (by rw [List.length_map]; omega) ?_
          walk_at "kx"
          exact ⟨by omega, fin _ H2 (by rw [ht, List.append_nil]) e2 hf2⟩
      · rw [ed, pcs_no h1] at ep
        walk_at "kx"
        refine ⟨by omega, s, fs, _, _, rfl, e2, hf2, by omega, ?_⟩
        rw [← ep]
        congr 2
        have e5 : i + 1 - s = (i - s) + 1 := by omega
        rw [e5, List.take_add_one, List.getElem?_drop]
        congr 1
        have e6 : s + (i - s) = i := by omega
        rw [e6, hc]
        rfl
    · rintro σ H' ⟨hi, s, fs, o3, o4, rfl, e1, hf, hsi, ep⟩
      have hfl := congrArg List.length ep
      rw [List.length_append] at hfl
      walk_at "kx"
      refine q_lenS hsl ?_
      walk_at "kx"
      rw [List.drop_length] at ep
      have ep2 : fs ++ tok (l.drop s) = pcs [] l := by
        rw [← ep]
        have e7 : (l.drop s).take (l.length - s) = l.drop s := List.take_of_length_le (by rw [List.length_drop]; exact Nat.le_refl _)
        rw [e7]
        rfl
      by_cases h2 : s < l.length
      · have ht : tok (l.drop s) = [l.drop s] := if_neg (fun z => by have := congrArg List.length z; rw [List.length_drop] at this; simp at this; omega)
        refine ifY (decide_eq_true (by omega)) ?_
        walk_at "kx"
        refine q_slFrom s hsl ?_
        walk_at "kx"
        refine ⟨sml rfl, fun p2 np2 => ?_⟩
        have npf : fl ≠ p2 := ne_of_none hf np2
        refine q_cat (by rw [upd_ne npf]; exact hf) upd_same (by rw [List.length_map]; simp only [List.length_cons, List.length_nil]; omega) (fun p np => ?_)
        have e3 := e1.trans (Evl.Ex.new np2 (o := .lst [V.str (tx (l.drop s))]))
        refine q p _ (Evl.fresh_back e3 np) (e3.trans (Evl.Ex.new np)) ?_
        rw [upd_same, ← ep2, ht, List.map_append]
        rfl
      · have ht : tok (l.drop s) = [] := if_pos (List.drop_eq_nil_of_le (by omega))
        refine ifF (decide_eq_false (by omega)) ?_
        walk_at "kx"
        refine ⟨sml rfl, fun p2 np2 => ?_⟩
        have npf : fl ≠ p2 := ne_of_none hf np2
        refine q_cat (by rw [upd_ne npf]; exact hf) upd_same (by rw [List.length_map]; simp only [List.length_nil]; omega) (fun p np => ?_)
        have e3 := e1.trans (Evl.Ex.new np2 (o := .lst []))
        refine q p _ (Evl.fresh_back e3 np) (e3.trans (Evl.Ex.new np)) ?_
        rw [upd_same, ← ep2, ht, List.append_nil, List.append_nil]
end
end K53

namespace K53
open PySem PySem.Spec PyProof.Rows L2 KX M53
local macro_rules | `(tactic| walk_at "kx1") => `(tactic| first
  | (with_reducible refine q_seq ?_) | (with_reducible refine q_ifs ?_) | (with_reducible refine q_asg ?_) | (with_reducible refine q_gname ?_) | (with_reducible refine q_ret ?_)
  | (with_reducible refine q_drop ?_) | (with_reducible refine q_next ?_) | (with_reducible refine q_par ?_) | (with_reducible refine q_sfld ?_) | (with_reducible refine q_rs ?_) | (with_reducible refine q_gsub ?_) | (with_reducible refine q_retN ?_)
  | ((with_reducible show tVar _ _ _ _); (refine q_var rfl ?_)) | (with_reducible refine q_c ?_) | (with_reducible refine q_op ?_) | (with_reducible refine q_un ?_) | (with_reducible refine q_neg ?_) | (with_reducible refine q_cb ?_)
  | (with_reducible refine q_nil ?_) | (with_reducible refine q_cons ?_) | (with_reducible refine q_tup ?_) | (with_reducible refine q_lst ?_) | (with_reducible refine q_if ?_)
  | (with_reducible refine q_notT ?_) | (with_reducible refine q_call ?_) | (with_reducible refine q_callS ?_) | (with_reducible refine q_fld ?_)
  | (with_reducible refine q_bm ?_) | (with_reducible refine q_bm0 ?_) | (with_reducible refine q_sl ?_) | (with_reducible refine q_nopart ?_) | (with_reducible refine q_part ?_) | (with_reducible refine q_meth ?_) | (with_reducible refine q_make ?_)
  | (with_reducible refine q_test ?_) | (with_reducible refine q_tB ?_) | (with_reducible refine q_tru ?_) | (with_reducible refine q_not ?_)
  | (with_reducible refine q_blk ?_) | (with_reducible refine q_tv ?_) | (with_reducible refine q_addI ?_) | (with_reducible refine q_subI ?_) | (with_reducible refine q_eqI ?_) | (with_reducible refine q_neI ?_)
  | (with_reducible refine q_for ?_) | (with_reducible refine q_lc ?_) | (with_reducible refine q_iList ?_) | (with_reducible refine q_iTup ?_) | (with_reducible refine q_iStr ?_) | (with_reducible refine q_iRng1 ?_) | (with_reducible refine q_iRng2 ?_) | (with_reducible refine q_iRng3 ?_) | (with_reducible refine q_gcons ?_) | (with_reducible refine q_gnil ?_) | (with_reducible refine q_yes ?_) | (with_reducible refine q_ltI ?_) | (with_reducible refine q_iEnumS ?_) | (with_reducible refine q_pi ?_) | (with_reducible refine q_leI ?_) | (with_reducible refine q_gtI ?_) | (with_reducible refine q_geI ?_) | (with_reducible refine q_leT ?_) | (with_reducible refine q_intI ?_) | (with_reducible refine q_abs ?_) | (with_reducible refine q_eqT ?_) | (with_reducible refine q_neT ?_) | (with_reducible refine q_par3 ?_) | (with_reducible refine q_isN ?_) | (with_reducible refine q_notN ?_))
local macro_rules | `(tactic| walk_at "kx") => `(tactic| repeat walk_at "kx1")
local macro_rules | `(tactic| walk_at "kxs") => `(tactic| repeat (first | walk_at "kx1" | (with_reducible refine q_andT ?_) | (with_reducible refine q_orT ?_) | (with_reducible refine q_chain ?_) | (with_reducible refine q_and ?_) | (with_reducible refine q_or ?_)))
local macro_rules | `(tactic| walk_at "lits") => `(tactic| simp only [lit_0, lit_1, lit_2, lit_3, lit_4, lit_5, lit_6, lit_7, lit_8, lit_9, lit_10, lit_11, lit_12, lit_13, lit_14, lit_15, lit_16, lit_17, lit_18, lit_19, lit_20, lit_21, lit_22, lit_23, lit_24, lit_25, lit_26])

/-! ### a reader's object -/
def rf (lt : Addr) (b : Bool) (ld : Addr) : List (Str × V) := [("tuples", .ref lt), ("ready", .bl b), ("told", .ref ld)]
theorem n_tr : ¬ (("tuples" : Str) = "ready") := by decide +kernel
theorem n_tt : ¬ (("tuples" : Str) = "told") := by decide +kernel
theorem n_rt : ¬ (("ready" : Str) = "told") := by decide +kernel
theorem rf_tuples (lt : Addr) (b : Bool) (ld : Addr) : (rf lt b ld).lookup ("tuples" : Str) = some (.ref lt) := by
  unfold rf
  rw [List.lookup_cons, beq_self_eq_true]
theorem rf_ready (lt : Addr) (b : Bool) (ld : Addr) : (rf lt b ld).lookup ("ready" : Str) = some (.bl b) := by
  unfold rf
  rw [List.lookup_cons, beq_eq_false_iff_ne.mpr (fun z => n_tr z.symm)]
  show List.lookup _ _ = _
  rw [List.lookup_cons, beq_self_eq_true]
theorem rf_told (lt : Addr) (b : Bool) (ld : Addr) : (rf lt b ld).lookup ("told" : Str) = some (.ref ld) := by
  unfold rf
  rw [List.lookup_cons, beq_eq_false_iff_ne.mpr (fun z => n_tt z.symm)]
  show List.lookup _ _ = _
  rw [List.lookup_cons, beq_eq_false_iff_ne.mpr (fun z => n_rt z.symm)]
  show List.lookup _ _ = _
  rw [List.lookup_cons, beq_self_eq_true]
theorem rf_no (lt : Addr) (b : Bool) (ld : Addr) {m : Str} (h1 : ¬ m = "tuples") (h2 : ¬ m = "ready") (h3 : ¬ m = "told") : (rf lt b ld).lookup m = none := by
  unfold rf
  rw [List.lookup_cons, beq_eq_false_iff_ne.mpr h1]
  show List.lookup _ _ = _
  rw [List.lookup_cons, beq_eq_false_iff_ne.mpr h2]
  show List.lookup _ _ = _
  rw [List.lookup_cons, beq_eq_false_iff_ne.mpr h3]
  rfl
theorem rf_put (lt : Addr) (b b' : Bool) (ld : Addr) : putF "ready" (.bl b') (rf lt b ld) = rf lt b' ld := by
  unfold rf
  show (if ("tuples" : Str) = "ready" then _ else (("tuples" : Str), V.ref lt) :: (if ("ready" : Str) = "ready" then (("ready" : Str), V.bl b') :: [("told", V.ref ld)] else _)) = _
  rw [if_neg n_tr, if_pos rfl]
theorem rf_init (lt : Addr) (b : Bool) (ld : Addr) : putF "told" (.ref ld) (putF "ready" (.bl b) (putF "tuples" (.ref lt) [])) = rf lt b ld := by
  show putF "told" (.ref ld) (if ("tuples" : Str) = "ready" then _ else (("tuples" : Str), V.ref lt) :: [(("ready" : Str), V.bl b)]) = _
  rw [if_neg n_tr]
  show (if ("tuples" : Str) = "told" then _ else (("tuples" : Str), V.ref lt) :: (if ("ready" : Str) = "told" then _ else (("ready" : Str), V.bl b) :: [(("told" : Str), V.ref ld)])) = _
  rw [if_neg n_tt, if_neg n_rt]
  rfl
def Stk (K : PySem.W.Frag) (H : Hp) : List Addr → List (List PyData) → Prop
  | [], [] => True
  | a :: as, x :: xs => (∃ vs, H a = some (.lst vs) ∧ DpAll K H vs x) ∧ Stk K H as xs
  | _, _ => False
structure RdD where
  dx : Addr
  lt : Addr
  ld : Addr
  as : List Addr
structure RdAt (K : PySem.W.Frag) (C : Addr) (H0 H : Hp) (r : Addr) (S : RS) (D : RdD) : Prop where
  ex : Ex H0 H
  ob : H r = some (.ins C D.dx (rf D.lt S.ready D.ld))
  tu : H D.lt = some (.lst (D.as.map V.ref))
  to : ∃ vd, H D.ld = some (.lst vd) ∧ DpAll K H vd S.told
  st : Stk K H D.as S.stack
  nr : H0 r = none
  nt : H0 D.lt = none
  nl : H0 D.ld = none
  na : ∀ a ∈ D.as, H0 a = none
  nd : D.as.Nodup
  ta : D.lt ∉ D.as
  la : D.ld ∉ D.as
  tl : D.lt ≠ D.ld
  fl : flatRS S = true
def Rd (K : PySem.W.Frag) (C : Addr) (H0 H : Hp) (r : Addr) (S : RS) : Prop := ∃ D, RdAt K C H0 H r S D
section
variable {K : PySem.W.Frag} {C r : Addr} {H0 H H' : Hp} {S : RS} {D : RdD}
theorem Stk.keep : ∀ {as : List Addr} {xs : List (List PyData)}, (∀ x ∈ xs, flatDs x = true) → Kt H H' → (∀ a ∈ as, ∀ vs, H a = some (.lst vs) → H' a = some (.lst vs)) → Stk K H as xs → Stk K H' as xs
  | [], [], _, _, _, _ => trivial
  | a :: as, x :: xs, f, k, h, ⟨⟨vs, h1, h2⟩, h3⟩ => ⟨⟨vs, h a (by simp) vs h1, dpa_kt k (f x (by simp)) h2⟩, Stk.keep (fun y hy => f y (by simp [hy])) k (fun b hb => h b (by simp [hb])) h3⟩
  | [], _ :: _, _, _, _, h => h.elim
  | _ :: _, [], _, _, _, h => h.elim
theorem Stk.len : ∀ {as : List Addr} {xs : List (List PyData)}, Stk K H as xs → as.length = xs.length
  | [], [], _ => rfl
  | _ :: _, _ :: _, ⟨_, h⟩ => by simp [Stk.len h]
  | [], _ :: _, h => h.elim
  | _ :: _, [], h => h.elim
theorem Stk.app : ∀ {as : List Addr} {xs : List (List PyData)} {a : Addr} {x : List PyData} {vs : List V}, Stk K H as xs → H a = some (.lst vs) → DpAll K H vs x → Stk K H (as ++ [a]) (xs ++ [x])
  | [], [], _, _, _, _, h1, h2 => ⟨⟨_, h1, h2⟩, trivial⟩
  | _ :: _, _ :: _, _, _, _, ⟨h, h3⟩, h1, h2 => ⟨h, Stk.app h3 h1 h2⟩
  | [], _ :: _, _, _, _, h, _, _ => h.elim
  | _ :: _, [], _, _, _, h, _, _ => h.elim
theorem Stk.last : ∀ {as : List Addr} {xs : List (List PyData)} {x : List PyData}, Stk K H as (xs ++ [x]) → ∃ as0 a vs, as = as0 ++ [a] ∧ Stk K H as0 xs ∧ H a = some (.lst vs) ∧ DpAll K H vs x
  | [], [], _, h => h.elim
  | [], _ :: _, _, h => h.elim
  | [a], [], x, ⟨⟨vs, h1, h2⟩, _⟩ => ⟨[], a, vs, rfl, trivial, h1, h2⟩
  | _ :: _ :: _, [], _, ⟨_, h⟩ => h.elim
  | a :: as, y :: xs, x, ⟨h, h3⟩ => by
    obtain ⟨as0, b, vs, e, g1, g2, g3⟩ := Stk.last h3
    exact ⟨a :: as0, b, vs, by rw [e]; rfl, ⟨h, g1⟩, g2, g3⟩
theorem flat_all (h : flatRS S = true) : (∀ x ∈ S.stack, flatDs x = true) ∧ flatDs S.told = true := by
  unfold flatRS at h
  rw [Bool.and_eq_true] at h
  exact ⟨List.all_eq_true.mp h.1, h.2⟩
/-- all stands but p, which may be changed -/
theorem RdAt.but {p : Addr} {o : HO} (R : RdAt K C H0 H r S D) (hp : H0 p = none) : Ex H0 (upd H p o) := Evl.Ex.mut R.ex hp
theorem RdAt.rlt (R : RdAt K C H0 H r S D) : r ≠ D.lt := ne_of R.ob R.tu (fun z => by cases z)
theorem RdAt.rld (R : RdAt K C H0 H r S D) : r ≠ D.ld := by
  obtain ⟨vd, h, _⟩ := R.to
  exact ne_of R.ob h (fun z => by cases z)
theorem Stk.mem : ∀ {as : List Addr} {xs : List (List PyData)} {a : Addr}, Stk K H as xs → a ∈ as → ∃ vs, H a = some (.lst vs)
  | a :: as, x :: xs, b, ⟨⟨vs, h1, _⟩, h3⟩, hb => by
    rcases List.mem_cons.mp hb with rfl | hb
    · exact ⟨vs, h1⟩
    · exact Stk.mem h3 hb
  | [], _, _, _, hb => by cases hb
  | _ :: _, [], _, h, _ => h.elim
theorem RdAt.ra (R : RdAt K C H0 H r S D) : r ∉ D.as := fun h => by
  obtain ⟨vs, e⟩ := R.st.mem h
  rw [R.ob] at e
  cases e
theorem RdAt.grow (R : RdAt K C H0 H r S D) (e : Ex H H') : RdAt K C H0 H' r S D := by
  obtain ⟨vd, h1, h2⟩ := R.to
  exact ⟨R.ex.trans e, e _ _ R.ob, e _ _ R.tu, ⟨vd, e _ _ h1, dpa_ex e h2⟩, R.st.keep (flat_all R.fl).1 (Kt.of_ex e) (fun a _ vs h => e _ _ h), R.nr, R.nt, R.nl, R.na, R.nd, R.ta, R.la, R.tl, R.fl⟩
theorem RdAt.setReady (R : RdAt K C H0 H r S D) (b : Bool) : RdAt K C H0 (upd H r (.ins C D.dx (rf D.lt b D.ld))) r ⟨S.stack, b, S.told⟩ D := by
  obtain ⟨vd, h1, h2⟩ := R.to
  have k : Kt H (upd H r (.ins C D.dx (rf D.lt b D.ld))) := Kt.upd R.ob trivial
  exact ⟨R.but R.nr, upd_same, by rw [upd_ne R.rlt.symm]; exact R.tu, ⟨vd, by rw [upd_ne R.rld.symm]; exact h1, dpa_kt k (flat_all R.fl).2 h2⟩,
    R.st.keep (flat_all R.fl).1 k (fun a ha vs h => by rw [upd_ne (by rintro rfl; exact R.ra ha)]; exact h), R.nr, R.nt, R.nl, R.na, R.nd, R.ta, R.la, R.tl, R.fl⟩
theorem RdAt.toldPut {vd : List V} {v : V} {d : PyData} (R : RdAt K C H0 H r S D) (h1 : H D.ld = some (.lst vd)) (h2 : DpAll K H vd S.told) (hd : Dp K H v d) (hf : flatD d = true) :
    RdAt K C H0 (upd H D.ld (.lst (vd ++ [v]))) r ⟨S.stack, S.ready, S.told ++ [d]⟩ D := by
  have k : Kt H (upd H D.ld (.lst (vd ++ [v]))) := Kt.upd h1 trivial
  refine ⟨R.but R.nl, by rw [upd_ne R.rld]; exact R.ob, by rw [upd_ne R.tl]; exact R.tu, ⟨_, upd_same, dpa_app (dpa_kt k (flat_all R.fl).2 h2) (.cons (dp_kt k hf hd) .nil)⟩,
    R.st.keep (flat_all R.fl).1 k (fun a ha vs h => by rw [upd_ne (by rintro rfl; exact R.la ha)]; exact h), R.nr, R.nt, R.nl, R.na, R.nd, R.ta, R.la, R.tl, ?_⟩
  have := flat_all R.fl
  have h3 := R.fl
  unfold flatRS at h3 ⊢
  rw [Bool.and_eq_true] at h3 ⊢
  refine ⟨h3.1, ?_⟩
  show flatDs (S.told ++ [d]) = true
  rw [flatDs_app, h3.2]
  simp [flatDs, hf]
theorem RdAt.innerPut {as0 : List Addr} {a : Addr} {st0 : List (List PyData)} {x : List PyData} {vs : List V} {v : V} {d : PyData} {b : Bool} {told : List PyData} {dx lt ld : Addr}
    (R : RdAt K C H0 H r ⟨st0 ++ [x], b, told⟩ ⟨dx, lt, ld, as0 ++ [a]⟩) (h0 : Stk K H as0 st0) (h1 : H a = some (.lst vs)) (h2 : DpAll K H vs x) (hd : Dp K H v d) (hf : flatD d = true) :
    RdAt K C H0 (upd H a (.lst (vs ++ [v]))) r ⟨st0 ++ [x ++ [d]], b, told⟩ ⟨dx, lt, ld, as0 ++ [a]⟩ := by
  have k : Kt H (upd H a (.lst (vs ++ [v]))) := Kt.upd h1 trivial
  have fa := flat_all R.fl
  have hra : r ≠ a := fun z => R.ra (by simp [z])
  have hta : lt ≠ a := fun z => R.ta (by simp [z])
  have hla : ld ≠ a := fun z => R.la (by simp [z])
  have nd := R.nd
  rw [List.nodup_append] at nd
  obtain ⟨vd, g1, g2⟩ := R.to
  refine ⟨R.but (R.na a (by simp)), by rw [upd_ne hra]; exact R.ob, by rw [upd_ne hta]; exact R.tu, ⟨vd, by rw [upd_ne hla]; exact g1, dpa_kt k fa.2 g2⟩, ?_, R.nr, R.nt, R.nl, R.na, R.nd, R.ta, R.la, R.tl, ?_⟩
  · refine Stk.app (h0.keep (fun y hy => fa.1 y (by simp [hy])) k fun b hb vs h => ?_) upd_same (dpa_app (dpa_kt k (fa.1 x (by simp)) h2) (.cons (dp_kt k hf hd) .nil))
    rw [upd_ne (fun z => nd.2.2 b hb a (by simp) z)]
    exact h
  · have h3 := R.fl
    unfold flatRS at h3 ⊢
    simp only [List.all_append, List.all_cons, List.all_nil, Bool.and_true, flatDs_app, flatDs, hf, Bool.and_eq_true] at h3 ⊢
    exact ⟨⟨h3.1.1, h3.1.2⟩, h3.2⟩
theorem RdAt.pushNew {p : Addr} {st0 : List (List PyData)} {b : Bool} {told : List PyData} {dx lt ld : Addr} {as0 : List Addr} (R : RdAt K C H0 H r ⟨st0, b, told⟩ ⟨dx, lt, ld, as0⟩) (np : H p = none) :
    RdAt K C H0 (upd (upd H p (.lst [])) lt (.lst (as0.map V.ref ++ [.ref p]))) r ⟨st0 ++ [[]], b, told⟩ ⟨dx, lt, ld, as0 ++ [p]⟩ := by
  have R1 := R.grow (Evl.Ex.new np (o := .lst []))
  have hpa : p ∉ as0 := fun h => by
    obtain ⟨vs, e⟩ := R.st.mem h
    rw [np] at e
    cases e
  have hpt : lt ≠ p := ne_of_none R.tu np
  obtain ⟨vd0, g0, _⟩ := R.to
  have hpl : ld ≠ p := ne_of_none g0 np
  obtain ⟨vd, g1, g2⟩ := R1.to
  have fa := flat_all R.fl
  have k : Kt (upd H p (.lst [])) (upd (upd H p (.lst [])) lt (.lst (as0.map V.ref ++ [.ref p]))) := Kt.upd R1.tu trivial
  refine ⟨R1.but R.nt, by rw [upd_ne R1.rlt]; exact R1.ob, by rw [upd_same, List.map_append]; rfl, ⟨vd, by rw [upd_ne R.tl.symm]; exact g1, dpa_kt k fa.2 g2⟩, ?_, R.nr, R.nt, R.nl, ?_, ?_, ?_, ?_, R.tl, ?_⟩
  · refine Stk.app (R1.st.keep fa.1 k fun c hc vs h => by rw [upd_ne (by rintro rfl; exact R.ta hc)]; exact h) (vs := []) (by rw [upd_ne hpt.symm]; exact upd_same) .nil
  · intro c hc
    rcases List.mem_append.mp hc with h | h
    · exact R.na c h
    · rw [List.mem_singleton.mp h]
      exact Evl.fresh_back R.ex np
  · rw [List.nodup_append]
    exact ⟨R.nd, by simp, fun c hc e he z => hpa (by rw [← List.mem_singleton.mp he, ← z]; exact hc)⟩
  · intro h
    rcases List.mem_append.mp h with h | h
    · exact R.ta h
    · exact hpt (List.mem_singleton.mp h)
  · intro h
    rcases List.mem_append.mp h with h | h
    · exact R.la h
    · exact hpl (List.mem_singleton.mp h)
  · have h3 := R.fl
    unfold flatRS at h3 ⊢
    simp only [List.all_append, List.all_cons, List.all_nil, Bool.and_true, flatDs, Bool.and_eq_true] at h3 ⊢
    exact h3
theorem RdAt.popLast {as0 : List Addr} {a : Addr} {st0 : List (List PyData)} {x : List PyData} {b : Bool} {told : List PyData} {dx lt ld : Addr}
    (R : RdAt K C H0 H r ⟨st0 ++ [x], b, told⟩ ⟨dx, lt, ld, as0 ++ [a]⟩) (h0 : Stk K H as0 st0) : RdAt K C H0 (upd H lt (.lst ((as0 ++ [a]).map V.ref).dropLast)) r ⟨st0, b, told⟩ ⟨dx, lt, ld, as0⟩ := by
  have fa := flat_all R.fl
  have k : Kt H (upd H lt (.lst ((as0 ++ [a]).map V.ref).dropLast)) := Kt.upd R.tu trivial
  obtain ⟨vd, g1, g2⟩ := R.to
  have nd := R.nd
  rw [List.nodup_append] at nd
  refine ⟨R.but R.nt, by rw [upd_ne R.rlt]; exact R.ob, by rw [upd_same, List.map_append]; simp, ⟨vd, by rw [upd_ne R.tl.symm]; exact g1, dpa_kt k fa.2 g2⟩, ?_, R.nr, R.nt, R.nl, fun c hc => R.na c (by simp [hc]), nd.1, fun h => R.ta (by simp [h]), fun h => R.la (by simp [h]), R.tl, ?_⟩
  · exact h0.keep (fun y hy => fa.1 y (by simp [hy])) k fun c hc vs h => by rw [upd_ne (by rintro rfl; exact R.ta (by simp [hc]))]; exact h
  · have h3 := R.fl
    unfold flatRS at h3 ⊢
    simp only [List.all_append, List.all_cons, List.all_nil, Bool.and_true, Bool.and_eq_true] at h3 ⊢
    exact ⟨h3.1.1, h3.2⟩
end
end K53

namespace K53
open PySem PySem.Spec PyProof.Rows L2 KX M53
local macro_rules | `(tactic| walk_at "kx1") => `(tactic| first
  | (with_reducible refine q_seq ?_) | (with_reducible refine q_ifs ?_) | (with_reducible refine q_asg ?_) | (with_reducible refine q_gname ?_) | (with_reducible refine q_ret ?_)
  | (with_reducible refine q_drop ?_) | (with_reducible refine q_next ?_) | (with_reducible refine q_par ?_) | (with_reducible refine q_sfld ?_) | (with_reducible refine q_rs ?_) | (with_reducible refine q_gsub ?_) | (with_reducible refine q_retN ?_)
  | ((with_reducible show tVar _ _ _ _); (refine q_var rfl ?_)) | (with_reducible refine q_c ?_) | (with_reducible refine q_op ?_) | (with_reducible refine q_un ?_) | (with_reducible refine q_neg ?_) | (with_reducible refine q_cb ?_)
  | (with_reducible refine q_nil ?_) | (with_reducible refine q_cons ?_) | (with_reducible refine q_tup ?_) | (with_reducible refine q_lst ?_) | (with_reducible refine q_if ?_)
  | (with_reducible refine q_notT ?_) | (with_reducible refine q_call ?_) | (with_reducible refine q_callS ?_) | (with_reducible refine q_fld ?_)
  | (with_reducible refine q_bm ?_) | (with_reducible refine q_bm0 ?_) | (with_reducible refine q_sl ?_) | (with_reducible refine q_nopart ?_) | (with_reducible refine q_part ?_) | (with_reducible refine q_meth ?_) | (with_reducible refine q_make ?_)
  | (with_reducible refine q_test ?_) | (with_reducible refine q_tB ?_) | (with_reducible refine q_tru ?_) | (with_reducible refine q_not ?_)
  | (with_reducible refine q_blk ?_) | (with_reducible refine q_tv ?_) | (with_reducible refine q_addI ?_) | (with_reducible refine q_subI ?_) | (with_reducible refine q_eqI ?_) | (with_reducible refine q_neI ?_)
  | (with_reducible refine q_for ?_) | (with_reducible refine q_lc ?_) | (with_reducible refine q_iList ?_) | (with_reducible refine q_iTup ?_) | (with_reducible refine q_iStr ?_) | (with_reducible refine q_iRng1 ?_) | (with_reducible refine q_iRng2 ?_) | (with_reducible refine q_iRng3 ?_) | (with_reducible refine q_gcons ?_) | (with_reducible refine q_gnil ?_) | (with_reducible refine q_yes ?_) | (with_reducible refine q_ltI ?_) | (with_reducible refine q_iEnumS ?_) | (with_reducible refine q_pi ?_) | (with_reducible refine q_leI ?_) | (with_reducible refine q_gtI ?_) | (with_reducible refine q_geI ?_) | (with_reducible refine q_leT ?_) | (with_reducible refine q_intI ?_) | (with_reducible refine q_abs ?_) | (with_reducible refine q_eqT ?_) | (with_reducible refine q_neT ?_) | (with_reducible refine q_par3 ?_) | (with_reducible refine q_isN ?_) | (with_reducible refine q_notN ?_))
local macro_rules | `(tactic| walk_at "kx") => `(tactic| repeat walk_at "kx1")
local macro_rules | `(tactic| walk_at "kxs") => `(tactic| repeat (first | walk_at "kx1" | (with_reducible refine q_andT ?_) | (with_reducible refine q_orT ?_) | (with_reducible refine q_chain ?_) | (with_reducible refine q_and ?_) | (with_reducible refine q_or ?_)))
local macro_rules | `(tactic| walk_at "lits") => `(tactic| simp only [lit_0, lit_1, lit_2, lit_3, lit_4, lit_5, lit_6, lit_7, lit_8, lit_9, lit_10, lit_11, lit_12, lit_13, lit_14, lit_15, lit_16, lit_17, lit_18, lit_19, lit_20, lit_21, lit_22, lit_23, lit_24, lit_25, lit_26])

structure RdT (K : PySem.W.Frag) (C : Addr) : Prop where
  cl : Cls K C
  n1 : NoAttr K C "tuples"
  n2 : NoAttr K C "ready"
  n3 : NoAttr K C "told"
section
variable {P : Program} {w : World} {K : PySem.W.Frag} {mg : Str → Option Value} {base : Heap} {CM dS C : Addr}
def spRInit (K : PySem.W.Frag) (C : Addr) : Sp := fun vs H Q _ => ∃ H0 r dx, vs = [.ref r] ∧ H0 r = none ∧ Ex H0 H ∧ H r = some (.ins C dx []) ∧ ∀ H', Rd K C H0 H' r ⟨[], true, []⟩ → Q .non H'
theorem ok_rinit {f : Addr} {fd : FuncData} (F : Fun K "__init__" "DataReader.__init__" s_DataReader___init__ f fd) (T : Txt K mg CM) (RT : RdT K C) : FnOk P w K mg base CX0 1 f fd ["self"] (spRInit K C) := by
  refine F.ok sc_DataReader___init__ (fun vs H Q E h => ?_) (fun cdv A outer s H vs Q E hr h => ?_)
  · obtain ⟨H0, r, dx, rfl, _⟩ := h
    rfl
  · obtain ⟨H0, r, dx, rfl, nr, ex, hr0, q⟩ := h
    refine ⟨_, (pss_cons (w_sfld (K := K) (pv 0) (pe_lst pa_nil))
      (pss_cons (w_sfld (K := K) (pv 0) pe_bl)
      (pss_one (w_sfld (K := K) (pv 0) (pe_lst pa_nil))))), ?_⟩
    walk_at "kx"
    refine ⟨sml rfl, fun lt nlt => ?_⟩
    walk_at "kx"
    have r1 : r ≠ lt := ne_of_none hr0 nlt
    refine ⟨r, C, dx, [], rfl, by rw [upd_ne r1]; exact hr0, RT.cl, RT.n1, by decide, ?_⟩
    walk_at "kx"
    refine ⟨r, C, dx, _, rfl, upd_same, RT.cl, RT.n2, by show 1 < 1000; decide, ?_⟩
    walk_at "kx"
    refine ⟨sml rfl, fun ld nld => ?_⟩
    walk_at "kx"
    have r2 : r ≠ ld := ne_of_none upd_same nld
    have tl : lt ≠ ld := ne_of_none (by rw [upd_ne r1.symm, upd_ne r1.symm]; exact upd_same) nld
    refine ⟨r, C, dx, _, rfl, by rw [upd_ne r2]; exact upd_same, RT.cl, RT.n3, ?_, ?_⟩
    · show (putF "ready" (.bl true) (putF "tuples" (.ref lt) [])).length < 1000
      show (if ("tuples" : Str) = "ready" then _ else (("tuples" : Str), V.ref lt) :: [(("ready" : Str), V.bl true)]).length < 1000
      rw [if_neg n_tr]
      show 2 < 1000
      decide
    · rw [rf_init]
      have x1 : Ex H0 (upd H lt (.lst [])) := ex.trans (Evl.Ex.new nlt)
      have x2 := Evl.Ex.mut (o := .ins C dx (putF "tuples" (.ref lt) [])) x1 nr
      have x3 := Evl.Ex.mut (o := .ins C dx (putF "ready" (.bl true) (putF "tuples" (.ref lt) []))) x2 nr
      have x4 := x3.trans (Evl.Ex.new nld (o := .lst []))
      refine q _ ⟨⟨dx, lt, ld, []⟩, Evl.Ex.mut x4 nr, upd_same, ?_, ⟨[], ?_, .nil⟩, trivial, nr, Evl.fresh_back ex nlt, Evl.fresh_back x3 nld, by simp, List.nodup_nil, by simp, by simp, tl, rfl⟩
      · rw [upd_ne r1.symm, upd_ne tl, upd_ne r1.symm, upd_ne r1.symm]
        exact upd_same
      · rw [upd_ne r2.symm]
        exact upd_same
def spM (K : PySem.W.Frag) (C CM : Addr) (m : RS → Option RS) : Sp := fun vs H Q E => ∃ H0 r S, vs = [.ref r] ∧ Rd K C H0 H r S ∧ wt S ≤ 300000 ∧
  (∀ S', m S = some S' → ∀ H', Rd K C H0 H' r S' → Q .non H') ∧ (m S = none → ∀ H', Ex H0 H' → E (.ref CM) none H')
def spItemR (K : PySem.W.Frag) (C CM : Addr) : Sp := fun vs H Q E => ∃ H0 r v S d, vs = [.ref r, v] ∧ Rd K C H0 H r S ∧ wt S ≤ 300000 ∧ Dp K H v d ∧ flatD d = true ∧
  (∀ S', itemS S d = some S' → ∀ H', Rd K C H0 H' r S' → Q .non H') ∧ (itemS S d = none → ∀ H', Ex H0 H' → E (.ref CM) none H')
theorem wt_told {st : List (List PyData)} {b : Bool} {told : List PyData} : told.length ≤ wt ⟨st, b, told⟩ := Nat.le_add_left _ _
theorem wt_stack {st : List (List PyData)} {b : Bool} {told : List PyData} : st.length ≤ wt ⟨st, b, told⟩ := by
  unfold wt
  have : st.length ≤ (st.map fun x => x.length + 1).sum := by
    induction st with
    | nil => exact Nat.le_refl _
    | cons x r ih => simp only [List.length_cons, List.map_cons, List.sum_cons]; omega
  show st.length ≤ (st.map fun x => x.length + 1).sum + told.length
  omega
theorem wt_last {st : List (List PyData)} {x : List PyData} {b : Bool} {told : List PyData} : x.length ≤ wt ⟨st ++ [x], b, told⟩ := by
  unfold wt
  show x.length ≤ ((st ++ [x]).map fun x => x.length + 1).sum + told.length
  simp only [List.map_append, List.map_cons, List.map_nil, List.sum_append, List.sum_cons, List.sum_nil]
  omega
theorem ok_ritem {f : Addr} {fd : FuncData} (D : MethAt K C "item" "DataReader.item" s_DataReader_item f fd ["self", "value"]) (T : Txt K mg CM) (RT : RdT K C) : FnOk P w K mg base (L2.CX P w) 1 f fd ["self", "value"] (spItemR K C CM) := by
  refine D.fn.okX sc_DataReader_item (fun vs H Q E h => ?_) (fun cdv A outer s H vs Q E hr h => ?_)
  · obtain ⟨H0, r, v, S, d, rfl, _⟩ := h
    rfl
  · obtain ⟨H0, r, v, ⟨st, b, told⟩, d, rfl, ⟨⟨dx, lt, ld, as⟩, R⟩, hw, hd, hf, q, qE⟩ := h
    have hs0 := sizeLine_eq
    have hu := u65 hr
    refine ⟨_, (pss_cons (ps_if (pt_not (w_tru (K := K) (w_fld (K := K) (pv 0)))) (pss_one (ps_rs rfl tkE T.x_Malformed)) pss_nil)
      (pss_cons (ps_if (pt_cmpR k_gt (pe_callB (w_len (K := K)) rfl T.b_len bb_len (pa_cons (w_fld (K := K) (pv 0)) pa_nil)) pe_int (nomark _)) (pss_one (ps_expr (wk_bm (K := K) (pe_bm PySem.F.plainAttrs_list PySem.F.slot_list_append PySem.F.type_list_append mt_append (pe_ix (w_ix (K := K)) (w_fld (K := K) (pv 0)) (pe_un un_neg pe_int) (fun _ _ => rfl)) (pa_cons (pv 1) pa_nil))))) (pss_one (ps_expr (wk_bm (K := K) (pe_bm PySem.F.plainAttrs_list PySem.F.slot_list_append PySem.F.type_list_append mt_append (w_fld (K := K) (pv 0)) (pa_cons (pv 1) pa_nil))))))
      (pss_one (w_sfld (K := K) (pv 0) pe_bl)))), ?_⟩
    walk_at "kx"
    refine ⟨r, C, dx, _, _, rfl, R.ob, RT.cl, RT.n2, rf_ready _ _ _, ?_⟩
    walk_at "kx"
    cases b with
    | false =>
      refine ifY rfl ?_
      exact qE (item_no _ _ _) H R.ex
    | true =>
      refine ifF rfl ?_
      walk_at "kx"
      refine ⟨r, C, dx, _, _, rfl, R.ob, RT.cl, RT.n1, rf_tuples _ _ _, ?_⟩
      walk_at "kx"
      refine q_lenL (SqL.of R.tu) ?_
      walk_at "kx"
      rcases List.eq_nil_or_concat st with rfl | ⟨st0, x, rfl⟩
      · have ha : as = [] := by have := R.st.len; simpa using this
        subst ha
        refine ifF rfl ?_
        walk_at "kx"
        refine ⟨r, C, dx, _, _, rfl, R.ob, RT.cl, RT.n3, rf_told _ _ _, ?_⟩
        obtain ⟨vd, h1, h2⟩ := R.to
        refine ⟨ty_lst h1, ?_⟩
        walk_at "kx"
        have hl : vd.length = told.length := dpa_len h2
        have hl2 := @wt_told [] true told
        refine q_app h1 (by omega) ?_
        have R2 := R.toldPut h1 h2 hd hf
        walk_at "kx"
        refine ⟨r, C, dx, _, rfl, R2.ob, RT.cl, RT.n2, by show 3 < 1000; decide, ?_⟩
        rw [rf_put]
        exact q _ (item_nil _ _) _ ⟨_, R2.setReady false⟩
      · rw [List.concat_eq_append] at *
        obtain ⟨as0, a, vs, rfl, h0, h1, h2⟩ := R.st.last
        refine ifY (decide_eq_true (by simp)) ?_
        walk_at "kx"
        refine ⟨r, C, dx, _, _, rfl, R.ob, RT.cl, RT.n1, rf_tuples _ _ _, ?_⟩
        walk_at "kx"
        refine q_ixLast (xs := as0.map V.ref) (v := .ref a) (by have e := SqL.of (K := K) R.tu; rw [List.map_append] at e; exact e) ?_
        refine ⟨ty_lst h1, ?_⟩
        walk_at "kx"
        have hl : vs.length = x.length := dpa_len h2
        have hl2 := @wt_last st0 x true told
        refine q_app h1 (by omega) ?_
        have R2 := R.innerPut h0 h1 h2 hd hf
        walk_at "kx"
        refine ⟨r, C, dx, _, rfl, R2.ob, RT.cl, RT.n2, by show 3 < 1000; decide, ?_⟩
        rw [rf_put]
        exact q _ (item_app _ _ _ _) _ ⟨_, R2.setReady false⟩
theorem ok_ropen {f : Addr} {fd : FuncData} (D : MethAt K C "open_one" "DataReader.open_one" s_DataReader_open_one f fd ["self"]) (T : Txt K mg CM) (RT : RdT K C) : FnOk P w K mg base (L2.CX P w) 1 f fd ["self"] (spM K C CM openS) := by
  refine D.fn.okX sc_DataReader_open_one (fun vs H Q E h => ?_) (fun cdv A outer s H vs Q E hr h => ?_)
  · obtain ⟨H0, r, S, rfl, _⟩ := h
    rfl
  · obtain ⟨H0, r, ⟨st, b, told⟩, rfl, ⟨⟨dx, lt, ld, as⟩, R⟩, hw, q, qE⟩ := h
    have hs0 := sizeLine_eq
    have hu := u65 hr
    have hal : as.length = st.length := R.st.len
    refine ⟨_, (pss_cons (ps_if (PW.pt (pw_or (pt_not (w_tru (K := K) (w_fld (K := K) (pv 0)))) (pw_or1 (pt_cmpR k_ge (pe_callB (w_len (K := K)) rfl T.b_len bb_len (pa_cons (w_fld (K := K) (pv 0)) pa_nil)) (k_glob rfl T.g_MOST_DEPTH) (nomark _))))) (pss_one (ps_rs rfl tkE T.x_Malformed)) pss_nil)
      (pss_one (ps_expr (wk_bm (K := K) (pe_bm PySem.F.plainAttrs_list PySem.F.slot_list_append PySem.F.type_list_append mt_append (w_fld (K := K) (pv 0)) (pa_cons (pe_lst pa_nil) pa_nil)))))), ?_⟩
    walk_at "kx"
    refine q_orB (a := !b) (b := decide ((1000 : Int) ≤ ((as.map V.ref).length : Nat))) (fun R1 q => ?_) (fun _ R1 q => ?_) ?_
    · walk_at "kx"
      refine ⟨r, C, dx, _, _, rfl, R.ob, RT.cl, RT.n2, rf_ready _ _ _, ?_⟩
      walk_at "kx"
      exact q
    · walk_at "kx"
      refine ⟨r, C, dx, _, _, rfl, R.ob, RT.cl, RT.n1, rf_tuples _ _ _, ?_⟩
      walk_at "kx"
      refine q_lenL (SqL.of R.tu) ?_
      walk_at "kx"
      exact q
    rw [List.length_map, hal]
    refine ifT (fun h1 => ?_) (fun h1 => ?_)
    · refine qE ?_ H R.ex
      unfold openS
      refine if_pos ?_
      rw [Bool.or_eq_true] at h1
      rcases h1 with h1 | h1
      · exact .inl (by simpa using h1)
      · have := of_decide_eq_true h1
        exact .inr (by show 1000 ≤ st.length; omega)
    · rw [Bool.or_eq_false_iff] at h1
      have h2 := of_decide_eq_false h1.2
      have h3 : b = true := by simpa using h1.1
      subst h3
      walk_at "kx"
      refine ⟨r, C, dx, _, _, rfl, R.ob, RT.cl, RT.n1, rf_tuples _ _ _, ?_⟩
      refine ⟨ty_lst R.tu, ?_⟩
      walk_at "kx"
      refine ⟨sml rfl, fun p np => ?_⟩
      walk_at "kx"
      have hl2 := @wt_stack st true told
      have np2 : lt ≠ p := ne_of_none R.tu np
      refine q_app (by rw [upd_ne np2]; exact R.tu) (by rw [List.length_map]; show as.length < _; omega) ?_
      refine q ⟨st ++ [[]], true, told⟩ ?_ _ ⟨_, R.pushNew np⟩
      unfold openS
      exact if_neg (fun z => z.elim (fun e => by cases e) (fun e => by have e' : 1000 ≤ st.length := e; omega))
theorem ok_rcomma {f : Addr} {fd : FuncData} (D : MethAt K C "comma" "DataReader.comma" s_DataReader_comma f fd ["self"]) (T : Txt K mg CM) (RT : RdT K C) : FnOk P w K mg base (L2.CX P w) 1 f fd ["self"] (spM K C CM commaS) := by
  refine D.fn.okX sc_DataReader_comma (fun vs H Q E h => ?_) (fun cdv A outer s H vs Q E hr h => ?_)
  · obtain ⟨H0, r, S, rfl, _⟩ := h
    rfl
  · obtain ⟨H0, r, ⟨st, b, told⟩, rfl, ⟨⟨dx, lt, ld, as⟩, R⟩, hw, q, qE⟩ := h
    have hu := u65 hr
    have hal : as.length = st.length := R.st.len
    refine ⟨_, (pss_cons (ps_if (PW.pt (pw_or (w_tru (K := K) (w_fld (K := K) (pv 0))) (pw_or1 (pt_cmpR (w_eq (K := K) hu) (pe_callB (w_len (K := K)) rfl T.b_len bb_len (pa_cons (w_fld (K := K) (pv 0)) pa_nil)) pe_int (nomark _))))) (pss_one (ps_rs rfl tkE T.x_Malformed)) pss_nil)
      (pss_one (w_sfld (K := K) (pv 0) pe_bl))), ?_⟩
    walk_at "kx"
    refine q_orB (a := b) (b := decide ((((as.map V.ref).length : Nat) : Int) = 0)) (fun R1 q => ?_) (fun _ R1 q => ?_) ?_
    · walk_at "kx"
      refine ⟨r, C, dx, _, _, rfl, R.ob, RT.cl, RT.n2, rf_ready _ _ _, ?_⟩
      walk_at "kx"
      exact q
    · walk_at "kx"
      refine ⟨r, C, dx, _, _, rfl, R.ob, RT.cl, RT.n1, rf_tuples _ _ _, ?_⟩
      walk_at "kx"
      refine q_lenL (SqL.of R.tu) ?_
      walk_at "kx"
      exact q
    rw [List.length_map, hal]
    refine ifT (fun h1 => ?_) (fun h1 => ?_)
    · refine qE ?_ H R.ex
      unfold commaS
      refine if_pos ?_
      rw [Bool.or_eq_true] at h1
      rcases h1 with h1 | h1
      · exact .inl h1
      · have := of_decide_eq_true h1
        exact .inr (List.length_eq_zero_iff.mp (by show st.length = 0; omega))
    · rw [Bool.or_eq_false_iff] at h1
      have h2 := of_decide_eq_false h1.2
      walk_at "kx"
      refine ⟨r, C, dx, _, rfl, R.ob, RT.cl, RT.n2, by show 3 < 1000; decide, ?_⟩
      rw [rf_put]
      refine q ⟨st, true, told⟩ ?_ _ ⟨_, R.setReady true⟩
      unfold commaS
      refine if_neg (fun z => z.elim (fun e => ?_) (fun e => ?_))
      · have e' : b = true := e
        rw [h1.1] at e'
        cases e'
      · have e' : st = [] := e
        rw [e'] at h2
        exact h2 rfl
theorem ok_rclose {f f1 : Addr} {fd fd1 : FuncData} (D : MethAt K C "close_one" "DataReader.close_one" s_DataReader_close_one f fd ["self"]) (D_DataReader_item : MethAt K C "item" "DataReader.item" s_DataReader_item f1 fd1 ["self", "value"]) (T : Txt K mg CM) (RT : RdT K C) :
    FnOk P w K mg base (L2.CX P w) 2 f fd ["self"] (spM K C CM closeS) := by
  have G_DataReader_item : FnOk P w K mg base (L2.CX P w) 1 f1 fd1 ["self", "value"] (spItemR K C CM) := ok_ritem D_DataReader_item T RT
  refine D.fn.okX sc_DataReader_close_one (fun vs H Q E h => ?_) (fun cdv A outer s H vs Q E hr h => ?_)
  · obtain ⟨H0, r, S, rfl, _⟩ := h
    rfl
  · obtain ⟨H0, r, ⟨st, b, told⟩, rfl, ⟨⟨dx, lt, ld, as⟩, R⟩, hw, q, qE⟩ := h
    have hu := u65 hr
    have hal : as.length = st.length := R.st.len
    refine ⟨_, (pss_cons (ps_if (PW.pt (pw_or (pt_cmpR (w_eq (K := K) hu) (pe_callB (w_len (K := K)) rfl T.b_len bb_len (pa_cons (w_fld (K := K) (pv 0)) pa_nil)) pe_int (nomark _)) (pw_or1 (PW.pt (pw_and (w_tru (K := K) (w_fld (K := K) (pv 0))) (pw_and1 (pt_cmpR k_gt (pe_callB (w_len (K := K)) rfl T.b_len bb_len (pa_cons (pe_ix (w_ix (K := K)) (w_fld (K := K) (pv 0)) (pe_un un_neg pe_int) (fun _ _ => rfl)) pa_nil)) pe_int (nomark _)))))))) (pss_one (ps_rs rfl tkE T.x_Malformed)) pss_nil)
      (pss_cons (ps_set (i := 1) sc_DataReader_close_one.nd rfl (Or.inl rfl) (pe_callTy (w_tuple (K := K)) rfl T.b_tuple bb_tuple (pa_cons (w_bm0 (K := K) PySem.F.plainAttrs_list PySem.F.slot_list_pop PySem.F.type_list_pop mt_pop (w_fld (K := K) (pv 0))) pa_nil)))
      (pss_cons (w_sfld (K := K) (pv 0) pe_bl)
      (pss_one (ps_expr (pe_meth (pv 0) RT.cl D_DataReader_item.m G_DataReader_item (hr.mono (by decide)) D_DataReader_item.b .nil passT (pa_cons (pv 1) pa_nil))))))), ?_⟩
    walk_at "kxs"
    refine ⟨r, C, dx, _, _, rfl, R.ob, RT.cl, RT.n1, rf_tuples _ _ _, ?_⟩
    walk_at "kx"
    refine q_lenL (SqL.of R.tu) ?_
    walk_at "kx"
    rcases List.eq_nil_or_concat st with rfl | ⟨st0, x, rfl⟩
    · have ha : as = [] := by simpa using hal
      subst ha
      refine ifY rfl (ifY rfl ?_)
      exact qE (close_nil _ _) H R.ex
    · rw [List.concat_eq_append] at *
      obtain ⟨as0, a, vs, rfl, h0, h1, h2⟩ := R.st.last
      refine ifF (decide_eq_false (by rw [List.length_map, List.length_append]; simp only [List.length_cons, List.length_nil]; omega)) ?_
      refine q_andB (a := b) (b := decide ((0 : Int) < (vs.length : Nat))) (fun R1 q => ?_) (fun _ R1 q => ?_) ?_
      · walk_at "kx"
        refine ⟨r, C, dx, _, _, rfl, R.ob, RT.cl, RT.n2, rf_ready _ _ _, ?_⟩
        walk_at "kx"
        exact q
      · walk_at "kx"
        refine ⟨r, C, dx, _, _, rfl, R.ob, RT.cl, RT.n1, rf_tuples _ _ _, ?_⟩
        walk_at "kx"
        refine q_ixLast (xs := as0.map V.ref) (v := .ref a) (by have e := SqL.of (K := K) R.tu; rw [List.map_append] at e; exact e) ?_
        walk_at "kx"
        refine q_lenL (SqL.of h1) ?_
        walk_at "kx"
        exact q
      have hl : vs.length = x.length := dpa_len h2
      have ec := close_app st0 x told b
      have e1 : (b && decide ((0 : Int) < (vs.length : Nat))) = decide (b = true ∧ x ≠ []) := by
        rw [hl, Bool.decide_and, Bool.decide_eq_true]
        congr 1
        rw [decide_eq_decide]
        cases x with
        | nil => simp
        | cons y r => simp
      rw [e1]
      refine ifT (fun h3 => ?_) (fun h3 => ?_)
      · refine qE ?_ H R.ex
        rw [ec, if_pos (of_decide_eq_true h3)]
      · rw [if_neg (of_decide_eq_false h3)] at ec
        walk_at "kx"
        refine ⟨r, C, dx, _, _, rfl, R.ob, RT.cl, RT.n1, rf_tuples _ _ _, ?_⟩
        refine ⟨ty_lst R.tu, ?_⟩
        refine q_pop R.tu (y := .ref a) (by simp) ?_
        have R2 := R.popLast h0
        have fa := flat_all R.fl
        have fx : flatDs x = true := fa.1 x (by simp)
        have k2 : Kt H (upd H lt (.lst ((as0 ++ [a]).map V.ref).dropLast)) := Kt.upd R.tu trivial
        have hta : a ≠ lt := fun z => R.ta (by simp [z])
        have h1' : upd H lt (.lst ((as0 ++ [a]).map V.ref).dropLast) a = some (.lst vs) := by rw [upd_ne hta]; exact h1
        have h2' := dpa_kt k2 fx h2
        generalize upd H lt (.lst ((as0 ++ [a]).map V.ref).dropLast) = H2 at R2 h1' h2'
        walk_at "kx"
        refine ⟨a, vs, rfl, .inl ⟨SqL.of h1', fun l nl => ?_⟩⟩
        have R3 := R2.grow (Evl.Ex.new nl (o := .tup vs))
        have hd3 : Dp K (upd H2 l (.tup vs)) (.ref l) (.tuple x) := .tup (SqT.of upd_same) (dpa_ex (Evl.Ex.new nl) h2')
        generalize upd H2 l (.tup vs) = H3 at R3 hd3
        walk_at "kx"
        refine ⟨r, C, dx, _, rfl, R3.ob, RT.cl, RT.n2, by show 3 < 1000; decide, ?_⟩
        rw [rf_put]
        have R4 := R3.setReady true
        have hd4 : Dp K (upd H3 r (.ins C dx (rf lt true ld))) (.ref l) (.tuple x) := dp_kt (Kt.upd R3.ob trivial) (by simpa only [flatD] using fx) hd3
        generalize upd H3 r (.ins C dx (rf lt true ld)) = H4 at R4 hd4
        walk_at "kx"
        refine ⟨r, dx, _, rfl, R4.ob, rf_no _ _ _ (by decide +kernel) (by decide +kernel) (by decide +kernel), ?_⟩
        walk_at "kx"
        refine ⟨H0, r, .ref l, ⟨st0, true, told⟩, .tuple x, rfl, ⟨_, R4⟩, ?_, hd4, by simpa only [flatD] using fx, fun S' e H' R' => q S' (by rw [ec]; exact e) H' R', fun e H' x' => qE (by rw [ec]; exact e) H' x'⟩
        refine Nat.le_trans ?_ hw
        unfold wt
        simp only [List.map_append, List.map_cons, List.map_nil, List.sum_append, List.sum_cons, List.sum_nil]
        omega
end
end K53

namespace K53
open PySem PySem.Spec PyProof.Rows L2 KX M53
local macro_rules | `(tactic| walk_at "kx1") => `(tactic| first
  | (with_reducible refine q_seq ?_) | (with_reducible refine q_ifs ?_) | (with_reducible refine q_asg ?_) | (with_reducible refine q_gname ?_) | (with_reducible refine q_ret ?_)
  | (with_reducible refine q_drop ?_) | (with_reducible refine q_next ?_) | (with_reducible refine q_par ?_) | (with_reducible refine q_sfld ?_) | (with_reducible refine q_rs ?_) | (with_reducible refine q_gsub ?_) | (with_reducible refine q_retN ?_)
  | ((with_reducible show tVar _ _ _ _); (refine q_var rfl ?_)) | (with_reducible refine q_c ?_) | (with_reducible refine q_op ?_) | (with_reducible refine q_un ?_) | (with_reducible refine q_neg ?_) | (with_reducible refine q_cb ?_)
  | (with_reducible refine q_nil ?_) | (with_reducible refine q_cons ?_) | (with_reducible refine q_tup ?_) | (with_reducible refine q_lst ?_) | (with_reducible refine q_if ?_)
  | (with_reducible refine q_notT ?_) | (with_reducible refine q_call ?_) | (with_reducible refine q_callS ?_) | (with_reducible refine q_fld ?_)
  | (with_reducible refine q_bm ?_) | (with_reducible refine q_bm0 ?_) | (with_reducible refine q_sl ?_) | (with_reducible refine q_nopart ?_) | (with_reducible refine q_part ?_) | (with_reducible refine q_meth ?_) | (with_reducible refine q_make ?_)
  | (with_reducible refine q_test ?_) | (with_reducible refine q_tB ?_) | (with_reducible refine q_tru ?_) | (with_reducible refine q_not ?_)
  | (with_reducible refine q_blk ?_) | (with_reducible refine q_tv ?_) | (with_reducible refine q_addI ?_) | (with_reducible refine q_subI ?_) | (with_reducible refine q_eqI ?_) | (with_reducible refine q_neI ?_)
  | (with_reducible refine q_for ?_) | (with_reducible refine q_lc ?_) | (with_reducible refine q_iList ?_) | (with_reducible refine q_iTup ?_) | (with_reducible refine q_iStr ?_) | (with_reducible refine q_iRng1 ?_) | (with_reducible refine q_iRng2 ?_) | (with_reducible refine q_iRng3 ?_) | (with_reducible refine q_gcons ?_) | (with_reducible refine q_gnil ?_) | (with_reducible refine q_yes ?_) | (with_reducible refine q_ltI ?_) | (with_reducible refine q_iEnumS ?_) | (with_reducible refine q_pi ?_) | (with_reducible refine q_leI ?_) | (with_reducible refine q_gtI ?_) | (with_reducible refine q_geI ?_) | (with_reducible refine q_leT ?_) | (with_reducible refine q_intI ?_) | (with_reducible refine q_abs ?_) | (with_reducible refine q_eqT ?_) | (with_reducible refine q_neT ?_) | (with_reducible refine q_par3 ?_) | (with_reducible refine q_isN ?_) | (with_reducible refine q_notN ?_))
local macro_rules | `(tactic| walk_at "kx") => `(tactic| repeat walk_at "kx1")
local macro_rules | `(tactic| walk_at "kxs") => `(tactic| repeat (first | walk_at "kx1" | (with_reducible refine q_andT ?_) | (with_reducible refine q_orT ?_) | (with_reducible refine q_chain ?_) | (with_reducible refine q_and ?_) | (with_reducible refine q_or ?_)))
local macro_rules | `(tactic| walk_at "lits") => `(tactic| simp only [lit_0, lit_1, lit_2, lit_3, lit_4, lit_5, lit_6, lit_7, lit_8, lit_9, lit_10, lit_11, lit_12, lit_13, lit_14, lit_15, lit_16, lit_17, lit_18, lit_19, lit_20, lit_21, lit_22, lit_23, lit_24, lit_25, lit_26])

section
variable {P : Program} {w : World} {K : PySem.W.Frag} {mg : Str → Option Value} {base : Heap} {CM dS C : Addr}
theorem valD_dp {H : Hp} {d : PyData} {l : List Nat} (h : rdAtom l = some d) : Dp K H (valD d) d := by
  unfold rdAtom at h
  split at h
  · cases h; exact .bl _
  · split at h
    · cases h; exact .bl _
    · split at h
      · cases h; exact .str _
      · split at h
        · cases h; exact .str _
        · split at h
          · cases h; exact .int _
          · cases h
def spTakeR (K : PySem.W.Frag) (C CM : Addr) : Sp := fun vs H Q E => ∃ H0 r S p, vs = [.ref r, .str (tx p)] ∧ Rd K C H0 H r S ∧ wt S ≤ 300000 ∧ p.length ≤ 100000 ∧
  (∀ S', takeS S p = some S' → ∀ H', Rd K C H0 H' r S' → Q .non H') ∧ (takeS S p = none → ∀ H', Ex H0 H' → E (.ref CM) none H')
theorem ok_rtake {f f1 f2 f3 f4 f5 : Addr} {fd fd1 fd2 fd3 fd4 fd5 : FuncData} (D : MethAt K C "take" "DataReader.take" s_DataReader_take f fd ["self", "piece"]) (T : Txt K mg CM) (RT : RdT K C)
    (D_DataReader_item : MethAt K C "item" "DataReader.item" s_DataReader_item f1 fd1 ["self", "value"])
    (D_DataReader_open_one : MethAt K C "open_one" "DataReader.open_one" s_DataReader_open_one f2 fd2 ["self"])
    (D_DataReader_close_one : MethAt K C "close_one" "DataReader.close_one" s_DataReader_close_one f3 fd3 ["self"])
    (D_DataReader_comma : MethAt K C "comma" "DataReader.comma" s_DataReader_comma f4 fd4 ["self"])
    (D_read_atom : DefAt K mg "read_atom" s_read_atom f5 fd5 ["piece"])
    (G_read_atom : FnOk P w K mg base (L2.CX P w) 2 f5 fd5 ["piece"] (spAtomR CM)) :
    FnOk P w K mg base (L2.CX P w) 3 f fd ["self", "piece"] (spTakeR K C CM) := by
  have G_DataReader_item : FnOk P w K mg base (L2.CX P w) 1 f1 fd1 ["self", "value"] (spItemR K C CM) := ok_ritem D_DataReader_item T RT
  have G_DataReader_open_one : FnOk P w K mg base (L2.CX P w) 1 f2 fd2 ["self"] (spM K C CM openS) := ok_ropen D_DataReader_open_one T RT
  have G_DataReader_close_one : FnOk P w K mg base (L2.CX P w) 2 f3 fd3 ["self"] (spM K C CM closeS) := ok_rclose D_DataReader_close_one D_DataReader_item T RT
  have G_DataReader_comma : FnOk P w K mg base (L2.CX P w) 1 f4 fd4 ["self"] (spM K C CM commaS) := ok_rcomma D_DataReader_comma T RT
  refine D.fn.okX sc_DataReader_take (fun vs H Q E h => ?_) (fun cdv A outer s H vs Q E hr h => ?_)
  · obtain ⟨H0, r, S, p, rfl, _⟩ := h
    rfl
  · obtain ⟨H0, r, S, p, rfl, ⟨⟨dx, lt, ld, as⟩, R⟩, hw, hp, q, qE⟩ := h
    have hu := u65 hr
    have hno : ∀ {m : Str}, ¬ m = "tuples" → ¬ m = "ready" → ¬ m = "told" → (rf lt S.ready ld).lookup m = none := fun h1 h2 h3 => rf_no _ _ _ h1 h2 h3
    unfold takeS at q qE
    refine ⟨_, (pss_one (ps_if (pt_cmpR (w_eq (K := K) hu) (pv 1) pe_str (nomark _)) (pss_one (ps_expr (pe_meth0 (pv 0) RT.cl D_DataReader_open_one.m G_DataReader_open_one (hr.mono (by decide)) D_DataReader_open_one.b .nil passT))) (pss_one (ps_if (pt_cmpR (w_eq (K := K) hu) (pv 1) pe_str (nomark _)) (pss_one (ps_expr (pe_meth0 (pv 0) RT.cl D_DataReader_close_one.m G_DataReader_close_one (hr.mono (by decide)) D_DataReader_close_one.b .nil passT))) (pss_one (ps_if (pt_cmpR (w_eq (K := K) hu) (pv 1) pe_str (nomark _)) (pss_one (ps_expr (pe_meth0 (pv 0) RT.cl D_DataReader_comma.m G_DataReader_comma (hr.mono (by decide)) D_DataReader_comma.b .nil passT))) (pss_one (ps_expr (pe_meth (pv 0) RT.cl D_DataReader_item.m G_DataReader_item (hr.mono (by decide)) D_DataReader_item.b .nil passT (pa_cons (pe_call G_read_atom (hr.mono (by decide)) rfl D_read_atom.g D_read_atom.kp D_read_atom.b .nil passT (pa_cons (pv 1) pa_nil)) pa_nil)))))))))), ?_⟩
    walk_at "lits"
    walk_at "kx"
    refine ifT (fun h1 => ?_) (fun h1 => ?_)
    · rw [if_pos (of_decide_eq_true h1)] at q qE
      walk_at "kx"
      refine ⟨r, dx, _, rfl, R.ob, hno (by decide +kernel) (by decide +kernel) (by decide +kernel), ?_⟩
      walk_at "kx"
      exact ⟨H0, r, S, rfl, ⟨_, R⟩, hw, q, qE⟩
    rw [if_neg (of_decide_eq_false h1)] at q qE
    walk_at "kx"
    refine ifT (fun h1 => ?_) (fun h1 => ?_)
    · rw [if_pos (of_decide_eq_true h1)] at q qE
      walk_at "kx"
      refine ⟨r, dx, _, rfl, R.ob, hno (by decide +kernel) (by decide +kernel) (by decide +kernel), ?_⟩
      walk_at "kx"
      exact ⟨H0, r, S, rfl, ⟨_, R⟩, hw, q, qE⟩
    rw [if_neg (of_decide_eq_false h1)] at q qE
    walk_at "kx"
    refine ifT (fun h1 => ?_) (fun h1 => ?_)
    · rw [if_pos (of_decide_eq_true h1)] at q qE
      walk_at "kx"
      refine ⟨r, dx, _, rfl, R.ob, hno (by decide +kernel) (by decide +kernel) (by decide +kernel), ?_⟩
      walk_at "kx"
      exact ⟨H0, r, S, rfl, ⟨_, R⟩, hw, q, qE⟩
    rw [if_neg (of_decide_eq_false h1)] at q qE
    walk_at "kx"
    refine ⟨r, dx, _, rfl, R.ob, hno (by decide +kernel) (by decide +kernel) (by decide +kernel), ?_⟩
    walk_at "kx"
    refine ⟨p, rfl, hp, fun d e H' x' => ?_, fun e H' x' => ?_⟩
    · rw [e] at q qE
      have R2 := R.grow x'
      walk_at "kx"
      exact ⟨H0, r, _, S, d, rfl, ⟨_, R2⟩, hw, valD_dp e, (rdAtom_flat e).1, q, qE⟩
    · rw [e] at qE
      exact qE rfl H' (R.ex.trans x')
end
end K53

namespace K53
open PySem PySem.Spec PyProof.Rows L2 KX M53
local macro_rules | `(tactic| walk_at "kx1") => `(tactic| first
  | (with_reducible refine q_seq ?_) | (with_reducible refine q_ifs ?_) | (with_reducible refine q_asg ?_) | (with_reducible refine q_gname ?_) | (with_reducible refine q_ret ?_)
  | (with_reducible refine q_drop ?_) | (with_reducible refine q_next ?_) | (with_reducible refine q_par ?_) | (with_reducible refine q_sfld ?_) | (with_reducible refine q_rs ?_) | (with_reducible refine q_gsub ?_) | (with_reducible refine q_retN ?_)
  | ((with_reducible show tVar _ _ _ _); (refine q_var rfl ?_)) | (with_reducible refine q_c ?_) | (with_reducible refine q_op ?_) | (with_reducible refine q_un ?_) | (with_reducible refine q_neg ?_) | (with_reducible refine q_cb ?_)
  | (with_reducible refine q_nil ?_) | (with_reducible refine q_cons ?_) | (with_reducible refine q_tup ?_) | (with_reducible refine q_lst ?_) | (with_reducible refine q_if ?_)
  | (with_reducible refine q_notT ?_) | (with_reducible refine q_call ?_) | (with_reducible refine q_callS ?_) | (with_reducible refine q_fld ?_)
  | (with_reducible refine q_bm ?_) | (with_reducible refine q_bm0 ?_) | (with_reducible refine q_sl ?_) | (with_reducible refine q_nopart ?_) | (with_reducible refine q_part ?_) | (with_reducible refine q_meth ?_) | (with_reducible refine q_make ?_)
  | (with_reducible refine q_test ?_) | (with_reducible refine q_tB ?_) | (with_reducible refine q_tru ?_) | (with_reducible refine q_not ?_)
  | (with_reducible refine q_blk ?_) | (with_reducible refine q_tv ?_) | (with_reducible refine q_addI ?_) | (with_reducible refine q_subI ?_) | (with_reducible refine q_eqI ?_) | (with_reducible refine q_neI ?_)
  | (with_reducible refine q_for ?_) | (with_reducible refine q_lc ?_) | (with_reducible refine q_iList ?_) | (with_reducible refine q_iTup ?_) | (with_reducible refine q_iStr ?_) | (with_reducible refine q_iRng1 ?_) | (with_reducible refine q_iRng2 ?_) | (with_reducible refine q_iRng3 ?_) | (with_reducible refine q_gcons ?_) | (with_reducible refine q_gnil ?_) | (with_reducible refine q_yes ?_) | (with_reducible refine q_ltI ?_) | (with_reducible refine q_iEnumS ?_) | (with_reducible refine q_pi ?_) | (with_reducible refine q_leI ?_) | (with_reducible refine q_gtI ?_) | (with_reducible refine q_geI ?_) | (with_reducible refine q_leT ?_) | (with_reducible refine q_intI ?_) | (with_reducible refine q_abs ?_) | (with_reducible refine q_eqT ?_) | (with_reducible refine q_neT ?_) | (with_reducible refine q_par3 ?_) | (with_reducible refine q_isN ?_) | (with_reducible refine q_notN ?_))
local macro_rules | `(tactic| walk_at "kx") => `(tactic| repeat walk_at "kx1")
local macro_rules | `(tactic| walk_at "kxs") => `(tactic| repeat (first | walk_at "kx1" | (with_reducible refine q_andT ?_) | (with_reducible refine q_orT ?_) | (with_reducible refine q_chain ?_) | (with_reducible refine q_and ?_) | (with_reducible refine q_or ?_)))
local macro_rules | `(tactic| walk_at "lits") => `(tactic| simp only [lit_0, lit_1, lit_2, lit_3, lit_4, lit_5, lit_6, lit_7, lit_8, lit_9, lit_10, lit_11, lit_12, lit_13, lit_14, lit_15, lit_16, lit_17, lit_18, lit_19, lit_20, lit_21, lit_22, lit_23, lit_24, lit_25, lit_26])

section
variable {P : Program} {w : World} {K : PySem.W.Frag} {mg : Str → Option Value} {base : Heap} {CM dS C : Addr}
def spReadD (K : PySem.W.Frag) (CM : Addr) : Sp := fun vs H Q E => ∃ v d, vs = [v] ∧ Dp K H v d ∧ (∀ l, d = .str (tx l) → l.length ≤ 100000) ∧
  (∀ l d', d = .str (tx l) → rd l = some d' → ∀ v' H', Ex H H' → Dp K H' v' d' → Q v' H') ∧ ((∀ l, d = .str (tx l) → rd l = none) → ∀ H', Ex H H' → E (.ref CM) none H')
theorem RdAt.withP {H0 H H2 : Hp} {r p : Addr} {S : RS} {D : RdD} {o : HO} (R : RdAt K C H0 H r S D) (np : H p = none) (e : Ex H H2) (hp : H2 p = some o) : RdAt K C (upd H0 p o) H2 r S D := by
  have R2 := R.grow e
  obtain ⟨vd, h1, _⟩ := R.to
  refine ⟨fun a x h => ?_, R2.ob, R2.tu, R2.to, R2.st, ?_, ?_, ?_, fun a ha => ?_, R2.nd, R2.ta, R2.la, R2.tl, R2.fl⟩
  · by_cases z : a = p
    · subst z
      rw [upd_same] at h
      cases h
      exact hp
    · rw [upd_ne z] at h
      exact R2.ex a x h
  · rw [upd_ne (ne_of_none R.ob np)]
    exact R.nr
  · rw [upd_ne (ne_of_none R.tu np)]
    exact R.nt
  · rw [upd_ne (ne_of_none h1 np)]
    exact R.nl
  · obtain ⟨vs, e3⟩ := R.st.mem ha
    rw [upd_ne (ne_of_none e3 np)]
    exact R.na a ha
theorem runS_app : ∀ (a b : List T) (S : RS), runS S (a ++ b) = (runS S a).bind fun S' => runS S' b
  | [], b, S => rfl
  | p :: ps, b, S => by
    show runS S (p :: (ps ++ b)) = _
    simp only [runS]
    cases takeS S p with
    | none => rfl
    | some S' => exact runS_app ps b S'
theorem runS_wt : ∀ (a : List T) (S S' : RS), runS S a = some S' → wt S' ≤ wt S + a.length
  | [], S, S', h => by cases h; exact Nat.le_refl _
  | p :: ps, S, S', h => by
    simp only [runS] at h
    split at h
    · cases h
    · rename_i S1 e
      have h1 := take_wt e
      have h2 := runS_wt ps S1 S' h
      simp only [List.length_cons]
      omega
theorem ok_read_data {f f1 f2 f3 f4 f5 f6 f7 f8 : Addr} {fd fd1 fd2 fd3 fd4 fd5 fd6 fd7 fd8 : FuncData} (D : DefAt K mg "read_data" s_read_data f fd ["text"]) (T : Txt K mg CM) (RT : RdT K C)
    (D_DataReader_item : MethAt K C "item" "DataReader.item" s_DataReader_item f1 fd1 ["self", "value"])
    (D_DataReader_open_one : MethAt K C "open_one" "DataReader.open_one" s_DataReader_open_one f2 fd2 ["self"])
    (D_DataReader_close_one : MethAt K C "close_one" "DataReader.close_one" s_DataReader_close_one f3 fd3 ["self"])
    (D_DataReader_comma : MethAt K C "comma" "DataReader.comma" s_DataReader_comma f4 fd4 ["self"])
    (D_read_atom : DefAt K mg "read_atom" s_read_atom f5 fd5 ["piece"])
    (G_read_atom : FnOk P w K mg base (L2.CX P w) 2 f5 fd5 ["piece"] (spAtomR CM))
    (D_DataReader_take : MethAt K C "take" "DataReader.take" s_DataReader_take f6 fd6 ["self", "piece"])
    (D_pieces_of : DefAt K mg "pieces_of" s_pieces_of f7 fd7 ["text"])
    (D_DataReader : ClassAt K mg "DataReader" "DataReader.__init__" C s_DataReader___init__ f8 fd8 ["self"]) :
    FnOk P w K mg base (L2.CX P w) 4 f fd ["text"] (spReadD K CM) := by
  have G_DataReader_take : FnOk P w K mg base (L2.CX P w) 3 f6 fd6 ["self", "piece"] (spTakeR K C CM) := ok_rtake D_DataReader_take T RT D_DataReader_item D_DataReader_open_one D_DataReader_close_one D_DataReader_comma D_read_atom G_read_atom
  have G_pieces_of : FnOk P w K mg base CX0 1 f7 fd7 ["text"] spPieces := ok_pieces_of D_pieces_of T
  have G_DataReader : FnOk P w K mg base CX0 1 f8 fd8 ["self"] (spRInit K C) := ok_rinit D_DataReader.fn T RT
  refine D.fn.okX sc_read_data (fun vs H Q E h => ?_) (fun cdv A outer s H vs Q E hr h => ?_)
  · obtain ⟨v, d, rfl, _⟩ := h
    rfl
  · obtain ⟨v, d, rfl, hd, hl0, q, qE⟩ := h
    have hu := u65 hr
    refine ⟨_, (pss_cons (ps_if (pt_not (w_tru (K := K) (pe_callB (w_isi (K := K)) rfl T.b_isinstance bb_isinstance (pa_cons (pv 0) (pa_cons (pe_bltn (v := V.ty "str") rfl T.b_str bb_str rfl) pa_nil))))) (pss_one (ps_rs rfl tkE T.x_Malformed)) pss_nil)
      (pss_cons (ps_set (i := 1) sc_read_data.nd rfl (Or.inl rfl) (pe_make0 D_DataReader.mkr G_DataReader (hr.mono (by decide)) rfl D_DataReader.gC D_DataReader.b .nil pass0))
      (pss_cons (ps_for (passes_of rfl) rfl (w_ilist (K := K) (pe_call G_pieces_of (hr.mono (by decide)) rfl D_pieces_of.g D_pieces_of.kp D_pieces_of.b .nil pass0 (pa_cons (pv 0) pa_nil))) (pg_name (i := 2) sc_read_data.nd rfl (Or.inl rfl)) (pss_one (ps_expr (pe_meth (pv 1) RT.cl D_DataReader_take.m G_DataReader_take (hr.mono (by decide)) D_DataReader_take.b .nil passT (pa_cons (pv 2) pa_nil)))))
      (pss_cons (ps_if (PW.pt (pw_or (pt_cmpR k_gt (pe_callB (w_len (K := K)) rfl T.b_len bb_len (pa_cons (w_fld (K := K) (pv 1)) pa_nil)) pe_int (nomark _)) (pw_or1 (pt_cmpR (w_ne (K := K) hu) (pe_callB (w_len (K := K)) rfl T.b_len bb_len (pa_cons (w_fld (K := K) (pv 1)) pa_nil)) pe_int (nomark _))))) (pss_one (ps_rs rfl tkE T.x_Malformed)) pss_nil)
      (pss_one (ps_ret (pe_ix (w_ix (K := K)) (w_fld (K := K) (pv 1)) pe_int (fun _ _ => rfl)))))))), ?_⟩
    walk_at "kx"
    refine is_str hd ?_
    walk_at "kx"
    cases hs : isStrD d with
    | false =>
      refine ifY rfl ?_
      refine qE (fun l e => ?_) H (Evl.Ex.refl H)
      subst e
      cases hs
    | true =>
      refine ifF rfl ?_
      obtain ⟨l, rfl⟩ : ∃ l, d = .str (tx l) := by
        cases d with
        | str x => exact ⟨x.cps.toList, by rw [tx_of]⟩
        | _ => cases hs
      have hv : v = .str (tx l) := by cases hd; rfl
      subst hv
      have hl := hl0 l rfl
      have hpl := pcs_len l []
      have hpe := pcs_each l [] l.length (by simp)
      walk_at "kx"
      refine fun r dx nr ndx hne => ?_
      have nr1 : upd H dx (.own r) r = none := by rw [upd_ne hne.symm]; exact nr
      refine ⟨H, r, dx, rfl, nr, (Evl.Ex.new ndx).trans (Evl.Ex.new nr1), upd_same, fun H1 R0 => ⟨rfl, ?_⟩⟩
      walk_at "kx"
      refine ⟨l, rfl, hl, fun p H2 np e2 hp => ?_⟩
      obtain ⟨D0, R0⟩ := R0
      have R1 := R0.withP np e2 hp
      have eH : Ex H (upd H p (.lst ((pcs [] l).map fun t => .str (tx t)))) := by
        refine Evl.Ex.new ?_
        exact Evl.fresh_back R0.ex np
      have hpin : upd H p (.lst ((pcs [] l).map fun t => V.str (tx t))) p = _ := upd_same
      generalize upd H p (.lst ((pcs [] l).map fun t => V.str (tx t))) = HH at R1 eH hpin
      refine ⟨p, rfl, ⟨_, SqL.of hp⟩, ?_⟩
      refine fo_list (xs := (pcs [] l).map fun t => V.str (tx t)) (fun i σ H' => ∃ (S : RS) (o : Option V), σ = [some (.str (tx l)), some (.ref r), o] ∧ Rd K C HH H' r S ∧ runS ⟨[], true, []⟩ ((pcs [] l).take i) = some S) ⟨_, none, rfl, ⟨_, R1⟩, rfl⟩ ?_ ?_ ?_
      · rintro i σ H' hi ⟨S, o, rfl, ⟨D', R'⟩, _⟩
        exact SqL.of (R'.ex _ _ hpin)
      · rintro i x σ H' hx ⟨S, o, rfl, ⟨D', R'⟩, er⟩
        rw [List.getElem?_map, Option.map_eq_some_iff] at hx
        obtain ⟨t, ht, rfl⟩ := hx
        walk_at "kx"
        refine ⟨r, D'.dx, _, rfl, R'.ob, rf_no _ _ _ (by decide +kernel) (by decide +kernel) (by decide +kernel), ?_⟩
        walk_at "kx"
        have hw := runS_wt _ _ _ er
        have hi : i < (pcs [] l).length := (List.getElem?_eq_some_iff.mp ht).1
        have et : (pcs [] l).take (i + 1) = (pcs [] l).take i ++ [t] := by rw [List.take_add_one, ht]; rfl
        rw [List.length_take] at hw
        have h0 : wt ⟨[], true, []⟩ = 0 := rfl
        refine ⟨HH, r, S, t, rfl, ⟨_, R'⟩, by omega, Nat.le_trans (hpe t (List.mem_of_getElem? ht)) hl, fun S' e H3 R3 => ?_, fun e H3 e3 => ?_⟩
        · walk_at "kx"
          refine ⟨S', _, rfl, R3, ?_⟩
          rw [et, runS_app, er]
          show runS S [t] = some S'
          simp only [runS, e]
        · refine qE (fun l' el => ?_) H3 (eH.trans e3)
          have el' : l = l' := by
            have := PyData.str.inj el
            exact tx_inj this
          subst el'
          have es : pcs [] l = (pcs [] l).take i ++ t :: (pcs [] l).drop (i + 1) := by
            have := List.drop_eq_getElem_cons hi
            rw [(List.getElem?_eq_some_iff.mp ht).2] at this
            rw [← this, List.take_append_drop]
          unfold rd
          rw [es, runS_app, er]
          show (match runS S (t :: _) with | none => none | some S => _) = none
          simp only [runS, e]
      · rintro σ H' ⟨S, o, rfl, ⟨⟨dx', lt, ld, as⟩, R'⟩, er⟩
        rw [List.length_map, List.take_length] at er
        have hal : as.length = S.stack.length := R'.st.len
        have hs0 := sizeLine_eq
        have hw := runS_wt _ _ _ er
        have h0 : wt ⟨[], true, []⟩ = 0 := rfl
        have hl1 := @wt_stack S.stack S.ready S.told
        have hl2 := @wt_told S.stack S.ready S.told
        obtain ⟨vd, g1, g2⟩ := R'.to
        have hvd : vd.length = S.told.length := dpa_len g2
        walk_at "kx"
        refine q_orB (a := decide ((0 : Int) < ((as.map V.ref).length : Nat))) (b := !decide (((vd.length : Nat) : Int) = 1)) (fun R1 q => ?_) (fun _ R1 q => ?_) ?_
        · walk_at "kx"
          refine ⟨r, C, dx', _, _, rfl, R'.ob, RT.cl, RT.n1, rf_tuples _ _ _, ?_⟩
          walk_at "kx"
          refine q_lenL (SqL.of R'.tu) ?_
          walk_at "kx"
          exact q
        · walk_at "kx"
          refine ⟨r, C, dx', _, _, rfl, R'.ob, RT.cl, RT.n3, rf_told _ _ _, ?_⟩
          walk_at "kx"
          refine q_lenL (SqL.of g1) ?_
          walk_at "kx"
          exact q
        rw [List.length_map, hal, hvd]
        have erd : rd l = if S.stack ≠ [] ∨ S.told.length ≠ 1 then none else S.told.head? := by
          unfold rd
          rw [er]
        refine ifT (fun h1 => ?_) (fun h1 => ?_)
        · refine qE (fun l' el => ?_) H' (eH.trans R'.ex)
          have el' : l = l' := tx_inj (PyData.str.inj el)
          subst el'
          rw [erd]
          refine if_pos ?_
          rw [Bool.or_eq_true] at h1
          rcases h1 with h1 | h1
          · have := of_decide_eq_true h1
            exact .inl (fun z => by rw [z] at this; simp at this)
          · refine .inr fun e => ?_
            rw [e] at h1
            cases h1
        · rw [Bool.or_eq_false_iff] at h1
          have h2 := of_decide_eq_false h1.1
          have h3 : ((S.told.length : Nat) : Int) = 1 := by simpa using h1.2
          have h4 : S.told.length = 1 := by omega
          have h5 : S.stack = [] := List.length_eq_zero_iff.mp (by omega)
          rw [if_neg (fun z => z.elim (fun e => e h5) (fun e => e h4))] at erd
          obtain ⟨dd, ed⟩ := List.length_eq_one_iff.mp h4
          rw [ed] at erd g2
          cases g2 with
          | cons g3 g4 =>
            cases g4
            walk_at "kx"
            refine ⟨r, C, dx', _, _, rfl, R'.ob, RT.cl, RT.n3, rf_told _ _ _, ?_⟩
            walk_at "kx"
            refine q_ixL (SqL.of g1) (i := 0) rfl ?_
            exact q l dd rfl erd _ H' (eH.trans R'.ex) g3
end
end K53

namespace K53
open PySem PySem.Spec PyProof.Rows L2 KX M53
local macro_rules | `(tactic| walk_at "kx1") => `(tactic| first
  | (with_reducible refine q_seq ?_) | (with_reducible refine q_ifs ?_) | (with_reducible refine q_asg ?_) | (with_reducible refine q_gname ?_) | (with_reducible refine q_ret ?_)
  | (with_reducible refine q_drop ?_) | (with_reducible refine q_next ?_) | (with_reducible refine q_par ?_) | (with_reducible refine q_sfld ?_) | (with_reducible refine q_rs ?_) | (with_reducible refine q_gsub ?_) | (with_reducible refine q_retN ?_)
  | ((with_reducible show tVar _ _ _ _); (refine q_var rfl ?_)) | (with_reducible refine q_c ?_) | (with_reducible refine q_op ?_) | (with_reducible refine q_un ?_) | (with_reducible refine q_neg ?_) | (with_reducible refine q_cb ?_)
  | (with_reducible refine q_nil ?_) | (with_reducible refine q_cons ?_) | (with_reducible refine q_tup ?_) | (with_reducible refine q_lst ?_) | (with_reducible refine q_if ?_)
  | (with_reducible refine q_notT ?_) | (with_reducible refine q_call ?_) | (with_reducible refine q_callS ?_) | (with_reducible refine q_fld ?_)
  | (with_reducible refine q_bm ?_) | (with_reducible refine q_bm0 ?_) | (with_reducible refine q_sl ?_) | (with_reducible refine q_nopart ?_) | (with_reducible refine q_part ?_) | (with_reducible refine q_meth ?_) | (with_reducible refine q_make ?_)
  | (with_reducible refine q_test ?_) | (with_reducible refine q_tB ?_) | (with_reducible refine q_tru ?_) | (with_reducible refine q_not ?_)
  | (with_reducible refine q_blk ?_) | (with_reducible refine q_tv ?_) | (with_reducible refine q_addI ?_) | (with_reducible refine q_subI ?_) | (with_reducible refine q_eqI ?_) | (with_reducible refine q_neI ?_)
  | (with_reducible refine q_for ?_) | (with_reducible refine q_lc ?_) | (with_reducible refine q_iList ?_) | (with_reducible refine q_iTup ?_) | (with_reducible refine q_iStr ?_) | (with_reducible refine q_iRng1 ?_) | (with_reducible refine q_iRng2 ?_) | (with_reducible refine q_iRng3 ?_) | (with_reducible refine q_gcons ?_) | (with_reducible refine q_gnil ?_) | (with_reducible refine q_yes ?_) | (with_reducible refine q_ltI ?_) | (with_reducible refine q_iEnumS ?_) | (with_reducible refine q_pi ?_) | (with_reducible refine q_leI ?_) | (with_reducible refine q_gtI ?_) | (with_reducible refine q_geI ?_) | (with_reducible refine q_leT ?_) | (with_reducible refine q_intI ?_) | (with_reducible refine q_abs ?_) | (with_reducible refine q_eqT ?_) | (with_reducible refine q_neT ?_) | (with_reducible refine q_par3 ?_) | (with_reducible refine q_isN ?_) | (with_reducible refine q_notN ?_))
local macro_rules | `(tactic| walk_at "kx") => `(tactic| repeat walk_at "kx1")
local macro_rules | `(tactic| walk_at "kxs") => `(tactic| repeat (first | walk_at "kx1" | (with_reducible refine q_andT ?_) | (with_reducible refine q_orT ?_) | (with_reducible refine q_chain ?_) | (with_reducible refine q_and ?_) | (with_reducible refine q_or ?_)))
local macro_rules | `(tactic| walk_at "lits") => `(tactic| simp only [lit_0, lit_1, lit_2, lit_3, lit_4, lit_5, lit_6, lit_7, lit_8, lit_9, lit_10, lit_11, lit_12, lit_13, lit_14, lit_15, lit_16, lit_17, lit_18, lit_19, lit_20, lit_21, lit_22, lit_23, lit_24, lit_25, lit_26])

/-- the law's draw: its list at r, with at most N draws past the script -/
def Drw (H : Hp) (r p : Addr) (N : Nat) : Prop := ∃ (ns : List Int) (a b c e f : Int), H r = some (.lst [.ref p, .int a, .int b, .int c, .int e, .int f]) ∧ p ≠ r ∧ H p = some (.lst (ns.map V.int)) ∧ ns.length ≤ 63 ∧ 0 ≤ a ∧ 0 ≤ f ∧ f ≤ (N : Nat)
theorem Drw.lst {H : Hp} {r p : Addr} {N : Nat} (h : Drw H r p N) : ∃ xs, H r = some (.lst xs) := by
  obtain ⟨ns, a, b, c, e, f, h, _⟩ := h
  exact ⟨_, h⟩
theorem sql_ex {K : PySem.W.Frag} {H H' : Hp} {a : Addr} {xs : List V} (e : Ex H H') (h : SqL K H a xs) : SqL K H' a xs := h.elim (fun h => .inl (h.elim (fun h => .inl (e _ _ h)) fun ⟨o, h⟩ => .inr ⟨o, e _ _ h⟩)) fun h => .inr h
theorem Drw.lstp {H : Hp} {r p : Addr} {N : Nat} (h : Drw H r p N) : ∃ xs, H p = some (.lst xs) := by
  obtain ⟨ns, a, b, c, e, f, _, _, h, _⟩ := h
  exact ⟨_, h⟩
theorem Drw.upd {H : Hp} {r p D : Addr} {N : Nat} {o : HO} (h : Drw H r p N) (h1 : r ≠ D) (h2 : p ≠ D) : Drw (L2.upd H D o) r p N := by
  obtain ⟨ns, a, b, c, e, f, g1, g2, g3, g4⟩ := h
  exact ⟨ns, a, b, c, e, f, by rw [upd_ne h1]; exact g1, g2, by rw [upd_ne h2]; exact g3, g4⟩
theorem Drw.ex {H H' : Hp} {r p : Addr} {N : Nat} (h : Drw H r p N) (x : Ex H H') : Drw H' r p N := by
  obtain ⟨ns, a, b, c, e, f, h1, h2, h3, h4⟩ := h
  exact ⟨ns, a, b, c, e, f, x _ _ h1, h2, x _ _ h3, h4⟩
section
variable {P : Program} {w : World} {K : PySem.W.Frag} {mg : Str → Option Value} {base : Heap} {CM : Addr}
def spDraw (K : PySem.W.Frag) : Sp := fun vs H Q _ => ∃ (a : Addr) (ns : List Int), vs = [.ref a] ∧ SqL K H a (ns.map V.int) ∧ ns.length ≤ 63 ∧ ∀ r p H', H r = none → Ex H H' → Drw H' r p 0 → Q (.ref r) H'
theorem ok_law_draw {f : Addr} {fd : FuncData} (D : DefAt K mg "_law_draw" s__law_draw f fd ["script"]) (T : Txt K mg CM) (nd : base.NoDigits) : FnOk P w K mg base CX0 1 f fd ["script"] (spDraw K) := by
  refine D.fn.ok sc__law_draw (fun vs H Q E h => ?_) (fun cdv A outer s H vs Q E hr h => ?_)
  · obtain ⟨a, ns, rfl, _⟩ := h
    rfl
  · obtain ⟨a, ns, rfl, ha, hl, q⟩ := h
    have hu := u65 hr
    refine ⟨_, (pss_cons (ps_set (i := 1) sc__law_draw.nd rfl (Or.inl rfl) pe_int)
      (pss_cons (ps_for PassesOwn.never rfl (w_ilist (K := K) (pe_slice (w_sl (K := K)) (pv 0) po_none (po_some pe_int))) (pg_name (i := 2) sc__law_draw.nd rfl (Or.inl rfl)) (pss_one (ps_set (i := 1) sc__law_draw.nd rfl (Or.inl rfl) (pe_op (w_add (K := K)) (pe_op op_mod (pe_callTy (kx_int nd) rfl T.b_int bb_int (pa_cons (pe_op (w_add (K := K)) (pe_op k_mul (pv 1) pe_int) (pv 2)) pa_nil)) pe_int) pe_int))))
      (pss_one (ps_ret (pe_lst (pa_cons (pe_lc (own := [("cell", 2)]) rfl sc__law_draw.nd (w_ilist (K := K) (pe_slice (w_sl (K := K)) (pv 0) po_none (po_some pe_int))) (blkOk_by (N := n__law_draw) (sc := defScope s__law_draw) (by decide +kernel)) (fun _ _ _ _ _ => (pg_name (i := 2) sc__law_draw.nd rfl (Or.inl rfl))) (fun _ _ _ _ _ => pts_nil) (fun _ _ _ _ _ => (pe_callB w_abs rfl T.b_abs bb_abs (pa_cons (pe_callTy (kx_int nd) rfl T.b_int bb_int (pa_cons (pv 2) pa_nil)) pa_nil)))) (pa_cons pe_int (pa_cons pe_int (pa_cons pe_int (pa_cons (pv 1) (pa_cons pe_int pa_nil))))))))))), ?_⟩
    walk_at "kx"
    refine q_slL 63 ha fun l1 n1 => ?_
    refine ⟨l1, rfl, ⟨_, SqL.of upd_same⟩, ?_⟩
    have x1 : Ex H (upd H l1 (.lst ((ns.map V.int).take 63))) := Evl.Ex.new n1
    have h1 : upd H l1 (.lst ((ns.map V.int).take 63)) l1 = _ := upd_same
    generalize upd H l1 (.lst ((ns.map V.int).take 63)) = H1 at x1 h1
    rw [← List.map_take] at h1
    refine fo_list (xs := (ns.take 63).map V.int) (fun i σ H' => ∃ (s : Int) (o : Option V), σ = [some (.ref a), some (.int s), o] ∧ Ex H1 H') ⟨7, none, rfl, Evl.Ex.refl _⟩ ?_ ?_ ?_
    · rintro i σ H' hi ⟨s, o, rfl, x2⟩
      exact SqL.of (x2 _ _ h1)
    · rintro i x σ H' hx ⟨s, o, rfl, x2⟩
      rw [List.getElem?_map, Option.map_eq_some_iff] at hx
      obtain ⟨y, hy, rfl⟩ := hx
      walk_at "kx"
      refine q_mulI (.inr (by decide)) ?_
      walk_at "kx"
      refine q_mod (by decide) ?_
      walk_at "kx"
      exact ⟨_, _, rfl, x2⟩
    · rintro σ H' ⟨s, o, rfl, x2⟩
      have ha' : SqL K H' a (ns.map V.int) := sql_ex (x1.trans x2) ha
      walk_at "kx"
      refine q_slL 63 ha' fun l2 n2 => ?_
      refine ⟨l2, rfl, ⟨_, SqL.of upd_same⟩, ?_⟩
      have x3 : Ex H' (upd H' l2 (.lst ((ns.map V.int).take 63))) := Evl.Ex.new n2
      have h3 : upd H' l2 (.lst ((ns.map V.int).take 63)) l2 = _ := upd_same
      generalize upd H' l2 (.lst ((ns.map V.int).take 63)) = H2 at x3 h3
      rw [← List.map_take] at h3
      refine lc_ev walk_list (xs := fun i => .int ((ns.take 63).getD i 0)) (f := fun i => .int (if (ns.take 63).getD i 0 < 0 then -(ns.take 63).getD i 0 else (ns.take 63).getD i 0)) ?_ (fun H4 e4 => SqL.of (e4 _ _ h3)) ?_ (fun _ => rfl) ?_ ?_
      · rw [List.length_map, List.length_take]
        omega
      · rintro i H4 x H5 hi ⟨rfl, e5⟩
        refine ⟨rfl, ?_⟩
        rw [List.getElem?_map, Option.map_eq_some_iff] at e5
        obtain ⟨y, hy, rfl⟩ := e5
        simp only [List.getD_eq_getElem?_getD, hy, Option.getD_some]
      · intro i hi H4 x4 R q4
        walk_at "kx"
        exact q4 _ (Evl.Ex.refl _)
      · intro p H3 n3 x5 hp
        walk_at "kx"
        refine ⟨sml rfl, fun r nr => ?_⟩
        have e0 := ((x1.trans x2).trans x3).trans x5
        have x6 : Ex H3 (upd H3 r (.lst [.ref p, .int 0, .int 0, .int 0, .int s, .int 0])) := Evl.Ex.new nr
        have pr : p ≠ r := ne_of_none hp nr
        refine q r p _ (Evl.fresh_back e0 nr) (e0.trans x6) ⟨(List.range (ns.take 63).length).map fun i => if (ns.take 63).getD i 0 < 0 then -(ns.take 63).getD i 0 else (ns.take 63).getD i 0, 0, 0, 0, s, 0, upd_same, pr, ?_, ?_, by decide, by decide, by decide⟩
        · rw [upd_ne pr, hp, List.map_map, List.length_map]
          rfl
        · rw [List.length_map, List.length_range, List.length_take]
          omega
def spTake : Sp := fun vs H Q _ => ∃ (r p : Addr) (m N : Nat), vs = [.ref r, .int (m : Nat)] ∧ 0 < m ∧ m < 1073741824 ∧ Drw H r p N ∧ N ≤ 1000000 ∧ ∀ H' (k : Nat), k < m → But r H H' → Drw H' r p (N + 1) → Q (.int (k : Nat)) H'
theorem q_setB {H0 H : Hp} {r : Addr} {xs : List V} {k : Nat} {v : V} {R : Hp → Prop} (b : But r H0 H) (h : H r = some (.lst xs)) (hk : Nat.blt k xs.length = true) (q : ∀ H', But r H0 H' → H' r = some (.lst (xs.set k v)) → R H') : rSetL (.ref r) (.int (k : Nat)) v H R :=
  q_setL h (by simpa [Nat.blt_eq] using hk) (q _ (b.trans But.mut) upd_same)
theorem mod_nat {i : Int} {m : Nat} (h : 0 < m) : ∃ k : Nat, k < m ∧ i % (m : Int) = (k : Nat) := by
  have h1 := Int.emod_nonneg i (b := (m : Int)) (by omega)
  have h2 := Int.emod_lt_of_pos i (b := (m : Int)) (by omega)
  exact ⟨(i % (m : Int)).toNat, by omega, by omega⟩
theorem ok_law_take {f : Addr} {fd : FuncData} (D : DefAt K mg "_law_take" s__law_take f fd ["draw", "many"]) (T : Txt K mg CM) (nd : base.NoDigits) : FnOk P w K mg base CX0 1 f fd ["draw", "many"] spTake := by
  refine D.fn.ok sc__law_take (fun vs H Q E h => ?_) (fun cdv A outer s H vs Q E hr h => ?_)
  · obtain ⟨r, p, m, N, rfl, _⟩ := h
    rfl
  · obtain ⟨r, p, m, N, rfl, hm, hm2, ⟨ns, a, b, c, e, f, hd, hpr, hp, hn, ha, hf, hf2⟩, hN, q⟩ := h
    have hu := u65 hr
    refine ⟨_, (pss_cons (ps_if (PW.pt (pw_and (pt_cmpR (w_eq (K := K) hu) (pe_ix (w_ix (K := K)) (pv 0) pe_int (fun _ _ => rfl)) pe_int (nomark _)) (pw_and1 (pt_cmpR k_lt (pe_ix (w_ix (K := K)) (pv 0) pe_int (fun _ _ => rfl)) (pe_callB (w_len (K := K)) rfl T.b_len bb_len (pa_cons (pe_ix (w_ix (K := K)) (pv 0) pe_int (fun _ _ => rfl)) pa_nil)) (nomark _))))) (pss_one (ps_asg (pe_tup (pa_cons (pe_ix (w_ix (K := K)) (pe_ix (w_ix (K := K)) (pv 0) pe_int (fun _ _ => rfl)) (pe_ix (w_ix (K := K)) (pv 0) pe_int (fun _ _ => rfl)) (fun _ _ => rfl)) (pa_cons pe_int (pa_cons (pe_op (w_add (K := K)) (pe_ix (w_ix (K := K)) (pv 0) pe_int (fun _ _ => rfl)) pe_int) pa_nil)))) (w_gtup (K := K) (n := 3) rfl (pgs_cons (pg_sub (pv 0) pe_int set_list) (pgs_cons (pg_sub (pv 0) pe_int set_list) (pgs_cons (pg_sub (pv 0) pe_int set_list) pgs_nil)))))) pss_nil)
      (pss_cons (ps_if (pt_cmpR k_gt (pe_ix (w_ix (K := K)) (pv 0) pe_int (fun _ _ => rfl)) pe_int (nomark _)) (pss_cons (ps_set (i := 2) sc__law_take.nd rfl (Or.inl rfl) (pe_op op_mod (pe_callTy (kx_int nd) rfl T.b_int bb_int (pa_cons (pe_ix (w_ix (K := K)) (pv 0) pe_int (fun _ _ => rfl)) pa_nil)) (pv 1)))
      (pss_cons (ps_asg (pe_op op_fdiv (pe_ix (w_ix (K := K)) (pv 0) pe_int (fun _ _ => rfl)) (pv 1)) (pg_sub (pv 0) pe_int set_list))
      (pss_cons (ps_asg (pe_ifExp (pt_cmpR k_gt (pe_ix (w_ix (K := K)) (pv 0) pe_int (fun _ _ => rfl)) pe_int (nomark _)) (pe_op op_sub (pe_ix (w_ix (K := K)) (pv 0) pe_int (fun _ _ => rfl)) pe_int) pe_int) (pg_sub (pv 0) pe_int set_list))
      (pss_one (ps_ret (pv 2)))))) pss_nil)
      (pss_cons (ps_asg (pe_op (w_add (K := K)) (pe_ix (w_ix (K := K)) (pv 0) pe_int (fun _ _ => rfl)) pe_int) (pg_sub (pv 0) pe_int set_list))
      (pss_cons (ps_asg (pe_op op_mod (pe_callTy (kx_int nd) rfl T.b_int bb_int (pa_cons (pe_op (w_add (K := K)) (pe_op (w_add (K := K)) (pe_op k_mul (pe_ix (w_ix (K := K)) (pv 0) pe_int (fun _ _ => rfl)) pe_int) (pe_op k_mul (pe_op k_mul (pe_ix (w_ix (K := K)) (pv 0) pe_int (fun _ _ => rfl)) (pe_ix (w_ix (K := K)) (pv 0) pe_int (fun _ _ => rfl))) pe_int)) pe_int) pa_nil)) pe_int) (pg_sub (pv 0) pe_int set_list))
      (pss_one (ps_ret (pe_op op_mod (pe_callTy (kx_int nd) rfl T.b_int bb_int (pa_cons (pe_op op_fdiv (pe_ix (w_ix (K := K)) (pv 0) pe_int (fun _ _ => rfl)) pe_int) pa_nil)) (pv 1)))))))), ?_⟩
    refine q_seqK (fun σ H1 => ∃ a b c, σ = L2.start n__law_take [.ref r, .int (m : Nat)] ∧ But r H H1 ∧ 0 ≤ a ∧ H1 r = some (.lst [.ref p, .int a, .int b, .int c, .int e, .int f])) ?_ ?_
    · rintro σ H1 ⟨a, b, c, rfl, b1, ha, hd⟩
      have hp1 : H1 p = some (.lst (ns.map V.int)) := b1 _ _ hpr hp
      walk_at "kx"
      refine q_ixL (SqL.of hd) (i := 3) rfl ?_
      walk_at "kx"
      refine ifT (fun h1 => ?_) (fun h1 => ?_)
      · walk_at "kx"
        refine q_ixL (SqL.of hd) (i := 2) rfl ?_
        walk_at "kx"
        refine q_mod (by omega) ?_
        obtain ⟨k, hk, ek⟩ := mod_nat (i := b) hm
        rw [ek]
        walk_at "kx"
        refine q_ixL (SqL.of hd) (i := 2) rfl ?_
        walk_at "kx"
        refine q_fdiv (by omega) (by omega) ?_
        walk_at "kx"
        refine q_setB b1 hd (k := 2) rfl fun H2 b2 hd2 => ?_
        walk_at "kx"
        refine q_ixL (SqL.of hd2) (i := 2) rfl ?_
        walk_at "kx"
        refine ifT (fun h2 => ?_) (fun h2 => ?_)
        · walk_at "kx"
          refine q_ixL (SqL.of hd2) (i := 3) rfl ?_
          walk_at "kx"
          refine q_setB b2 hd2 (k := 3) rfl fun H3 b3 hd3 => ?_
          walk_at "kx"
          exact q H3 k hk b3 ⟨ns, a, _, _, e, f, hd3, hpr, b3 _ _ hpr hp, hn, ha, hf, by omega⟩
        · walk_at "kx"
          refine q_setB b2 hd2 (k := 3) rfl fun H3 b3 hd3 => ?_
          walk_at "kx"
          exact q H3 k hk b3 ⟨ns, a, _, _, e, f, hd3, hpr, b3 _ _ hpr hp, hn, ha, hf, by omega⟩
      · walk_at "kx"
        refine q_ixL (SqL.of hd) (i := 5) rfl ?_
        walk_at "kx"
        refine q_setB b1 hd (k := 5) rfl fun H2 b2 hd2 => ?_
        walk_at "kx"
        refine q_ixL (SqL.of hd2) (i := 4) rfl ?_
        walk_at "kx"
        refine q_mulI (.inr (by decide)) ?_
        walk_at "kx"
        refine q_ixL (SqL.of hd2) (i := 5) rfl ?_
        walk_at "kx"
        refine q_ixL (SqL.of hd2) (i := 5) rfl ?_
        walk_at "kx"
        refine q_mulI (.inr (by omega)) ?_
        walk_at "kx"
        refine q_mulI (.inr (by decide)) ?_
        walk_at "kx"
        refine q_mod (by decide) ?_
        walk_at "kx"
        refine q_setB b2 hd2 (k := 4) rfl fun H3 b3 hd3 => ?_
        walk_at "kx"
        refine q_ixL (SqL.of hd3) (i := 4) rfl ?_
        walk_at "kx"
        refine q_fdiv (by decide) (by decide) ?_
        walk_at "kx"
        refine q_mod (by omega) ?_
        obtain ⟨k, hk, ek⟩ := mod_nat (i := (e * 48271 + (f + 1) * (f + 1) * 69621 + 11) % 2147483647 / 13) hm
        rw [ek]
        exact q H3 k hk b3 ⟨ns, a, _, _, _, _, hd3, hpr, b3 _ _ hpr hp, hn, ha, by omega, by omega⟩
    · intro N q
      walk_at "kx"
      refine q_andB (a := decide (c = 0)) (b := decide (a < (ns.length : Nat))) (fun R1 q => ?_) (fun _ R1 q => ?_) ?_
      · walk_at "kx"
        refine q_ixL (SqL.of hd) (i := 3) rfl ?_
        walk_at "kx"
        exact q
      · walk_at "kx"
        refine q_ixL (SqL.of hd) (i := 1) rfl ?_
        walk_at "kx"
        refine q_ixL (SqL.of hd) (i := 0) rfl ?_
        walk_at "kx"
        refine q_lenL (SqL.of hp) ?_
        rw [List.length_map]
        walk_at "kx"
        exact q
      refine ifT (fun h1 => ?_) (fun h1 => ?_)
      · rw [Bool.and_eq_true] at h1
        have h2 := of_decide_eq_true h1.2
        obtain ⟨i, rfl⟩ : ∃ i : Nat, a = (i : Nat) := ⟨a.toNat, by omega⟩
        have hi : i < ns.length := by omega
        walk_at "kx"
        refine q_ixL (SqL.of hd) (i := 0) rfl ?_
        walk_at "kx"
        refine q_ixL (SqL.of hd) (i := 1) rfl ?_
        refine q_ixL (SqL.of hp) (i := i) (v := .int ns[i]) (by rw [List.getElem?_map, List.getElem?_eq_getElem hi]; rfl) ?_
        walk_at "kx"
        refine q_ixL (SqL.of hd) (i := 1) rfl ?_
        walk_at "kx"
        refine ⟨sml rfl, fun t nt => ?_⟩
        have rt : r ≠ t := ne_of_none hd nt
        refine q_gtup ⟨t, _, rfl, SqT.of upd_same, rfl, ?_⟩
        have hdt : upd H t (.tup [.int ns[i], .int 60, .int ((i : Nat) + 1)]) r = _ := (upd_ne rt).trans hd
        have bt : But r H (upd H t (.tup [.int ns[i], .int 60, .int ((i : Nat) + 1)])) := But.of_ex (Evl.Ex.new nt)
        generalize upd H t (.tup [.int ns[i], .int 60, .int ((i : Nat) + 1)]) = H1 at hdt bt
        walk_at "kx"
        refine q_setB bt hdt (k := 2) rfl fun H2 b2 hd2 => ?_
        walk_at "kx"
        refine q_setB b2 hd2 (k := 3) rfl fun H3 b3 hd3 => ?_
        walk_at "kx"
        refine q_setB b3 hd3 (k := 1) rfl fun H4 b4 hd4 => ?_
        walk_at "kx"
        exact q _ _ ⟨_, _, _, rfl, b4, by omega, hd4⟩
      · walk_at "kx"
        exact q _ _ ⟨a, b, c, rfl, But.refl _ _, ha, hd⟩
end
end K53

namespace K53
open PySem PySem.Spec PyProof.Rows L2 KX M53
local macro_rules | `(tactic| walk_at "kx1") => `(tactic| first
  | (with_reducible refine q_seq ?_) | (with_reducible refine q_ifs ?_) | (with_reducible refine q_asg ?_) | (with_reducible refine q_gname ?_) | (with_reducible refine q_ret ?_)
  | (with_reducible refine q_drop ?_) | (with_reducible refine q_next ?_) | (with_reducible refine q_par ?_) | (with_reducible refine q_sfld ?_) | (with_reducible refine q_rs ?_) | (with_reducible refine q_gsub ?_) | (with_reducible refine q_retN ?_)
  | ((with_reducible show tVar _ _ _ _); (refine q_var rfl ?_)) | (with_reducible refine q_c ?_) | (with_reducible refine q_op ?_) | (with_reducible refine q_un ?_) | (with_reducible refine q_neg ?_) | (with_reducible refine q_cb ?_)
  | (with_reducible refine q_nil ?_) | (with_reducible refine q_cons ?_) | (with_reducible refine q_tup ?_) | (with_reducible refine q_lst ?_) | (with_reducible refine q_if ?_)
  | (with_reducible refine q_notT ?_) | (with_reducible refine q_call ?_) | (with_reducible refine q_callS ?_) | (with_reducible refine q_fld ?_)
  | (with_reducible refine q_bm ?_) | (with_reducible refine q_bm0 ?_) | (with_reducible refine q_sl ?_) | (with_reducible refine q_nopart ?_) | (with_reducible refine q_part ?_) | (with_reducible refine q_meth ?_) | (with_reducible refine q_make ?_)
  | (with_reducible refine q_test ?_) | (with_reducible refine q_tB ?_) | (with_reducible refine q_tru ?_) | (with_reducible refine q_not ?_)
  | (with_reducible refine q_blk ?_) | (with_reducible refine q_tv ?_) | (with_reducible refine q_addI ?_) | (with_reducible refine q_subI ?_) | (with_reducible refine q_eqI ?_) | (with_reducible refine q_neI ?_)
  | (with_reducible refine q_for ?_) | (with_reducible refine q_lc ?_) | (with_reducible refine q_iList ?_) | (with_reducible refine q_iTup ?_) | (with_reducible refine q_iStr ?_) | (with_reducible refine q_iRng1 ?_) | (with_reducible refine q_iRng2 ?_) | (with_reducible refine q_iRng3 ?_) | (with_reducible refine q_gcons ?_) | (with_reducible refine q_gnil ?_) | (with_reducible refine q_yes ?_) | (with_reducible refine q_ltI ?_) | (with_reducible refine q_iEnumS ?_) | (with_reducible refine q_pi ?_) | (with_reducible refine q_leI ?_) | (with_reducible refine q_gtI ?_) | (with_reducible refine q_geI ?_) | (with_reducible refine q_leT ?_) | (with_reducible refine q_intI ?_) | (with_reducible refine q_abs ?_) | (with_reducible refine q_eqT ?_) | (with_reducible refine q_neT ?_) | (with_reducible refine q_par3 ?_) | (with_reducible refine q_isN ?_) | (with_reducible refine q_notN ?_))
local macro_rules | `(tactic| walk_at "kx") => `(tactic| repeat walk_at "kx1")
local macro_rules | `(tactic| walk_at "kxs") => `(tactic| repeat (first | walk_at "kx1" | (with_reducible refine q_andT ?_) | (with_reducible refine q_orT ?_) | (with_reducible refine q_chain ?_) | (with_reducible refine q_and ?_) | (with_reducible refine q_or ?_)))
local macro_rules | `(tactic| walk_at "lits") => `(tactic| simp only [lit_0, lit_1, lit_2, lit_3, lit_4, lit_5, lit_6, lit_7, lit_8, lit_9, lit_10, lit_11, lit_12, lit_13, lit_14, lit_15, lit_16, lit_17, lit_18, lit_19, lit_20, lit_21, lit_22, lit_23, lit_24, lit_25, lit_26])

/-- the atoms of the law's data -/
def atoms : List PyData := [.int 0, .int (-1), .int 7, .int (10 ^ 40), .int (-10 ^ 20), .int 1000, .bool true, .bool false, .str (tx [])]
def words : List PyData := [.str (tx [97, 98, 122, 57]), .str (tx [98, 122, 57]), .str (tx [122, 57]), .str (tx [97, 50, 51, 52, 53, 54, 55, 56, 57, 48, 49, 50])]
def Ga (d : PyData) : Prop := d ∈ atoms ∨ d ∈ words
def Gd : Nat → PyData → Prop
  | 0, d => Ga d
  | k + 1, d => Ga d ∨ ∃ ds, d = .tuple ds ∧ ds.length ≤ 3 ∧ ∀ x ∈ ds, Gd k x
theorem Gd.atom {d : PyData} (h : Ga d) : ∀ k, Gd k d
  | 0 => h
  | _ + 1 => .inl h
theorem ga_flat {d : PyData} (h : Ga d) : flatD d = true := by
  rcases h with h | h
  · simp only [atoms, List.mem_cons, List.not_mem_nil, or_false] at h
    rcases h with rfl | rfl | rfl | rfl | rfl | rfl | rfl | rfl | rfl <;> rfl
  · simp only [words, List.mem_cons, List.not_mem_nil, or_false] at h
    rcases h with rfl | rfl | rfl | rfl <;> rfl
theorem flatDs_of : ∀ {ds : List PyData}, (∀ x ∈ ds, flatD x = true) → flatDs ds = true
  | [], _ => rfl
  | d :: ds, h => by
    simp only [flatDs, Bool.and_eq_true]
    exact ⟨h d (by simp), flatDs_of fun x hx => h x (by simp [hx])⟩
theorem gd_flat : ∀ {k : Nat} {d : PyData}, Gd k d → flatD d = true
  | 0, _, h => ga_flat h
  | k + 1, d, h => by
    rcases h with h | ⟨ds, rfl, _, h⟩
    · exact ga_flat h
    · simp only [flatD]
      exact flatDs_of fun x hx => gd_flat (h x hx)
def cst : Nat → Nat
  | 0 => 4
  | k + 1 => 5 + 3 * cst k
section
variable {P : Program} {w : World} {K : PySem.W.Frag} {mg : Str → Option Value} {base : Heap} {CM : Addr}
def spLD (K : PySem.W.Frag) (k : Nat) : Sp := fun vs H Q _ => ∃ (r p : Addr) (N : Nat), vs = [.ref r, .int (k : Nat)] ∧ Drw H r p N ∧ N + cst k ≤ 1000000 ∧
  ∀ v d H', But r H H' → Drw H' r p (N + cst k) → Dp K H' v d → Gd k d → Q v H'
theorem Drw.mono {H : Hp} {r p : Addr} {N M : Nat} (h : Drw H r p N) (e : N ≤ M) : Drw H r p M := by
  obtain ⟨ns, a, b, c, e, f, h1, h2, h3, h4, h5, h6, h7⟩ := h
  exact ⟨ns, a, b, c, e, f, h1, h2, h3, h4, h5, h6, by omega⟩
theorem ok_law_data_step {f f1 : Addr} {fd fd1 : FuncData} (k j : Nat) (hj : 1 ≤ j) (spG : Sp) (hG : ∀ k', k = k' + 1 → ∀ vs H Q E, spLD K k' vs H Q E → spG vs H Q E)
    (D__law_data : DefAt K mg "_law_data" s__law_data f fd ["draw", "deep"]) (T : Txt K mg CM) (nd : base.NoDigits) (D__law_take : DefAt K mg "_law_take" s__law_take f1 fd1 ["draw", "many"])
    (G__law_data : FnOk P w K mg base CX0 j f fd ["draw", "deep"] spG) : FnOk P w K mg base CX0 (j + 1) f fd ["draw", "deep"] (spLD K k) := by
  have G__law_take : FnOk P w K mg base CX0 1 f1 fd1 ["draw", "many"] spTake := ok_law_take D__law_take T nd
  refine D__law_data.fn.ok sc__law_data (fun vs H Q E h => ?_) (fun cdv A outer s H vs Q E hr h => ?_)
  · obtain ⟨r, p, N, rfl, _⟩ := h
    rfl
  · obtain ⟨r, p, N, rfl, hd, hN, q⟩ := h
    have hc : 4 ≤ cst k := by cases k <;> simp only [cst] <;> omega
    have hu := u65 hr
    refine ⟨_, (pss_cons (ps_set (i := 2) sc__law_data.nd rfl (Or.inl rfl) (pe_call G__law_take (hr.mono (by omega)) rfl D__law_take.g D__law_take.kp D__law_take.b .nil pass0 (pa_cons (pv 0) (pa_cons pe_int pa_nil))))
      (pss_cons (ps_if (PW.pt (pw_and (pt_cmpR k_gt (pv 1) pe_int (nomark _)) (pw_and1 (pt_cmpR k_lt (pv 2) pe_int (nomark _))))) (pss_one (ps_ret (pe_callTy (w_tuple (K := K)) rfl T.b_tuple bb_tuple (pa_cons (pe_lc (own := [("turn", 3)]) rfl sc__law_data.nd (pi_range1 rfl T.b_range (pa_cons (pe_call G__law_take (hr.mono (by omega)) rfl D__law_take.g D__law_take.kp D__law_take.b .nil pass0 (pa_cons (pv 0) (pa_cons pe_int pa_nil))) pa_nil)) (blkOk_by (N := n__law_data) (sc := defScope s__law_data) (by decide +kernel)) (fun _ _ _ _ _ => (pg_name (i := 3) sc__law_data.nd rfl (Or.inl rfl))) (fun _ _ _ _ _ => pts_nil) (fun _ _ _ _ _ => (pe_call G__law_data (hr.mono (by omega)) rfl D__law_data.g D__law_data.kp D__law_data.b .nil pass0 (pa_cons (pv 0) (pa_cons (pe_op op_sub (pv 1) pe_int) pa_nil))))) pa_nil)))) pss_nil)
      (pss_cons (ps_if (pt_cmpR (w_eq (K := K) hu) (pv 2) pe_int (nomark _)) (pss_one (ps_ret (pe_ifExp (pt_cmpR k_gt (pe_call G__law_take (hr.mono (by omega)) rfl D__law_take.g D__law_take.kp D__law_take.b .nil pass0 (pa_cons (pv 0) (pa_cons pe_int pa_nil))) pe_int (nomark _)) (pe_slice (w_sl (K := K)) pe_str (po_some (pe_call G__law_take (hr.mono (by omega)) rfl D__law_take.g D__law_take.kp D__law_take.b .nil pass0 (pa_cons (pv 0) (pa_cons pe_int pa_nil)))) po_none) pe_str))) pss_nil)
      (pss_one (ps_ret (pe_ix (w_ix (K := K)) (pe_lst (pa_cons pe_int (pa_cons (pe_un un_neg pe_int) (pa_cons pe_int (pa_cons (pe_op op_pow pe_int pe_int) (pa_cons (pe_un un_neg (pe_op op_pow pe_int pe_int)) (pa_cons pe_int (pa_cons pe_bl (pa_cons pe_bl (pa_cons pe_str pa_nil)))))))))) (pe_call G__law_take (hr.mono (by omega)) rfl D__law_take.g D__law_take.kp D__law_take.b .nil pass0 (pa_cons (pv 0) (pa_cons pe_int pa_nil))) (fun _ _ => rfl))))))), ?_⟩
    walk_at "lits"
    walk_at "kx"
    refine ⟨r, p, 6, N, rfl, by decide, by decide, hd, by omega, fun H1 i hi b1 hd1 => ?_⟩
    walk_at "kx"
    refine q_andB (a := decide ((0 : Int) < (k : Nat))) (b := decide (((i : Nat) : Int) < 3)) (fun R1 q => ?_) (fun _ R1 q => ?_) ?_
    · walk_at "kx"
      exact q
    · walk_at "kx"
      exact q
    refine ifT (fun h1 => ?_) (fun h1 => ?_)
    · walk_at "kx"
      refine ⟨r, p, 4, N + 1, rfl, by decide, by decide, hd1, by omega, fun H2 i2 hi2 b2 hd2 => ?_⟩
      refine ⟨_, rfl, by omega, by omega, ?_⟩
      rw [Bool.and_eq_true] at h1
      obtain ⟨k, rfl⟩ : ∃ k', k = k' + 1 := ⟨k - 1, by have := of_decide_eq_true h1.1; omega⟩
      have b12 := b1.trans b2
      have rd2 := hd2.lst
      have pd2 := hd2.lstp
      refine lc_fold (n := i2) walk_range (by omega) (fun D t acc H' => H2 D = none ∧ But r H H' ∧ Drw H' r p (N + 2 + t * cst k) ∧ ∃ ds, DpAll K H' acc ds ∧ ds.length = t ∧ ∀ x ∈ ds, Gd k x) ?_ (fun _ _ _ _ _ _ => trivial) (fun _ => rfl) ?_ ?_
      · intro D nD
        exact ⟨nD, b12.trans (But.of_ex (Evl.Ex.new nD)), by rw [Nat.zero_mul]; exact hd2.ex (Evl.Ex.new nD), [], .nil, rfl, by simp⟩
      · rintro D t acc x H3 H4 nD ht ⟨_, b3, hd3, ds, g1, g2, g3⟩ hD ⟨rfl, rfl⟩ R qR
        have hrD : r ≠ D := by
          rintro rfl
          obtain ⟨xs, e⟩ := rd2
          rw [nD] at e
          cases e
        have hpD : p ≠ D := by
          rintro rfl
          obtain ⟨xs, e⟩ := pd2
          rw [nD] at e
          cases e
        walk_at "kx"
        refine hG k rfl _ _ _ _ ?_
        have hcs : t * cst k + cst k ≤ 3 * cst k := by
          have : (t + 1) * cst k ≤ 3 * cst k := Nat.mul_le_mul_right _ (by omega)
          rw [Nat.add_mul, Nat.one_mul] at this
          exact this
        simp only [cst] at hN
        refine ⟨r, p, N + 2 + t * cst k, ?_, hd3, by omega, fun v d H5 b5 hd5 hv hgd => ?_⟩
        · show [V.ref r, V.int (((k + 1 : Nat) : Int) - 1)] = _
          have e : ((k + 1 : Nat) : Int) - 1 = (k : Nat) := by omega
          rw [e]
        · have hD5 := b5 D _ hrD.symm hD
          obtain ⟨rxs, hrx⟩ := hd3.lst
          have kt := b5.kt hrx
          have kt2 : Kt H5 (upd H5 D (.lst (acc ++ [v]))) := Kt.upd hD5 trivial
          refine qR v H5 hD5 ⟨nD, ?_, ?_, ds ++ [d], ?_, by rw [List.length_append, g2]; rfl, ?_⟩
          · intro a o na ha
            have z : a ≠ D := by
              rintro rfl
              have e := b12 a o na ha
              rw [nD] at e
              cases e
            rw [upd_ne z]
            exact b5 a o na (b3 a o na ha)
          · have := hd5.upd (o := .lst (acc ++ [v])) hrD hpD
            rw [Nat.add_mul, Nat.one_mul, ← Nat.add_assoc]
            exact this
          · exact dpa_app (dpa_kt kt2 (flatDs_of fun x hx => gd_flat (g3 x hx)) (dpa_kt kt (flatDs_of fun x hx => gd_flat (g3 x hx)) g1)) (.cons (dp_kt kt2 (gd_flat hgd) hv) .nil)
          · intro x hx
            rcases List.mem_append.mp hx with h | h
            · exact g3 x h
            · rw [List.mem_singleton.mp h]
              exact hgd
      · rintro D acc H3 nD ⟨_, b3, hd3, ds, g1, g2, g3⟩ hD
        walk_at "kx"
        refine ⟨D, acc, rfl, .inl ⟨SqL.of hD, fun l nl => ?_⟩⟩
        have x4 : Ex H3 (upd H3 l (.tup acc)) := Evl.Ex.new nl
        refine q _ (.tuple ds) _ (b3.trans (But.of_ex x4)) ((hd3.ex x4).mono ?_) (.tup (SqT.of upd_same) (dpa_ex x4 g1)) (.inr ⟨ds, rfl, by omega, g3⟩)
        have : i2 * cst k ≤ 3 * cst k := Nat.mul_le_mul_right _ (by omega)
        simp only [cst]
        omega
    · walk_at "kx"
      refine ifT (fun h2 => ?_) (fun h2 => ?_)
      · walk_at "kx"
        refine ⟨r, p, 4, N + 1, rfl, by decide, by decide, hd1, by omega, fun H2 i2 hi2 b2 hd2 => ?_⟩
        walk_at "kx"
        refine ifT (fun h3 => ?_) (fun h3 => ?_)
        · walk_at "kx"
          refine ⟨r, p, 3, N + 2, rfl, by decide, by decide, hd2, by omega, fun H3 i3 hi3 b3 hd3 => ?_⟩
          refine ⟨_, rfl, ?_⟩
          walk_at "kx"
          refine q_slFrom i3 (sml rfl) ?_
          refine q _ (.str (tx (([97, 98, 122, 57] : List Nat).drop i3))) H3 ((b1.trans b2).trans b3) (hd3.mono (by omega)) (.str _) (Gd.atom (.inr ?_) k)
          have : i3 = 0 ∨ i3 = 1 ∨ i3 = 2 := by omega
          rcases this with rfl | rfl | rfl <;> simp [words]
        · walk_at "kx"
          refine q _ (.str (tx [97, 50, 51, 52, 53, 54, 55, 56, 57, 48, 49, 50])) H2 (b1.trans b2) (hd2.mono (by omega)) (.str _) (Gd.atom (.inr ?_) k)
          simp [words]
      · walk_at "kx"
        refine q_pow ⟨by decide, by decide, by decide⟩ ?_
        walk_at "kx"
        refine q_pow ⟨by decide, by decide, by decide⟩ ?_
        walk_at "kx"
        refine ⟨sml rfl, fun l nl => ?_⟩
        walk_at "kx"
        have b2 := b1.trans (But.of_ex (r := r) (Evl.Ex.new nl (o := .lst [.int 0, .int (-1), .int 7, .int (10 ^ 40), .int (-10 ^ 20), .int 1000, .bl true, .bl false, .str (tx [])])))
        have hd2 := hd1.ex (Evl.Ex.new nl (o := .lst [.int 0, .int (-1), .int 7, .int (10 ^ 40), .int (-10 ^ 20), .int 1000, .bl true, .bl false, .str (tx [])]))
        have rl : l ≠ r := by
          rintro rfl
          obtain ⟨xs, e⟩ := hd1.lst
          rw [nl] at e
          cases e
        have hll : upd H1 l (.lst [.int 0, .int (-1), .int 7, .int (10 ^ 40), .int (-10 ^ 20), .int 1000, .bl true, .bl false, .str (tx [])]) l = _ := upd_same
        refine ⟨r, p, 9, N + 1, rfl, by decide, by decide, hd2, by omega, fun H2 i2 hi2 b3 hd3 => ?_⟩
        have h3 := b3 l _ rl hll
        have fin : ∀ (v : V) (d : PyData), Dp K H2 v d → d ∈ atoms → Q v H2 := fun v d h1 h2 => q v d H2 (b2.trans b3) (hd3.mono (by omega)) h1 (Gd.atom (.inl h2) k)
        have : i2 = 0 ∨ i2 = 1 ∨ i2 = 2 ∨ i2 = 3 ∨ i2 = 4 ∨ i2 = 5 ∨ i2 = 6 ∨ i2 = 7 ∨ i2 = 8 := by omega
        rcases this with rfl | rfl | rfl | rfl | rfl | rfl | rfl | rfl | rfl
        · exact q_ixL (SqL.of h3) (i := 0) rfl (fin _ _ (.int _) (by simp [atoms]))
        · exact q_ixL (SqL.of h3) (i := 1) rfl (fin _ _ (.int _) (by simp [atoms]))
        · exact q_ixL (SqL.of h3) (i := 2) rfl (fin _ _ (.int _) (by simp [atoms]))
        · exact q_ixL (SqL.of h3) (i := 3) rfl (fin _ _ (.int _) (by simp [atoms]))
        · exact q_ixL (SqL.of h3) (i := 4) rfl (fin _ _ (.int _) (by simp [atoms]))
        · exact q_ixL (SqL.of h3) (i := 5) rfl (fin _ _ (.int _) (by simp [atoms]))
        · exact q_ixL (SqL.of h3) (i := 6) rfl (fin _ _ (.bl _) (by simp [atoms]))
        · exact q_ixL (SqL.of h3) (i := 7) rfl (fin _ _ (.bl _) (by simp [atoms]))
        · exact q_ixL (SqL.of h3) (i := 8) rfl (fin _ _ (.str _) (by simp [atoms]))
theorem ok_law_data {f f1 : Addr} {fd fd1 : FuncData} (D__law_data : DefAt K mg "_law_data" s__law_data f fd ["draw", "deep"]) (T : Txt K mg CM) (nd : base.NoDigits) (D__law_take : DefAt K mg "_law_take" s__law_take f1 fd1 ["draw", "many"]) :
    ∀ k : Nat, FnOk P w K mg base CX0 (k + 2) f fd ["draw", "deep"] (spLD K k)
  | 0 => ok_law_data_step 0 1 (Nat.le_refl _) (fun _ _ _ _ => False) (fun k' e => by cases e) D__law_data T nd D__law_take ⟨fun _ _ _ _ h => h.elim, fun _ _ _ _ _ _ _ _ _ _ _ _ _ h => h.elim⟩
  | k + 1 => ok_law_data_step (k + 1) (k + 2) (by omega) (spLD K k) (fun k' e vs H Q E h => by cases e; exact h) D__law_data T nd D__law_take (ok_law_data D__law_data T nd D__law_take k)
end
end K53

namespace K53
open PySem PySem.Spec PyProof.Rows L2 KX M53
local macro_rules | `(tactic| walk_at "kx1") => `(tactic| first
  | (with_reducible refine q_seq ?_) | (with_reducible refine q_ifs ?_) | (with_reducible refine q_asg ?_) | (with_reducible refine q_gname ?_) | (with_reducible refine q_ret ?_)
  | (with_reducible refine q_drop ?_) | (with_reducible refine q_next ?_) | (with_reducible refine q_par ?_) | (with_reducible refine q_sfld ?_) | (with_reducible refine q_rs ?_) | (with_reducible refine q_gsub ?_) | (with_reducible refine q_retN ?_)
  | ((with_reducible show tVar _ _ _ _); (refine q_var rfl ?_)) | (with_reducible refine q_c ?_) | (with_reducible refine q_op ?_) | (with_reducible refine q_un ?_) | (with_reducible refine q_neg ?_) | (with_reducible refine q_cb ?_)
  | (with_reducible refine q_nil ?_) | (with_reducible refine q_cons ?_) | (with_reducible refine q_tup ?_) | (with_reducible refine q_lst ?_) | (with_reducible refine q_if ?_)
  | (with_reducible refine q_notT ?_) | (with_reducible refine q_call ?_) | (with_reducible refine q_callS ?_) | (with_reducible refine q_fld ?_)
  | (with_reducible refine q_bm ?_) | (with_reducible refine q_bm0 ?_) | (with_reducible refine q_sl ?_) | (with_reducible refine q_nopart ?_) | (with_reducible refine q_part ?_) | (with_reducible refine q_meth ?_) | (with_reducible refine q_make ?_)
  | (with_reducible refine q_test ?_) | (with_reducible refine q_tB ?_) | (with_reducible refine q_tru ?_) | (with_reducible refine q_not ?_)
  | (with_reducible refine q_blk ?_) | (with_reducible refine q_tv ?_) | (with_reducible refine q_addI ?_) | (with_reducible refine q_subI ?_) | (with_reducible refine q_eqI ?_) | (with_reducible refine q_neI ?_)
  | (with_reducible refine q_for ?_) | (with_reducible refine q_lc ?_) | (with_reducible refine q_iList ?_) | (with_reducible refine q_iTup ?_) | (with_reducible refine q_iStr ?_) | (with_reducible refine q_iRng1 ?_) | (with_reducible refine q_iRng2 ?_) | (with_reducible refine q_iRng3 ?_) | (with_reducible refine q_gcons ?_) | (with_reducible refine q_gnil ?_) | (with_reducible refine q_yes ?_) | (with_reducible refine q_ltI ?_) | (with_reducible refine q_iEnumS ?_) | (with_reducible refine q_pi ?_) | (with_reducible refine q_leI ?_) | (with_reducible refine q_gtI ?_) | (with_reducible refine q_geI ?_) | (with_reducible refine q_leT ?_) | (with_reducible refine q_intI ?_) | (with_reducible refine q_abs ?_) | (with_reducible refine q_eqT ?_) | (with_reducible refine q_neT ?_) | (with_reducible refine q_par3 ?_) | (with_reducible refine q_isN ?_) | (with_reducible refine q_notN ?_))
local macro_rules | `(tactic| walk_at "kx") => `(tactic| repeat walk_at "kx1")
local macro_rules | `(tactic| walk_at "kxs") => `(tactic| repeat (first | walk_at "kx1" | (with_reducible refine q_andT ?_) | (with_reducible refine q_orT ?_) | (with_reducible refine q_chain ?_) | (with_reducible refine q_and ?_) | (with_reducible refine q_or ?_)))
local macro_rules | `(tactic| walk_at "lits") => `(tactic| simp only [lit_0, lit_1, lit_2, lit_3, lit_4, lit_5, lit_6, lit_7, lit_8, lit_9, lit_10, lit_11, lit_12, lit_13, lit_14, lit_15, lit_16, lit_17, lit_18, lit_19, lit_20, lit_21, lit_22, lit_23, lit_24, lit_25, lit_26])

section
variable {P : Program} {w : World} {K : PySem.W.Frag} {mg : Str → Option Value} {base : Heap} {CM : Addr}
theorem lt_one (a b : Nat) : decide ([a] < [b]) = decide (a < b) := by
  rw [decide_eq_decide, List.cons_lt_cons_iff]
  simp
theorem e97 (c : Nat) : (!decide ([c] < [97]) && !decide ([122] < [c])) = low c := by
  rw [lt_one, lt_one]
  unfold low
  rw [← Bool.decide_and, Bool.eq_iff_iff]
  simp only [Bool.and_eq_true, Bool.not_eq_true', decide_eq_false_iff_not, decide_eq_true_eq]
  omega
theorem lword_ev (K : PySem.W.Frag) (v : V) (c : Nat) (H : Hp) :
    Evl.Ev (tOrT K (tChain rLeU rLeU (tC (V.str (tx [97]))) (tVar 1) (tC (V.str (tx [122])))) (tChain rLeU rLeU (tC (V.str (tx [48]))) (tVar 1) (tC (V.str (tx [57]))))) [some v, some (.str (tx [c]))] H (.bl (wordc c)) := by
  intro H1 e1 Q q
  have q0 := q H1 (Evl.Ex.refl H1)
  have pv : Pu (tVar 1) [some v, some (.str (tx [c]))] H1 (.str (tx [c])) := fun R r => q_var rfl r
  have e48 : (!decide ([c] < [48]) && !decide ([57] < [c])) = dig c := by
    rw [lt_one, lt_one]
    unfold dig
    rw [← Bool.decide_and, Bool.eq_iff_iff]
    simp only [Bool.and_eq_true, Bool.not_eq_true', decide_eq_false_iff_not, decide_eq_true_eq]
    omega
  refine q_orV (a := low c) (b := dig c) (fun R r => ?_) (fun _ R r => ?_) q0
  · refine q_chainT (fun R r => q_c r) pv (fun R r => q_c r) ?_
    rw [e97 c]
    exact r
  · refine q_chainT (fun R r => q_c r) pv (fun R r => q_c r) ?_
    rw [e48]
    exact r
theorem ok_law_word {f : Addr} {fd : FuncData} (D : DefAt K mg "_law_word" s__law_word f fd ["value"]) (T : Txt K mg CM) : FnOk P w K mg base CX0 1 f fd ["value"] (spIsWord K) := by
  refine D.fn.ok sc__law_word (fun vs H Q E h => ?_) (fun cdv A outer s H vs Q E hr h => ?_)
  · obtain ⟨v, d, rfl, _⟩ := h
    rfl
  · obtain ⟨v, d, rfl, hd, hz, q⟩ := h
    have hu := u65 hr
    refine ⟨_, (pss_cons (ps_if (PW.pt (pw_or (pt_not (w_tru (K := K) (pe_callB (w_isi (K := K)) rfl T.b_isinstance bb_isinstance (pa_cons (pv 0) (pa_cons (pe_bltn (v := V.ty "str") rfl T.b_str bb_str rfl) pa_nil))))) (pw_or (pt_not (pt_chain k_le k_le pe_int (pe_callB (w_len (K := K)) rfl T.b_len bb_len (pa_cons (pv 0) pa_nil)) pe_int)) (pw_or1 (pt_not (pt_chain k_le k_le pe_str (pe_ix (w_ix (K := K)) (pv 0) pe_int (fun _ _ => rfl)) pe_str)))))) (pss_one (ps_ret pe_bl)) pss_nil)
      (pss_one (ps_ret (pe_callB (w_all (K := K) rfl) rfl T.b_all bb_all (pa_cons (pe_lc (own := [("sign", 1)]) rfl sc__law_word.nd (pi_str (pv 0)) (blkOk_by (N := n__law_word) (sc := defScope s__law_word) (by decide +kernel)) (fun _ _ _ _ _ => (pg_name (i := 1) sc__law_word.nd rfl (Or.inl rfl))) (fun _ _ _ _ _ => pts_nil) (fun _ _ _ _ _ => (w_or (K := K) (pe_chain k_le k_le pe_str (pv 1) pe_str) (pe_one (pe_chain k_le k_le pe_str (pv 1) pe_str))))) pa_nil))))), ?_⟩
    walk_at "kxs"
    refine is_str hd ?_
    walk_at "kxs"
    by_cases hs : ∃ s, d = .str s
    · obtain ⟨s0, rfl⟩ := hs
      cases hd
      obtain ⟨l, rfl⟩ : ∃ l, s0 = tx l := ⟨_, (tx_of s0).symm⟩
      have hl : l.length ≤ sizeLine := by rw [← tx_len]; exact hz _ rfl
      have ew : wordD (.str (tx l)) = isWord l := by simp only [wordD, tx_list]
      rw [ew] at q
      have no : isWord l = false → Q (.bl false) H := fun e => by rw [e] at q; exact q H (Evl.Ex.refl H)
      refine ifF rfl ?_
      walk_at "kxs"
      refine q_lenS hl ?_
      walk_at "kxs"
      refine ifT (fun h1 => ?_) (fun h1 => ?_)
      · walk_at "kxs"
        refine ifT (fun h2 => ?_) (fun h2 => ?_)
        · refine ifY rfl ?_
          walk_at "kxs"
          refine no ?_
          have h3 : decide (l.length ≤ 12) = false := by
            have := of_decide_eq_false (Bool.not_eq_true' _ |>.mp h2)
            exact decide_eq_false (by omega)
          unfold isWord
          rw [h3, Bool.and_false, Bool.false_and]
        · have h1' := of_decide_eq_true h1
          have h2' : l.length ≤ 12 := by
            have := of_decide_eq_true (by simpa using h2 : decide ((l.length : Int) ≤ 12) = true)
            omega
          obtain ⟨c, r, rfl⟩ : ∃ c r, l = c :: r := by
            cases l with
            | nil => simp at h1'
            | cons c r => exact ⟨c, r, rfl⟩
          have e0 : isWord (c :: r) = (low c && (c :: r).all wordc) := by
            unfold isWord
            rw [decide_eq_true h2', decide_eq_true (show 1 ≤ (c :: r).length by simp), Bool.and_self, Bool.true_and]
            rfl
          walk_at "kxs"
          refine q_ixS (i := 0) (c := c) hl rfl ?_
          walk_at "kxs"
          rw [lit_11, lit_12, lit_7, lit_13]
          have e97 := e97 c
          refine q_leT ⟨_, rfl, ifT (fun h4 => ?_) (fun h4 => ?_)⟩
          rotate_left
          · rw [h4, Bool.false_and] at e97
            refine ⟨false, rfl, ifY rfl ?_⟩
            walk_at "kxs"
            refine no ?_
            rw [e0, ← e97, Bool.false_and]
          rw [h4, Bool.true_and] at e97
          walk_at "kxs"
          rw [e97]
          refine ifT (fun h3 => ?_) (fun h3 => ?_)
          · walk_at "kxs"
            refine no ?_
            rw [e0, (by simpa using h3 : low c = false), Bool.false_and]
          · walk_at "kxs"
            refine ⟨_, rfl, ?_⟩
            refine lc_str (by omega) (fun c => .bl (wordc c)) (fun _ => rfl) (fun c _ => lword_ev K _ c H) (fun p H' hp he e => ?_)
            walk_at "kxs"
            refine q_all (bs := (c :: r).map wordc) (by rw [e, List.map_map]; rfl) ?_
            have e1 : ((c :: r).map wordc).all id = (c :: r).all wordc := by rw [List.all_map]; rfl
            rw [e1]
            rw [e0, (by simpa using h3 : low c = true), Bool.true_and] at q
            exact q H' he
      · walk_at "kxs"
        refine ifY rfl (ifY rfl ?_)
        walk_at "kxs"
        refine no ?_
        have h3 : decide (1 ≤ l.length) = false := by
          have := of_decide_eq_false h1
          exact decide_eq_false (by omega)
        unfold isWord
        rw [h3, Bool.false_and, Bool.false_and]
    · have e : isStrD d = false := by
        cases d with
        | str s => exact absurd ⟨s, rfl⟩ hs
        | _ => rfl
      have e2 : wordD d = false := by
        cases d with
        | str s => exact absurd ⟨s, rfl⟩ hs
        | _ => rfl
      refine ifY (by rw [e]; rfl) (ifY rfl ?_)
      walk_at "kxs"
      rw [e2] at q
      exact q H (Evl.Ex.refl H)
end
end K53

namespace K53
open PySem PySem.Spec PyProof.Rows L2 KX M53
local macro_rules | `(tactic| walk_at "kx1") => `(tactic| first
  | (with_reducible refine q_seq ?_) | (with_reducible refine q_ifs ?_) | (with_reducible refine q_asg ?_) | (with_reducible refine q_gname ?_) | (with_reducible refine q_ret ?_)
  | (with_reducible refine q_drop ?_) | (with_reducible refine q_next ?_) | (with_reducible refine q_par ?_) | (with_reducible refine q_sfld ?_) | (with_reducible refine q_rs ?_) | (with_reducible refine q_gsub ?_) | (with_reducible refine q_retN ?_)
  | ((with_reducible show tVar _ _ _ _); (refine q_var rfl ?_)) | (with_reducible refine q_c ?_) | (with_reducible refine q_op ?_) | (with_reducible refine q_un ?_) | (with_reducible refine q_neg ?_) | (with_reducible refine q_cb ?_)
  | (with_reducible refine q_nil ?_) | (with_reducible refine q_cons ?_) | (with_reducible refine q_tup ?_) | (with_reducible refine q_lst ?_) | (with_reducible refine q_if ?_)
  | (with_reducible refine q_notT ?_) | (with_reducible refine q_call ?_) | (with_reducible refine q_callS ?_) | (with_reducible refine q_fld ?_)
  | (with_reducible refine q_bm ?_) | (with_reducible refine q_bm0 ?_) | (with_reducible refine q_sl ?_) | (with_reducible refine q_nopart ?_) | (with_reducible refine q_part ?_) | (with_reducible refine q_meth ?_) | (with_reducible refine q_make ?_)
  | (with_reducible refine q_test ?_) | (with_reducible refine q_tB ?_) | (with_reducible refine q_tru ?_) | (with_reducible refine q_not ?_)
  | (with_reducible refine q_blk ?_) | (with_reducible refine q_tv ?_) | (with_reducible refine q_addI ?_) | (with_reducible refine q_subI ?_) | (with_reducible refine q_eqI ?_) | (with_reducible refine q_neI ?_)
  | (with_reducible refine q_for ?_) | (with_reducible refine q_lc ?_) | (with_reducible refine q_iList ?_) | (with_reducible refine q_iTup ?_) | (with_reducible refine q_iStr ?_) | (with_reducible refine q_iRng1 ?_) | (with_reducible refine q_iRng2 ?_) | (with_reducible refine q_iRng3 ?_) | (with_reducible refine q_gcons ?_) | (with_reducible refine q_gnil ?_) | (with_reducible refine q_yes ?_) | (with_reducible refine q_ltI ?_) | (with_reducible refine q_iEnumS ?_) | (with_reducible refine q_pi ?_) | (with_reducible refine q_leI ?_) | (with_reducible refine q_gtI ?_) | (with_reducible refine q_geI ?_) | (with_reducible refine q_leT ?_) | (with_reducible refine q_intI ?_) | (with_reducible refine q_abs ?_) | (with_reducible refine q_eqT ?_) | (with_reducible refine q_neT ?_) | (with_reducible refine q_par3 ?_) | (with_reducible refine q_isN ?_) | (with_reducible refine q_notN ?_))
local macro_rules | `(tactic| walk_at "kx") => `(tactic| repeat walk_at "kx1")
local macro_rules | `(tactic| walk_at "kxs") => `(tactic| repeat (first | walk_at "kx1" | (with_reducible refine q_andT ?_) | (with_reducible refine q_orT ?_) | (with_reducible refine q_chain ?_) | (with_reducible refine q_and ?_) | (with_reducible refine q_or ?_)))
local macro_rules | `(tactic| walk_at "lits") => `(tactic| simp only [lit_0, lit_1, lit_2, lit_3, lit_4, lit_5, lit_6, lit_7, lit_8, lit_9, lit_10, lit_11, lit_12, lit_13, lit_14, lit_15, lit_16, lit_17, lit_18, lit_19, lit_20, lit_21, lit_22, lit_23, lit_24, lit_25, lit_26])

section
variable {P : Program} {w : World} {K : PySem.W.Frag} {mg : Str → Option Value} {base : Heap} {CM : Addr}
theorem sqt_ex {K : PySem.W.Frag} {H H' : Hp} {a : Addr} {xs : List V} (e : Ex H H') (h : SqT K H a xs) : SqT K H' a xs := h.elim (fun h => .inl (h.elim (fun h => .inl (e _ _ h)) fun ⟨o, h⟩ => .inr ⟨o, e _ _ h⟩)) fun h => .inr h
theorem strs_dp {K : PySem.W.Frag} {H : Hp} : ∀ ts : List (List Nat), DpAll K H (ts.map fun t => .str (tx t)) (ts.map fun t => .str (tx t))
  | [] => .nil
  | _ :: ts => .cons (.str _) (strs_dp ts)
theorem strs_none : ∀ ts : List (List Nat), ((ts.map fun t => PyData.str (tx t)).any fun z => PyData.eqv z .none) = false
  | [] => rfl
  | t :: ts => by
    simp only [List.map_cons, List.any_cons, strs_none ts, Bool.or_false]
    simp only [PyData.eqv]
theorem txt_ok {t : List Nat} (h : ∀ c ∈ t, c < 128) : PyData.strOk (tx t) = true := by
  unfold PyData.strOk
  rw [Array.all_eq_true_iff_forall_mem]
  intro c hc
  have : c ∈ (tx t).cps.toList := by simpa using hc
  rw [tx_list] at this
  have := h c this
  simp
  omega
theorem strs_shaped (ts : List (List Nat)) (h : ∀ t ∈ ts, ∀ c ∈ t, c < 128) : SeqAt.shaped (.list (ts.map fun t => PyData.str (tx t))) = true := by
  have h1 : ∀ ts : List (List Nat), (∀ t ∈ ts, ∀ c ∈ t, c < 128) → PyData.canLayAll0 (ts.map fun t => PyData.str (tx t)) = true ∧ PyData.depthAll (ts.map fun t => PyData.str (tx t)) = 0 := by
    intro ts
    induction ts with
    | nil => intro _; exact ⟨by simp [PyData.canLayAll0], by simp [PyData.depthAll]⟩
    | cons t ts ih =>
      intro h
      obtain ⟨a, b⟩ := ih fun x hx => h x (by simp [hx])
      constructor
      · simp only [List.map_cons, PyData.canLayAll0, PyData.canLay0, a, Bool.and_true]
        exact txt_ok (h t (by simp))
      · simp only [List.map_cons, PyData.depthAll, PyData.depth, b]
        rfl
  obtain ⟨a, b⟩ := h1 ts h
  unfold SeqAt.shaped
  simp only [PyData.canLay0, PyData.depth, a, b]
  rfl
def spLw (K : PySem.W.Frag) (k : Nat) : Sp := fun vs H Q _ => ∃ v d t, vs = [v] ∧ Dp K H v d ∧ wr k d = some t ∧ t.length ≤ 100000 ∧ ∀ H', Ex H H' → Q (.str (tx t)) H'
theorem ok_law_written_step {f f1 : Addr} {fd fd1 : FuncData} (k j : Nat) (hj : 1 ≤ j) (spG : Sp) (hG : ∀ k', k = k' + 1 → ∀ vs H Q E, spLw K k' vs H Q E → spG vs H Q E)
    (D__law_written : DefAt K mg "_law_written" s__law_written f fd ["data"]) (T : Txt K mg CM) (nd : base.NoDigits) (D__law_word : DefAt K mg "_law_word" s__law_word f1 fd1 ["value"])
    (G__law_written : FnOk P w K mg base CX0 j f fd ["data"] spG) : FnOk P w K mg base CX0 (j + 1) f fd ["data"] (spLw K k) := by
  have G__law_word : FnOk P w K mg base CX0 1 f1 fd1 ["value"] (spIsWord K) := ok_law_word D__law_word T
  refine D__law_written.fn.ok sc__law_written (fun vs H Q E h => ?_) (fun cdv A outer s H vs Q E hr h => ?_)
  · obtain ⟨v, d, t, rfl, _⟩ := h
    rfl
  · obtain ⟨v, d, t, rfl, hd, ht, hl, q⟩ := h
    have hu := u65 hr
    have hu1 : (A.deeper (envOfC "_law_written" (defScope s__law_written) s.heap.objs.size f cdv)).units + 1 < cLine := by omega
    refine ⟨_, (pss_cons (ps_if (w_tru (K := K) (pe_callB (w_isi (K := K)) rfl T.b_isinstance bb_isinstance (pa_cons (pv 0) (pa_cons (pe_bltn (v := V.ty "tuple") rfl T.b_tuple bb_tuple rfl) pa_nil)))) (pss_cons (ps_setLc (own := [("item", 2)]) (i := 1) rfl sc__law_written.nd rfl rfl (sw_true rfl rfl rfl (by decide +kernel)) (w_itup (K := K) (pv 0)) (blkOk_by (N := n__law_written) (sc := defScope s__law_written) (by decide +kernel)) (fun _ _ _ _ _ => (pg_name (i := 2) sc__law_written.nd rfl (Or.inl rfl))) (fun _ _ _ _ _ => pts_nil) (fun _ _ _ _ _ => (pe_call G__law_written (hr.mono (by omega)) rfl D__law_written.g D__law_written.kp D__law_written.b .nil pass0 (pa_cons (pv 2) pa_nil))))
      (pss_one (ps_ret (pe_ifExp (pt_cmpR (w_in (K := K) hu) pe_non (pv 1) (by rfl)) pe_non (pe_op (w_add (K := K)) (pe_op (w_add (K := K)) pe_str (wk_bm (K := K) (pe_bm PySem.F.plainAttrs_str PySem.F.slot_str_join PySem.F.type_str_join (w_join (K := K)) pe_str (pa_cons (pv 1) pa_nil)))) pe_str))))) pss_nil)
      (pss_cons (ps_if (w_tru (K := K) (pe_call G__law_word (hr.mono (by omega)) rfl D__law_word.g D__law_word.kp D__law_word.b .nil pass0 (pa_cons (pv 0) pa_nil))) (pss_one (ps_ret (pv 0))) pss_nil)
      (pss_cons (ps_if (PW.pt (pw_or (w_tru (K := K) (pe_callB (w_isi (K := K)) rfl T.b_isinstance bb_isinstance (pa_cons (pv 0) (pa_cons (pe_bltn (v := V.ty "bool") rfl T.b_bool bb_bool rfl) pa_nil)))) (pw_or1 (PW.pt (pw_and (w_tru (K := K) (pe_callB (w_isi (K := K)) rfl T.b_isinstance bb_isinstance (pa_cons (pv 0) (pa_cons (pe_bltn (v := V.ty "str") rfl T.b_str bb_str rfl) pa_nil)))) (pw_and1 (pt_cmpR (w_eq (K := K) hu) (pv 0) pe_str (nomark _)))))))) (pss_one (ps_ret (pe_dget hu1 (pe_disp (pps_cons pe_str pe_str (pps_cons pe_str pe_str (pps_cons pe_str pe_str pps_nil))) rfl rfl (fun z => nomatch z) (by decide)) (pe_callTy (kx_str rfl nd) rfl T.b_str bb_str (pa_cons (pv 0) pa_nil)) (fun _ _ => rfl)))) pss_nil)
      (pss_one (ps_ret (pe_ifExp (w_tru (K := K) (pe_callB (w_isi (K := K)) rfl T.b_isinstance bb_isinstance (pa_cons (pv 0) (pa_cons (pe_bltn (v := V.ty "int") rfl T.b_int bb_int rfl) pa_nil)))) (pe_callTy (kx_str rfl nd) rfl T.b_str bb_str (pa_cons (pv 0) pa_nil)) pe_non)))))), ?_⟩
    walk_at "lits"
    walk_at "kx"
    refine is_tup hd ?_
    walk_at "kx"
    refine ifT (fun h1 => ?_) (fun h1 => ?_)
    · obtain ⟨ds, rfl⟩ : ∃ ds, d = .tuple ds := by
        cases d with
        | tuple ds => exact ⟨ds, rfl⟩
        | _ => cases h1
      obtain ⟨k, ts, rfl, h2, rfl⟩ := wr_tup ht
      walk_at "kx"
      cases hd with
      | tup hsq hall =>
        rename_i a xs
        have hxl : xs.length = ds.length := dpa_len hall
        have htl := wrs_len h2
        have hcl := comma_len ts
        simp only [List.length_cons, List.length_append, List.length_nil] at hl
        have htl2 : ts.length ≤ 100000 := by
          by_cases z : ts = []
          · subst z; exact Nat.zero_le _
          · rw [if_neg z] at hcl; omega
        have htl3 : (ts.map List.length).sum + ts.length ≤ 100001 := by
          by_cases z : ts = []
          · subst z; exact Nat.zero_le _
          · rw [if_neg z] at hcl; omega
        have htall : ∀ t ∈ ts, t.length ≤ 100000 := fun t ht => by
          have := sum_get ht
          by_cases z : ts = []
          · subst z; cases ht
          · rw [if_neg z] at hcl; omega
        have hs0 := sizeLine_eq
        refine ⟨a, rfl, ⟨_, hsq⟩, ?_⟩
        refine lc_ev (walk_tup (xs := xs)) (by omega) (fun i => xs.getD i .non) (fun i => .str (tx (ts.getD i []))) (fun H1 e1 => sqt_ex e1 hsq) (fun i H1 x H2 hi y => ?_) (fun _ => rfl) (fun i hi => ?_) (fun p H' np e' hp => ?_)
        · obtain ⟨rfl, e⟩ := y
          exact ⟨rfl, by rw [List.getD_eq_getElem?_getD, e]; rfl⟩
        · intro H1 e1 R r
          walk_at "kx"
          obtain ⟨d', hd'⟩ : ∃ d', ds[i]? = some d' := ⟨_, List.getElem?_eq_getElem (by omega)⟩
          obtain ⟨v', hv', hdp⟩ := dpa_get hall hd'
          obtain ⟨t', ht', hw'⟩ := wrs_get h2 i d' hd'
          have e1' : xs.getD i .non = v' := by rw [List.getD_eq_getElem?_getD, hv']; rfl
          have e2' : ts.getD i [] = t' := by rw [List.getD_eq_getElem?_getD, ht']; rfl
          rw [e2'] at r
          refine hG k rfl _ _ _ _ ⟨v', d', t', ?_, dp_ex e1 hdp, hw', htall t' (List.mem_of_getElem? ht'), r⟩
          show [xs.getD i .non] = _
          rw [e1']
        · have hmap : (List.range xs.length).map (fun i => V.str (tx (ts.getD i []))) = ts.map fun t => .str (tx t) := by
            refine List.ext_getElem? fun i => ?_
            rw [List.getElem?_map, List.getElem?_map]
            by_cases hi : i < xs.length
            · rw [List.getElem?_range hi, List.getElem?_eq_getElem (show i < ts.length by omega)]
              simp only [Option.map_some, List.getD_eq_getElem?_getD, List.getElem?_eq_getElem (show i < ts.length by omega), Option.getD_some]
            · rw [List.getElem?_eq_none (by simpa using hi), List.getElem?_eq_none (by omega)]
              rfl
          rw [hmap] at hp
          walk_at "kx"
          have sh1 : SeqAt.shaped .none = true := rfl
          have sh2 : SeqAt.shaped (.list (ts.map fun t => PyData.str (tx t))) = true := strs_shaped ts (wrs_small ds h2)
          refine .inr ⟨.none, ts.map fun t => .str (tx t), .non, .lst (SqL.of hp) (strs_dp ts), sh1, sh2, ?_⟩
          rw [strs_none]
          refine ⟨false, rfl, ifF rfl ?_⟩
          walk_at "kx"
          refine ⟨rfl, ?_⟩
          walk_at "kx"
          refine ⟨tx [44], p, ts.map tx, rfl, rfl, .inl (SqL.of (by rw [hp, List.map_map]; rfl)), ?_, ?_⟩
          · have e1 : (ts.map tx).map (·.length) = ts.map List.length := by
              rw [List.map_map]
              exact List.map_congr_left fun t _ => tx_len t
            rw [e1, List.length_map, tx_len]
            simp only [List.length_cons, List.length_nil]
            omega
          · rw [join_comma]
            refine q_addS (by simp only [List.length_cons, List.length_nil]; omega) ?_
            walk_at "kx"
            refine q_addS (by simp only [List.length_cons, List.length_nil, List.length_append]; omega) ?_
            exact q H' e'
    · walk_at "kx"
      refine ⟨v, d, rfl, hd, fun s e => ?_, fun H1 e1 => ?_⟩
      · subst e
        rw [wr_atom rfl, atom_str] at ht
        have hs0 := sizeLine_eq
        split at ht
        · rename_i h2
          rw [← tx_of s, h2]
          exact Nat.zero_le _
        · split at ht
          · cases ht
            rw [← tx_of s, tx_len]
            omega
          · cases ht
      · rw [wr_atom h1] at ht
        walk_at "kx"
        have disp : ∀ (x : V) (y z : Nat → V) (H2 : Hp) (R : VK), True := fun _ _ _ _ _ => trivial
        cases d with
        | str s =>
          obtain ⟨l, rfl⟩ : ∃ l, s = tx l := ⟨_, (tx_of s).symm⟩
          cases hd
          rw [atom_str, tx_list] at ht
          have ew : wordD (.str (tx l)) = isWord l := by simp only [wordD, tx_list]
          rw [ew]
          by_cases hn : l = []
          · subst hn
            rw [if_pos rfl] at ht
            cases ht
            refine ifF rfl ?_
            walk_at "kx"
            refine q_orB (a := false) (b := true) (fun R1 q => ?_) (fun _ R1 q => ?_) ?_
            · walk_at "kx"
              refine is_bool (.str _) ?_
              walk_at "kx"
              exact q
            · walk_at "kx"
              refine q_andB (a := true) (b := true) (fun R2 q => ?_) (fun _ R2 q => ?_) q
              · walk_at "kx"
                refine is_str (.str _) ?_
                walk_at "kx"
                exact q
              · walk_at "kx"
                exact q
            refine ifY rfl ?_
            walk_at "kx"
            refine fun p np => ⟨upd_same, [(.inr (tx [84, 114, 117, 101]), .str (tx [43])), (.inr (tx [70, 97, 108, 115, 101]), .str (tx [45])), (.inr (tx []), .str (tx [46]))], rfl, by decide, ?_⟩
            walk_at "kx"
            refine .inr (.inr ⟨_, rfl, ?_⟩)
            refine ⟨p, .str (tx [46]), rfl, ?_, q _ (e1.trans (Evl.Ex.mut (Evl.Ex.new np) np))⟩
            exact .inl ⟨_, .inr (tx []), .inl upd_same, rfl, by decide +kernel⟩
          · rw [if_neg hn] at ht
            have hw : isWord l = true := by
              by_cases z : isWord l = true
              · exact z
              · rw [if_neg z] at ht; cases ht
            rw [if_pos hw] at ht
            cases ht
            refine ifY hw ?_
            walk_at "kx"
            exact q _ e1
        | bool b =>
          cases hd
          refine ifF rfl ?_
          walk_at "kx"
          refine q_orB (a := true) (b := true) (fun R1 q => ?_) (fun z R1 q => by cases z) ?_
          · walk_at "kx"
            refine is_bool (.bl _) ?_
            walk_at "kx"
            exact q
          refine ifY rfl ?_
          walk_at "kx"
          refine fun p np => ⟨upd_same, [(.inr (tx [84, 114, 117, 101]), .str (tx [43])), (.inr (tx [70, 97, 108, 115, 101]), .str (tx [45])), (.inr (tx []), .str (tx [46]))], rfl, by decide, ?_⟩
          walk_at "kx"
          refine .inr (.inl ⟨_, rfl, ?_⟩)
          have q2 := q _ (e1.trans (Evl.Ex.mut (Evl.Ex.new np (o := .dK [])) np (o := .dK (mergeK [] [(.inr (tx [84, 114, 117, 101]), V.str (tx [43])), (.inr (tx [70, 97, 108, 115, 101]), .str (tx [45])), (.inr (tx []), .str (tx [46]))]))))
          cases b with
          | true =>
            cases ht
            exact ⟨p, .str (tx [43]), rfl, .inl ⟨_, .inr (tx [84, 114, 117, 101]), .inl upd_same, by decide +kernel, by decide +kernel⟩, q2⟩
          | false =>
            cases ht
            exact ⟨p, .str (tx [45]), rfl, .inl ⟨_, .inr (tx [70, 97, 108, 115, 101]), .inl upd_same, by decide +kernel, by decide +kernel⟩, q2⟩
        | int i =>
          cases hd
          rw [atom_int] at ht
          have hi : i.natAbs < 10 ^ 4000 := by
            by_cases z : i.natAbs < 10 ^ 4000
            · exact z
            · rw [if_neg z] at ht; cases ht
          rw [if_pos hi] at ht
          cases ht
          refine ifF rfl ?_
          walk_at "kx"
          refine q_orB (a := false) (b := false) (fun R1 q => ?_) (fun _ R1 q => ?_) ?_
          · walk_at "kx"
            refine is_bool (.int _) ?_
            walk_at "kx"
            exact q
          · walk_at "kx"
            refine q_andB (a := false) (b := true) (fun R2 q => ?_) (fun z R2 q => by cases z) q
            walk_at "kx"
            refine is_str (.int _) ?_
            walk_at "kx"
            exact q
          refine ifF rfl ?_
          walk_at "kx"
          refine is_int (.int _) ?_
          walk_at "kx"
          refine ifY rfl ?_
          walk_at "kx"
          refine .inl ⟨i, rfl, Nat.lt_of_lt_of_le hi (Nat.pow_le_pow_right (by decide) (by decide)), ?_⟩
          rw [tx_int]
          exact q _ e1
        | none => cases ht
        | tuple _ => cases h1
        | list _ => cases ht
        | dict _ => cases ht
theorem ok_law_written {f f1 : Addr} {fd fd1 : FuncData} (D__law_written : DefAt K mg "_law_written" s__law_written f fd ["data"]) (T : Txt K mg CM) (nd : base.NoDigits) (D__law_word : DefAt K mg "_law_word" s__law_word f1 fd1 ["value"]) :
    ∀ k : Nat, FnOk P w K mg base CX0 (k + 2) f fd ["data"] (spLw K k)
  | 0 => ok_law_written_step 0 1 (Nat.le_refl _) (fun _ _ _ _ => False) (fun k' e => by cases e) D__law_written T nd D__law_word ⟨fun _ _ _ _ h => h.elim, fun _ _ _ _ _ _ _ _ _ _ _ _ _ h => h.elim⟩
  | k + 1 => ok_law_written_step (k + 1) (k + 2) (by omega) (spLw K k) (fun k' e vs H Q E h => by cases e; exact h) D__law_written T nd D__law_word (ok_law_written D__law_written T nd D__law_word k)
end
end K53

namespace K53
open PySem PySem.Spec PyProof.Rows L2 KX M53
local macro_rules | `(tactic| walk_at "kx1") => `(tactic| first
  | (with_reducible refine q_seq ?_) | (with_reducible refine q_ifs ?_) | (with_reducible refine q_asg ?_) | (with_reducible refine q_gname ?_) | (with_reducible refine q_ret ?_)
  | (with_reducible refine q_drop ?_) | (with_reducible refine q_next ?_) | (with_reducible refine q_par ?_) | (with_reducible refine q_sfld ?_) | (with_reducible refine q_rs ?_) | (with_reducible refine q_gsub ?_) | (with_reducible refine q_retN ?_)
  | ((with_reducible show tVar _ _ _ _); (refine q_var rfl ?_)) | (with_reducible refine q_c ?_) | (with_reducible refine q_op ?_) | (with_reducible refine q_un ?_) | (with_reducible refine q_neg ?_) | (with_reducible refine q_cb ?_)
  | (with_reducible refine q_nil ?_) | (with_reducible refine q_cons ?_) | (with_reducible refine q_tup ?_) | (with_reducible refine q_lst ?_) | (with_reducible refine q_if ?_)
  | (with_reducible refine q_notT ?_) | (with_reducible refine q_call ?_) | (with_reducible refine q_callS ?_) | (with_reducible refine q_fld ?_)
  | (with_reducible refine q_bm ?_) | (with_reducible refine q_bm0 ?_) | (with_reducible refine q_sl ?_) | (with_reducible refine q_nopart ?_) | (with_reducible refine q_part ?_) | (with_reducible refine q_meth ?_) | (with_reducible refine q_make ?_)
  | (with_reducible refine q_test ?_) | (with_reducible refine q_tB ?_) | (with_reducible refine q_tru ?_) | (with_reducible refine q_not ?_)
  | (with_reducible refine q_blk ?_) | (with_reducible refine q_tv ?_) | (with_reducible refine q_addI ?_) | (with_reducible refine q_subI ?_) | (with_reducible refine q_eqI ?_) | (with_reducible refine q_neI ?_)
  | (with_reducible refine q_for ?_) | (with_reducible refine q_lc ?_) | (with_reducible refine q_iList ?_) | (with_reducible refine q_iTup ?_) | (with_reducible refine q_iStr ?_) | (with_reducible refine q_iRng1 ?_) | (with_reducible refine q_iRng2 ?_) | (with_reducible refine q_iRng3 ?_) | (with_reducible refine q_gcons ?_) | (with_reducible refine q_gnil ?_) | (with_reducible refine q_yes ?_) | (with_reducible refine q_ltI ?_) | (with_reducible refine q_iEnumS ?_) | (with_reducible refine q_pi ?_) | (with_reducible refine q_leI ?_) | (with_reducible refine q_gtI ?_) | (with_reducible refine q_geI ?_) | (with_reducible refine q_leT ?_) | (with_reducible refine q_intI ?_) | (with_reducible refine q_abs ?_) | (with_reducible refine q_eqT ?_) | (with_reducible refine q_neT ?_) | (with_reducible refine q_par3 ?_) | (with_reducible refine q_isN ?_) | (with_reducible refine q_notN ?_))
local macro_rules | `(tactic| walk_at "kx") => `(tactic| repeat walk_at "kx1")
local macro_rules | `(tactic| walk_at "kxs") => `(tactic| repeat (first | walk_at "kx1" | (with_reducible refine q_andT ?_) | (with_reducible refine q_orT ?_) | (with_reducible refine q_chain ?_) | (with_reducible refine q_and ?_) | (with_reducible refine q_or ?_)))
local macro_rules | `(tactic| walk_at "lits") => `(tactic| simp only [lit_0, lit_1, lit_2, lit_3, lit_4, lit_5, lit_6, lit_7, lit_8, lit_9, lit_10, lit_11, lit_12, lit_13, lit_14, lit_15, lit_16, lit_17, lit_18, lit_19, lit_20, lit_21, lit_22, lit_23, lit_24, lit_25, lit_26])

section
variable {P : Program} {w : World} {K : PySem.W.Frag} {mg : Str → Option Value} {base : Heap} {CM : Addr}
def spNum : Sp := fun vs H Q _ => ∃ l, vs = [.str (tx l)] ∧ l.length ≤ 4000 ∧ ∀ H', Ex H H' → Q (if okNum l = true then .int (numVal l) else .non) H'
theorem ok_law_number {f : Addr} {fd : FuncData} (D : DefAt K mg "_law_number" s__law_number f fd ["text"]) (T : Txt K mg CM) (nd : base.NoDigits) : FnOk P w K mg base CX0 1 f fd ["text"] spNum := by
  refine D.fn.ok sc__law_number (fun vs H Q E h => ?_) (fun cdv A outer s H vs Q E hr h => ?_)
  · obtain ⟨l, rfl, _⟩ := h
    rfl
  · obtain ⟨l, rfl, hl, q⟩ := h
    have hu := u65 hr
    have hsl : l.length ≤ sizeLine := by have := sizeLine_eq; omega
    have hbl := body_le l
    have hbs : (body l).length ≤ sizeLine := by have := sizeLine_eq; omega
    refine ⟨_, (pss_cons (ps_set (i := 1) sc__law_number.nd rfl (Or.inl rfl) (pe_ifExp (pt_cmpR (w_eq (K := K) hu) (pe_slice (w_sl (K := K)) (pv 0) po_none (po_some pe_int)) pe_str (nomark _)) (pe_slice (w_sl (K := K)) (pv 0) (po_some pe_int) po_none) (pv 0)))
      (pss_cons (ps_if (PW.pt (pw_or (pt_cmpR (w_eq (K := K) hu) (pv 1) pe_str (nomark _)) (pw_or (w_tru (K := K) (pe_callB (w_any (K := K) rfl) rfl T.b_any bb_any (pa_cons (pe_lc (own := [("sign", 2)]) rfl sc__law_number.nd (pi_str (pv 1)) (blkOk_by (N := n__law_number) (sc := defScope s__law_number) (by decide +kernel)) (fun _ _ _ _ _ => (pg_name (i := 2) sc__law_number.nd rfl (Or.inl rfl))) (fun _ _ _ _ _ => pts_nil) (fun _ _ _ _ _ => (pe_cmpR (w_notin (K := K) hu) (pv 2) pe_str (by rfl)))) pa_nil))) (pw_or1 (PW.pt (pw_and (pt_cmpR (w_eq (K := K) hu) (pe_ix (w_ix (K := K)) (pv 1) pe_int (fun _ _ => rfl)) pe_str (nomark _)) (pw_and1 (pt_cmpR (w_ne (K := K) hu) (pv 0) pe_str (nomark _))))))))) (pss_one (ps_ret pe_non)) pss_nil)
      (pss_one (ps_ret (pe_callTy (kx_int nd) rfl T.b_int bb_int (pa_cons (pv 0) pa_nil)))))), ?_⟩
    walk_at "lits"
    refine q_seqK (fun σ H1 => σ = [some (.str (tx l)), some (.str (tx (body l))), none] ∧ H1 = H) ?_ ?_
    rotate_left
    · intro N qN
      walk_at "kx"
      refine q_slTo 1 hsl ?_
      walk_at "kx"
      refine ifT (fun h1 => ?_) (fun h1 => ?_)
      · walk_at "kx"
        refine q_slFrom 1 hsl ?_
        refine qN _ _ ⟨?_, rfl⟩
        have e : body l = l.drop 1 := if_pos (of_decide_eq_true h1)
        rw [e]
        rfl
      · walk_at "kx"
        refine qN _ _ ⟨?_, rfl⟩
        have e : body l = l := if_neg (of_decide_eq_false h1)
        rw [e]
        rfl
    · rintro σ H1 ⟨rfl, rfl⟩
      have hbl4 : decide ((body l).length ≤ 4000) = true := decide_eq_true (by omega)
      have no : okNum l = false → ∀ H', Ex H1 H' → Q .non H' := fun e H' e' => by
        have := q H' e'
        rw [if_neg (by rw [e]; exact Bool.false_ne_true)] at this
        exact this
      walk_at "kx"
      refine q_or ?_
      walk_at "kx"
      refine ifT (fun h1 => ?_) (fun h1 => ?_)
      · refine ifY rfl ?_
        walk_at "kx"
        refine no ?_ H1 (Evl.Ex.refl _)
        have e := of_decide_eq_true h1
        unfold okNum
        rw [e]
        rfl
      · have h3 := of_decide_eq_false h1
        obtain ⟨c, r, eb⟩ : ∃ c r, body l = c :: r := by
          cases e : body l with
          | nil => exact absurd e h3
          | cons c r => exact ⟨c, r, rfl⟩
        have hb1 : decide (1 ≤ (body l).length) = true := by rw [eb]; exact decide_eq_true (by simp)
        refine q_or ?_
        walk_at "kx"
        refine ⟨_, rfl, ?_⟩
        refine lc_str (by omega) (fun c => .bl (!dig c)) (fun _ => rfl) (fun c _ H1 e1 Q2 q2 => ?_) (fun p H' hp he e => ?_)
        · walk_at "kx"
          have e10 : tx [48, 49, 50, 51, 52, 53, 54, 55, 56, 57] = ("0123456789" : Str) := by rw [← lit_16]
          rw [e10]
          exact q_ninS (in_digits c) (q2 H1 (Evl.Ex.refl H1))
        walk_at "kx"
        refine q_any (bs := (body l).map fun c => !dig c) (by rw [e, List.map_map]; rfl) ?_
        have e1 : ((body l).map fun c => !dig c).any id = !(body l).all dig := by
          rw [List.any_map, List.all_eq_not_any_not, Bool.not_not]
          rfl
        rw [e1]
        walk_at "kx"
        refine ifT (fun h4 => ?_) (fun h4 => ?_)
        · refine ifY rfl ?_
          walk_at "kx"
          refine no ?_ H' he
          unfold okNum
          rw [(by simpa using h4 : (body l).all dig = false), Bool.and_false, Bool.false_and]
        · have h5 : (body l).all dig = true := by simpa using h4
          walk_at "kx"
          refine q_andB (a := decide ([c] = [48])) (b := !decide (l = [48])) (fun R q => ?_) (fun _ R q => ?_) ?_
          · walk_at "kx"
            refine q_ixS (i := 0) (c := c) hbs (by rw [eb]; rfl) ?_
            walk_at "kx"
            exact q
          · walk_at "kx"
            exact q
          have et : (body l).take 1 = [c] := by rw [eb]; rfl
          have eo : okNum l = !(decide ([c] = [48]) && !decide (l = [48])) := by
            unfold okNum
            rw [hb1, hbl4, h5, et]
            rfl
          refine ifT (fun h6 => ?_) (fun h6 => ?_)
          · walk_at "kx"
            refine no ?_ H' he
            rw [eo, h6]
            rfl
          · have eo2 : okNum l = true := by rw [eo, h6]; rfl
            walk_at "kx"
            have q2 := q H' he
            rw [if_pos eo2] at q2
            exact .inr (.inr ⟨_, _, rfl, int_num' eo2, by rw [tx_len]; omega, q2⟩)
end
end K53

namespace M53
open PySem KX L2 TL NumText
/-! the law's reader as a machine over signs -/
structure LS where
  rows : List (List PyData)
  done : List PyData
  tok : T
  ahead : Bool
def sep4 (c : Nat) : Bool := sep c || decide (c = 59)
def flush (S : LS) : Option LS :=
  if S.tok = [] then some S else
  match rdAtom S.tok with
  | none => none
  | some a => if S.ahead = false then none else some ⟨S.rows, [a], [], false⟩
/-- what waits to be put: the last that was read -/
def held (S : LS) : PyData := S.done.headD .none
def act (c : Nat) (S : LS) : Option LS :=
  if c = 91 then (if S.ahead = false then none else some ⟨S.rows ++ [[]], S.done, S.tok, S.ahead⟩)
  else if c = 44 then
    match S.rows.getLast? with
    | none => none
    | some x => if S.ahead = true then none else some ⟨S.rows.dropLast ++ [x ++ [held S]], S.done, S.tok, true⟩
  else if c = 93 then
    match S.rows.getLast? with
    | none => none
    | some x => if S.ahead = true ∧ x ≠ [] then none else some ⟨S.rows.dropLast, [.tuple (x ++ if S.ahead = true then [] else [held S])], S.tok, false⟩
  else some S
def stepL (c : Nat) (S : LS) : Option LS := if sep4 c = true then (flush S).bind (act c) else some ⟨S.rows, S.done, S.tok ++ [c], S.ahead⟩
def runL : LS → T → Option LS
  | S, [] => some S
  | S, c :: r => (stepL c S).bind fun S' => runL S' r
def lr (l : T) : Option (List PyData) := (runL ⟨[], [], [], true⟩ (l ++ [59])).bind fun S => if S.rows = [] ∧ S.ahead = false ∧ 59 ∉ l then some S.done else none
theorem runL_app : ∀ (a b : T) (S : LS), runL S (a ++ b) = (runL S a).bind fun S' => runL S' b
  | [], b, S => rfl
  | c :: r, b, S => by
    show (stepL c S).bind (fun S' => runL S' (r ++ b)) = ((stepL c S).bind fun S' => runL S' r).bind _
    cases stepL c S with
    | none => rfl
    | some S' => exact runL_app r b S'
/-- what may stand in a state -/
def okDs (ds : List PyData) : Prop := ∀ d ∈ ds, flatD d = true ∧ d.canLay0 = true
def OkS (S : LS) : Prop := (∀ x ∈ S.rows, okDs x) ∧ okDs S.done ∧ (S.ahead = false → ∃ d, S.done = [d])
theorem in_sep4 (c : Nat) : decide (c ∈ (tx [91, 93, 44, 59]).cps.toList) = sep4 c := by
  rw [tx_list]
  unfold sep4 sep
  rw [← Bool.decide_or, ← Bool.decide_or, ← Bool.decide_or, decide_eq_decide]
  simp only [List.mem_cons, List.not_mem_nil, or_false]
  omega
def iniL : LS := ⟨[], [], [], true⟩
theorem lr_none {l : T} {i c : Nat} {S : LS} (h : runL iniL ((l ++ [59]).take i) = some S) (hc : (l ++ [59])[i]? = some c) (hs : stepL c S = none) : lr l = none := by
  have e : l ++ [59] = (l ++ [59]).take i ++ c :: (l ++ [59]).drop (i + 1) := by
    obtain ⟨hi, e2⟩ := List.getElem?_eq_some_iff.mp hc
    have := List.drop_eq_getElem_cons hi
    rw [e2] at this
    rw [← this, List.take_append_drop]
  unfold lr
  rw [e, runL_app]
  have h' : runL ⟨[], [], [], true⟩ ((l ++ [59]).take i) = some S := h
  rw [h']
  show Option.bind (Option.bind (stepL c S) _) _ = none
  rw [hs]
  rfl
theorem runL_snoc {l : T} {i c : Nat} {S S' : LS} (h : runL iniL ((l ++ [59]).take i) = some S) (hc : (l ++ [59])[i]? = some c) (hs : stepL c S = some S') : runL iniL ((l ++ [59]).take (i + 1)) = some S' := by
  rw [List.take_add_one, hc, runL_app, h]
  show Option.bind (stepL c S) _ = _
  rw [hs]
  rfl
/-- how much a state holds -/
def wtL (S : LS) : Nat := (S.rows.map fun x => x.length + 1).sum
/-- the sign-free end of what was read -/
def TokOk (u : T) (S : LS) : Prop := ∃ a, u = a ++ S.tok ∧ ∀ x ∈ S.tok, sep4 x = false
/-- no piece without a separator is longer than n -/
def Runs (n : Nat) (l : T) : Prop := ∀ a b c, l = a ++ b ++ c → (∀ x ∈ b, sep x = false) → b.length ≤ n
theorem tok_le {l : T} {n i : Nat} {S : LS} (hr : Runs n l) (hi : i ≤ l.length) (h : TokOk ((l ++ [59]).take i) S) : S.tok.length ≤ n := by
  obtain ⟨a, e, h2⟩ := h
  rw [List.take_append_of_le_length hi] at e
  refine hr a S.tok (l.drop i) ?_ fun x hx => ?_
  · rw [← e, List.take_append_drop]
  · have := h2 x hx
    unfold sep4 at this
    rw [Bool.or_eq_false_iff] at this
    exact this.1
end M53

namespace K53
open PySem PySem.Spec PyProof.Rows L2 KX M53
local macro_rules | `(tactic| walk_at "kx1") => `(tactic| first
  | (with_reducible refine q_seq ?_) | (with_reducible refine q_ifs ?_) | (with_reducible refine q_asg ?_) | (with_reducible refine q_gname ?_) | (with_reducible refine q_ret ?_)
  | (with_reducible refine q_drop ?_) | (with_reducible refine q_next ?_) | (with_reducible refine q_par ?_) | (with_reducible refine q_sfld ?_) | (with_reducible refine q_rs ?_) | (with_reducible refine q_gsub ?_) | (with_reducible refine q_retN ?_)
  | ((with_reducible show tVar _ _ _ _); (refine q_var rfl ?_)) | (with_reducible refine q_c ?_) | (with_reducible refine q_op ?_) | (with_reducible refine q_un ?_) | (with_reducible refine q_neg ?_) | (with_reducible refine q_cb ?_)
  | (with_reducible refine q_nil ?_) | (with_reducible refine q_cons ?_) | (with_reducible refine q_tup ?_) | (with_reducible refine q_lst ?_) | (with_reducible refine q_if ?_)
  | (with_reducible refine q_notT ?_) | (with_reducible refine q_call ?_) | (with_reducible refine q_callS ?_) | (with_reducible refine q_fld ?_)
  | (with_reducible refine q_bm ?_) | (with_reducible refine q_bm0 ?_) | (with_reducible refine q_sl ?_) | (with_reducible refine q_nopart ?_) | (with_reducible refine q_part ?_) | (with_reducible refine q_meth ?_) | (with_reducible refine q_make ?_)
  | (with_reducible refine q_test ?_) | (with_reducible refine q_tB ?_) | (with_reducible refine q_tru ?_) | (with_reducible refine q_not ?_)
  | (with_reducible refine q_blk ?_) | (with_reducible refine q_tv ?_) | (with_reducible refine q_addI ?_) | (with_reducible refine q_subI ?_) | (with_reducible refine q_eqI ?_) | (with_reducible refine q_neI ?_)
  | (with_reducible refine q_for ?_) | (with_reducible refine q_lc ?_) | (with_reducible refine q_iList ?_) | (with_reducible refine q_iTup ?_) | (with_reducible refine q_iStr ?_) | (with_reducible refine q_iRng1 ?_) | (with_reducible refine q_iRng2 ?_) | (with_reducible refine q_iRng3 ?_) | (with_reducible refine q_gcons ?_) | (with_reducible refine q_gnil ?_) | (with_reducible refine q_yes ?_) | (with_reducible refine q_ltI ?_) | (with_reducible refine q_iEnumS ?_) | (with_reducible refine q_pi ?_) | (with_reducible refine q_leI ?_) | (with_reducible refine q_gtI ?_) | (with_reducible refine q_geI ?_) | (with_reducible refine q_leT ?_) | (with_reducible refine q_intI ?_) | (with_reducible refine q_abs ?_) | (with_reducible refine q_eqT ?_) | (with_reducible refine q_neT ?_) | (with_reducible refine q_par3 ?_) | (with_reducible refine q_isN ?_) | (with_reducible refine q_notN ?_))
local macro_rules | `(tactic| walk_at "kx") => `(tactic| repeat walk_at "kx1")
local macro_rules | `(tactic| walk_at "kxs") => `(tactic| repeat (first | walk_at "kx1" | (with_reducible refine q_andT ?_) | (with_reducible refine q_orT ?_) | (with_reducible refine q_chain ?_) | (with_reducible refine q_and ?_) | (with_reducible refine q_or ?_)))
local macro_rules | `(tactic| walk_at "lits") => `(tactic| simp only [lit_0, lit_1, lit_2, lit_3, lit_4, lit_5, lit_6, lit_7, lit_8, lit_9, lit_10, lit_11, lit_12, lit_13, lit_14, lit_15, lit_16, lit_17, lit_18, lit_19, lit_20, lit_21, lit_22, lit_23, lit_24, lit_25, lit_26])

section
variable {P : Program} {w : World} {K : PySem.W.Frag} {mg : Str → Option Value} {base : Heap} {CM : Addr}
theorem okDs_flat {ds : List PyData} (h : okDs ds) : flatDs ds = true := flatDs_of fun x hx => (h x hx).1
structure LrAt (K : PySem.W.Frag) (H0 H : Hp) (lt ld : Addr) (as : List Addr) (S : LS) : Prop where
  ex : Ex H0 H
  tu : H lt = some (.lst (as.map V.ref))
  dn : ∃ vd, H ld = some (.lst vd) ∧ DpAll K H vd S.done
  st : Stk K H as S.rows
  nt : H0 lt = none
  na : ∀ a ∈ as, H0 a = none
  nd : as.Nodup
  ta : lt ∉ as
  la : ld ∉ as
  tl : lt ≠ ld
  ok : OkS S
section
variable {H0 H H' : Hp} {lt ld : Addr} {as : List Addr} {S : LS}
theorem LrAt.rfl_ (L : LrAt K H0 H lt ld as S) : ∀ x ∈ S.rows, flatDs x = true := fun x hx => okDs_flat (L.ok.1 x hx)
theorem LrAt.grow (L : LrAt K H0 H lt ld as S) (e : Ex H H') : LrAt K H0 H' lt ld as S := by
  obtain ⟨vd, h1, h2⟩ := L.dn
  exact ⟨L.ex.trans e, e _ _ L.tu, ⟨vd, e _ _ h1, dpa_ex e h2⟩, L.st.keep L.rfl_ (Kt.of_ex e) (fun a _ vs h => e _ _ h), L.nt, L.na, L.nd, L.ta, L.la, L.tl, L.ok⟩
theorem LrAt.fresh {p : Addr} (L : LrAt K H0 H lt ld as S) (np : H p = none) : p ≠ lt ∧ p ≠ ld ∧ p ∉ as := by
  obtain ⟨vd, h1, _⟩ := L.dn
  refine ⟨(ne_of_none L.tu np).symm, (ne_of_none h1 np).symm, fun h => ?_⟩
  obtain ⟨vs, e⟩ := L.st.mem h
  rw [np] at e
  cases e
/-- a new list of one is what was read last -/
theorem LrAt.setDone {p : Addr} {v : V} {d : PyData} {t : List Nat} (L : LrAt K H0 H lt ld as S) (np : H p = none) (hd : Dp K H v d) (hf : flatD d = true) (hc : d.canLay0 = true) :
    LrAt K H0 (upd H p (.lst [v])) lt p as ⟨S.rows, [d], t, false⟩ := by
  obtain ⟨f1, f2, f3⟩ := L.fresh np
  have L2 := L.grow (Evl.Ex.new np (o := .lst [v]))
  refine ⟨L2.ex, L2.tu, ⟨[v], upd_same, .cons (dp_ex (Evl.Ex.new np) hd) .nil⟩, L2.st, L2.nt, L2.na, L2.nd, L2.ta, f3, f1.symm, L.ok.1, ?_, fun _ => ⟨d, rfl⟩⟩
  intro x hx
  have : x ∈ [d] := hx
  rw [List.mem_singleton] at this
  subst this
  exact ⟨hf, hc⟩
theorem LrAt.push {p : Addr} (L : LrAt K H0 H lt ld as S) (np : H p = none) :
    LrAt K H0 (upd (upd H p (.lst [])) lt (.lst (as.map V.ref ++ [.ref p]))) lt ld (as ++ [p]) ⟨S.rows ++ [[]], S.done, S.tok, S.ahead⟩ := by
  obtain ⟨f1, f2, f3⟩ := L.fresh np
  have L1 := L.grow (Evl.Ex.new np (o := .lst []))
  have k : Kt (upd H p (.lst [])) (upd (upd H p (.lst [])) lt (.lst (as.map V.ref ++ [.ref p]))) := Kt.upd L1.tu trivial
  obtain ⟨vd, g1, g2⟩ := L1.dn
  refine ⟨Evl.Ex.mut L1.ex L.nt, by rw [upd_same, List.map_append]; rfl, ⟨vd, by rw [upd_ne L.tl.symm]; exact g1, dpa_kt k (okDs_flat L.ok.2.1) g2⟩, ?_, L.nt, ?_, ?_, ?_, ?_, L.tl, ?_, L.ok.2.1, L.ok.2.2⟩
  · refine Stk.app (L1.st.keep L.rfl_ k fun c hc vs h => by rw [upd_ne (by rintro rfl; exact L.ta hc)]; exact h) (vs := []) (by rw [upd_ne f1]; exact upd_same) .nil
  · intro c hc
    rcases List.mem_append.mp hc with h | h
    · exact L.na c h
    · rw [List.mem_singleton.mp h]
      exact Evl.fresh_back L.ex np
  · rw [List.nodup_append]
    exact ⟨L.nd, by simp, fun c hc e he z => f3 (by rw [← List.mem_singleton.mp he, ← z]; exact hc)⟩
  · intro h
    rcases List.mem_append.mp h with h | h
    · exact L.ta h
    · exact f1 (List.mem_singleton.mp h).symm
  · intro h
    rcases List.mem_append.mp h with h | h
    · exact L.la h
    · exact f2 (List.mem_singleton.mp h).symm
  · intro x hx
    rcases List.mem_append.mp hx with h | h
    · exact L.ok.1 x h
    · rw [List.mem_singleton.mp h]
      intro d hd
      cases hd
theorem LrAt.put {as0 : List Addr} {a : Addr} {st0 : List (List PyData)} {x done : List PyData} {vs : List V} {v : V} {d : PyData} {b : Bool} {tok : List Nat}
    (L : LrAt K H0 H lt ld (as0 ++ [a]) ⟨st0 ++ [x], done, tok, b⟩) (h0 : Stk K H as0 st0) (h1 : H a = some (.lst vs)) (h2 : DpAll K H vs x) (hd : Dp K H v d) (hf : flatD d = true) (hc : d.canLay0 = true) :
    LrAt K H0 (upd H a (.lst (vs ++ [v]))) lt ld (as0 ++ [a]) ⟨st0 ++ [x ++ [d]], done, tok, true⟩ := by
  have k : Kt H (upd H a (.lst (vs ++ [v]))) := Kt.upd h1 trivial
  have fa := L.rfl_
  have hta : lt ≠ a := fun z => L.ta (by simp [z])
  have hla : ld ≠ a := fun z => L.la (by simp [z])
  have nd := L.nd
  rw [List.nodup_append] at nd
  obtain ⟨vd, g1, g2⟩ := L.dn
  refine ⟨Evl.Ex.mut L.ex (L.na a (by simp)), by rw [upd_ne hta]; exact L.tu, ⟨vd, by rw [upd_ne hla]; exact g1, dpa_kt k (okDs_flat L.ok.2.1) g2⟩, ?_, L.nt, L.na, L.nd, L.ta, L.la, L.tl, ?_, L.ok.2.1, fun z => by cases z⟩
  · refine Stk.app (h0.keep (fun y hy => fa y (by simp [hy])) k fun b hb vs h => ?_) upd_same (dpa_app (dpa_kt k (fa x (by simp)) h2) (.cons (dp_kt k hf hd) .nil))
    rw [upd_ne (fun z => nd.2.2 b hb a (by simp) z)]
    exact h
  · intro y hy
    rcases List.mem_append.mp hy with h | h
    · exact L.ok.1 y (by simp [h])
    · rw [List.mem_singleton.mp h]
      intro e he
      rcases List.mem_append.mp he with h | h
      · exact L.ok.1 x (by simp) e h
      · rw [List.mem_singleton.mp h]
        exact ⟨hf, hc⟩
theorem LrAt.pop {as0 : List Addr} {a : Addr} {st0 : List (List PyData)} {x done : List PyData} {b : Bool} {tok : List Nat}
    (L : LrAt K H0 H lt ld (as0 ++ [a]) ⟨st0 ++ [x], done, tok, b⟩) (h0 : Stk K H as0 st0) : LrAt K H0 (upd H lt (.lst ((as0 ++ [a]).map V.ref).dropLast)) lt ld as0 ⟨st0, done, tok, b⟩ := by
  have fa := L.rfl_
  have k : Kt H (upd H lt (.lst ((as0 ++ [a]).map V.ref).dropLast)) := Kt.upd L.tu trivial
  obtain ⟨vd, g1, g2⟩ := L.dn
  have nd := L.nd
  rw [List.nodup_append] at nd
  refine ⟨Evl.Ex.mut L.ex L.nt, by rw [upd_same, List.map_append]; simp, ⟨vd, by rw [upd_ne L.tl.symm]; exact g1, dpa_kt k (okDs_flat L.ok.2.1) g2⟩, ?_, L.nt, fun c hc => L.na c (by simp [hc]), nd.1, fun h => L.ta (by simp [h]), fun h => L.la (by simp [h]), L.tl, fun y hy => L.ok.1 y (by simp [hy]), L.ok.2.1, L.ok.2.2⟩
  exact h0.keep (fun y hy => fa y (by simp [hy])) k fun c hc vs h => by rw [upd_ne (by rintro rfl; exact L.ta (by simp [hc]))]; exact h
end
end
end K53

namespace K53
open PySem PySem.Spec PyProof.Rows L2 KX M53
local macro_rules | `(tactic| walk_at "kx1") => `(tactic| first
  | (with_reducible refine q_seq ?_) | (with_reducible refine q_ifs ?_) | (with_reducible refine q_asg ?_) | (with_reducible refine q_gname ?_) | (with_reducible refine q_ret ?_)
  | (with_reducible refine q_drop ?_) | (with_reducible refine q_next ?_) | (with_reducible refine q_par ?_) | (with_reducible refine q_sfld ?_) | (with_reducible refine q_rs ?_) | (with_reducible refine q_gsub ?_) | (with_reducible refine q_retN ?_)
  | ((with_reducible show tVar _ _ _ _); (refine q_var rfl ?_)) | (with_reducible refine q_c ?_) | (with_reducible refine q_op ?_) | (with_reducible refine q_un ?_) | (with_reducible refine q_neg ?_) | (with_reducible refine q_cb ?_)
  | (with_reducible refine q_nil ?_) | (with_reducible refine q_cons ?_) | (with_reducible refine q_tup ?_) | (with_reducible refine q_lst ?_) | (with_reducible refine q_if ?_)
  | (with_reducible refine q_notT ?_) | (with_reducible refine q_call ?_) | (with_reducible refine q_callS ?_) | (with_reducible refine q_fld ?_)
  | (with_reducible refine q_bm ?_) | (with_reducible refine q_bm0 ?_) | (with_reducible refine q_sl ?_) | (with_reducible refine q_nopart ?_) | (with_reducible refine q_part ?_) | (with_reducible refine q_meth ?_) | (with_reducible refine q_make ?_)
  | (with_reducible refine q_test ?_) | (with_reducible refine q_tB ?_) | (with_reducible refine q_tru ?_) | (with_reducible refine q_not ?_)
  | (with_reducible refine q_blk ?_) | (with_reducible refine q_tv ?_) | (with_reducible refine q_addI ?_) | (with_reducible refine q_subI ?_) | (with_reducible refine q_eqI ?_) | (with_reducible refine q_neI ?_)
  | (with_reducible refine q_for ?_) | (with_reducible refine q_lc ?_) | (with_reducible refine q_iList ?_) | (with_reducible refine q_iTup ?_) | (with_reducible refine q_iStr ?_) | (with_reducible refine q_iRng1 ?_) | (with_reducible refine q_iRng2 ?_) | (with_reducible refine q_iRng3 ?_) | (with_reducible refine q_gcons ?_) | (with_reducible refine q_gnil ?_) | (with_reducible refine q_yes ?_) | (with_reducible refine q_ltI ?_) | (with_reducible refine q_iEnumS ?_) | (with_reducible refine q_pi ?_) | (with_reducible refine q_leI ?_) | (with_reducible refine q_gtI ?_) | (with_reducible refine q_geI ?_) | (with_reducible refine q_leT ?_) | (with_reducible refine q_intI ?_) | (with_reducible refine q_abs ?_) | (with_reducible refine q_eqT ?_) | (with_reducible refine q_neT ?_) | (with_reducible refine q_par3 ?_) | (with_reducible refine q_isN ?_) | (with_reducible refine q_notN ?_))
local macro_rules | `(tactic| walk_at "kx") => `(tactic| repeat walk_at "kx1")
local macro_rules | `(tactic| walk_at "kxs") => `(tactic| repeat (first | walk_at "kx1" | (with_reducible refine q_andT ?_) | (with_reducible refine q_orT ?_) | (with_reducible refine q_chain ?_) | (with_reducible refine q_and ?_) | (with_reducible refine q_or ?_)))
local macro_rules | `(tactic| walk_at "lits") => `(tactic| simp only [lit_0, lit_1, lit_2, lit_3, lit_4, lit_5, lit_6, lit_7, lit_8, lit_9, lit_10, lit_11, lit_12, lit_13, lit_14, lit_15, lit_16, lit_17, lit_18, lit_19, lit_20, lit_21, lit_22, lit_23, lit_24, lit_25, lit_26])

section
variable {P : Program} {w : World} {K : PySem.W.Frag} {mg : Str → Option Value} {base : Heap} {CM : Addr}
def spLr (K : PySem.W.Frag) : Sp := fun vs H Q _ => ∃ l, vs = [.str (tx l)] ∧ l.length ≤ 90000 ∧ Runs 4000 l ∧ (lr l = none → ∀ H', Ex H H' → Q .non H') ∧
  ∀ ds, lr l = some ds → ∀ p vs H', Ex H H' → H' p = some (.lst vs) → DpAll K H' vs ds → Q (.ref p) H'
theorem stk_dpa {H : Hp} : ∀ {as : List Addr} {xs : List (List PyData)}, Stk K H as xs → DpAll K H (as.map V.ref) (xs.map PyData.list)
  | [], [], _ => .nil
  | a :: as, x :: xs, ⟨⟨vs, h1, h2⟩, h3⟩ => .cons (.lst (SqL.of h1) h2) (stk_dpa h3)
  | [], _ :: _, h => h.elim
  | _ :: _, [], h => h.elim
theorem okDs_lay : ∀ {ds : List PyData}, okDs ds → PyData.canLayAll0 ds = true
  | [], _ => by simp only [PyData.canLayAll0]
  | d :: ds, h => by
    simp only [PyData.canLayAll0, Bool.and_eq_true]
    exact ⟨(h d (by simp)).2, okDs_lay fun x hx => h x (by simp [hx])⟩
theorem rows_lay : ∀ {xs : List (List PyData)}, (∀ x ∈ xs, okDs x) → PyData.canLayAll0 (xs.map PyData.list) = true
  | [], _ => by simp only [List.map_nil, PyData.canLayAll0]
  | x :: xs, h => by
    simp only [List.map_cons, PyData.canLayAll0, PyData.canLay0, Bool.and_eq_true]
    exact ⟨okDs_lay (h x (by simp)), rows_lay fun y hy => h y (by simp [hy])⟩
theorem eqv_nil (ds : List PyData) : PyData.eqv (.list ds) (.list []) = decide (ds = []) := by
  cases ds with
  | nil => simp [PyData.eqv, PyData.eqvAll]
  | cons d ds => simp [PyData.eqv, PyData.eqvAll]
theorem q_eqNil {H : Hp} {Q : VK} {a b : Addr} {vs : List V} {ds : List PyData} (h1 : H a = some (.lst vs)) (h2 : DpAll K H vs ds) (hc : PyData.canLayAll0 ds = true) (h3 : H b = some (.lst [])) (q : Q (.bl (decide (ds = []))) H) : rEqU K (.ref a) (.ref b) H Q := by
  refine .inr ⟨.list ds, .list [], .lst (SqL.of h1) h2, .lst (SqL.of h3) .nil, by simpa only [PyData.canLay0] using hc, by simp only [PyData.canLay0, PyData.canLayAll0], ?_, ?_⟩
  · have : (PyData.list []).depth = 1 := by simp only [PyData.depth, PyData.depthAll]
    rw [this]
    omega
  · rw [eqv_nil]
    exact q
theorem q_neNil {H : Hp} {Q : VK} {a b : Addr} {vs : List V} {ds : List PyData} (h1 : H a = some (.lst vs)) (h2 : DpAll K H vs ds) (hc : PyData.canLayAll0 ds = true) (h3 : H b = some (.lst [])) (q : Q (.bl (!decide (ds = []))) H) : rNeU K (.ref a) (.ref b) H Q := by
  refine .inr ⟨.list ds, .list [], .lst (SqL.of h1) h2, .lst (SqL.of h3) .nil, by simpa only [PyData.canLay0] using hc, by simp only [PyData.canLay0, PyData.canLayAll0], ?_, ?_⟩
  · have : (PyData.list []).depth = 1 := by simp only [PyData.depth, PyData.depthAll]
    rw [this]
    omega
  · rw [eqv_nil]
    exact q
theorem rdAtom_lay {t : List Nat} {d : PyData} (h : rdAtom t = some d) : d.canLay0 = true ∧ valD d ≠ .non ∧ ∀ {H : Hp}, Dp K H (valD d) d := by
  unfold rdAtom at h
  split at h
  · cases h; exact ⟨by simp only [PyData.canLay0], (fun z => by cases z), .bl _⟩
  · split at h
    · cases h; exact ⟨by simp only [PyData.canLay0], (fun z => by cases z), .bl _⟩
    · split at h
      · cases h; exact ⟨by simp only [PyData.canLay0]; exact txt_ok (fun c hc => by cases hc), (fun z => by cases z), .str _⟩
      · split at h
        · rename_i hw
          cases h
          exact ⟨by simp only [PyData.canLay0]; exact txt_ok (fun c hc => wordc_small (isWord_signs hw c hc)), (fun z => by cases z), .str _⟩
        · split at h
          · cases h; exact ⟨by simp only [PyData.canLay0], (fun z => by cases z), .int _⟩
          · cases h
def atomV (t : List Nat) : V := match rdAtom t with | some d => valD d | none => .non
theorem get_atom (t : List Nat) : (valV (mergeK [] [(.inr (tx [43]), V.bl true), (.inr (tx [45]), .bl false), (.inr (tx [46]), .str (tx []))]) (.inr (tx t) : Key)).getD (if isWord t = true then .str (tx t) else if okNum t = true then .int (numVal t) else .non) = atomV t := by
  have e : mergeK [] [(.inr (tx [43]), V.bl true), (.inr (tx [45]), .bl false), (.inr (tx [46]), .str (tx []))] = [(.inr (tx [43]), V.bl true), (.inr (tx [45]), .bl false), (.inr (tx [46]), .str (tx []))] := by rfl
  rw [e]
  have ne : ∀ {a b : List Nat}, ¬ a = b → ¬ ((.inr (tx b) : Key) = .inr (tx a)) := fun h z => h (tx_inj (Sum.inr.inj z)).symm
  unfold atomV rdAtom
  by_cases h1 : t = [43]
  · subst h1
    rw [valV_pos rfl, if_pos rfl]
    rfl
  · rw [valV_neg (ne h1), if_neg h1]
    by_cases h2 : t = [45]
    · subst h2
      rw [valV_pos rfl, if_pos rfl]
      rfl
    · rw [valV_neg (ne h2), if_neg h2]
      by_cases h3 : t = [46]
      · subst h3
        rw [valV_pos rfl, if_pos rfl]
        rfl
      · rw [valV_neg (ne h3), if_neg h3, valV_nil]
        by_cases h4 : isWord t = true
        · rw [if_pos h4, if_pos h4]
          rfl
        · rw [if_neg h4, if_neg h4]
          by_cases h5 : okNum t = true
          · rw [if_pos h5, if_pos h5]
            rfl
          · rw [if_neg h5, if_neg h5]
            rfl
/-- what stands at a turn -/
def Lst (K : PySem.W.Frag) (H0 : Hp) (l : List Nat) (i : Nat) (S : LS) (lt ld : Addr) (as : List Addr) (σ : L2.St) (H : Hp) : Prop :=
  ∃ o5 o6 o7 : Option V, σ = [some (.str (tx l)), some (.ref lt), some (.ref ld), some (.str (tx S.tok)), some (.bl S.ahead), o5, o6, o7] ∧ LrAt K H0 H lt ld as S
theorem ok_law_read {f f1 f2 : Addr} {fd fd1 fd2 : FuncData} (D : DefAt K mg "_law_read" s__law_read f fd ["text"]) (T : Txt K mg CM) (nd : base.NoDigits)
    (D__law_word : DefAt K mg "_law_word" s__law_word f1 fd1 ["value"]) (D__law_number : DefAt K mg "_law_number" s__law_number f2 fd2 ["text"]) : FnOk P w K mg base CX0 2 f fd ["text"] (spLr K) := by
  have G__law_word : FnOk P w K mg base CX0 1 f1 fd1 ["value"] (spIsWord K) := ok_law_word D__law_word T
  have G__law_number : FnOk P w K mg base CX0 1 f2 fd2 ["text"] spNum := ok_law_number D__law_number T nd
  refine D.fn.ok sc__law_read (fun vs H Q E h => ?_) (fun cdv A outer s H vs Q E hr h => ?_)
  · obtain ⟨l, rfl, _⟩ := h
    rfl
  · obtain ⟨l, rfl, hl, hru, qn, qs⟩ := h
    have hu := u65 hr
    have hu1 : (A.deeper (envOfC "_law_read" (defScope s__law_read) s.heap.objs.size f cdv)).units + 1 < cLine := by omega
    have hs0 := sizeLine_eq
    refine ⟨_, (pss_cons (ps_asg (pe_tup (pa_cons (pe_lst pa_nil) (pa_cons (pe_lst pa_nil) (pa_cons pe_str (pa_cons pe_bl pa_nil))))) (w_gtup (K := K) (n := 4) rfl (pgs_cons (pg_name (i := 1) sc__law_read.nd rfl (Or.inl rfl)) (pgs_cons (pg_name (i := 2) sc__law_read.nd rfl (Or.inl rfl)) (pgs_cons (pg_name (i := 3) sc__law_read.nd rfl (Or.inl rfl)) (pgs_cons (pg_name (i := 4) sc__law_read.nd rfl (Or.inl rfl)) pgs_nil))))))
      (pss_cons (ps_for PassesOwn.never rfl (pi_str (pe_op (w_add (K := K)) (pv 0) pe_str)) (pg_name (i := 5) sc__law_read.nd rfl (Or.inl rfl)) (pss_one (ps_if (pt_cmpR (w_in (K := K) hu) (pv 5) pe_str (by rfl)) (pss_cons (ps_if (pt_cmpR (w_ne (K := K) hu) (pv 3) pe_str (nomark _)) (pss_cons (ps_set (i := 6) sc__law_read.nd rfl (Or.inl rfl) (pe_dget2 hu1 (pe_disp (pps_cons pe_str pe_bl (pps_cons pe_str pe_bl (pps_cons pe_str pe_str pps_nil))) rfl rfl (fun z => nomatch z) (by decide)) (pv 3) (pe_ifExp (w_tru (K := K) (pe_call G__law_word (hr.mono (by decide)) rfl D__law_word.g D__law_word.kp D__law_word.b .nil pass0 (pa_cons (pv 3) pa_nil))) (pv 3) (pe_call G__law_number (hr.mono (by decide)) rfl D__law_number.g D__law_number.kp D__law_number.b .nil pass0 (pa_cons (pv 3) pa_nil))) ⟨rfl, rfl, rfl, rfl⟩))
      (pss_cons (ps_if (PW.pt (pw_or (pt_cmp (pc_isN (pv 6))) (pw_or1 (pt_not (w_tru (K := K) (pv 4)))))) (pss_one (ps_ret pe_non)) pss_nil)
      (pss_one (ps_par3 (i := 2) (j := 4) (l := 3) rfl sc__law_read.nd rfl rfl rfl (by decide) (by decide) (by decide) rfl rfl rfl (pa_cons (pe_lst (pa_cons (pv 6) pa_nil)) (pa_cons pe_bl (pa_cons pe_str pa_nil))) (by rfl))))) pss_nil)
      (pss_one (ps_if (pt_cmpR (w_eq (K := K) hu) (pv 5) pe_str (nomark _)) (pss_cons (ps_if (pt_not (w_tru (K := K) (pv 4))) (pss_one (ps_ret pe_non)) pss_nil)
      (pss_one (ps_expr (wk_bm (K := K) (pe_bm PySem.F.plainAttrs_list PySem.F.slot_list_append PySem.F.type_list_append mt_append (pv 1) (pa_cons (pe_lst pa_nil) pa_nil)))))) (pss_one (ps_if (pt_cmpR (w_eq (K := K) hu) (pv 5) pe_str (nomark _)) (pss_cons (ps_if (PW.pt (pw_or (w_tru (K := K) (pv 4)) (pw_or1 (pt_cmpR (w_eq (K := K) hu) (pv 1) (pe_lst pa_nil) (nomark _))))) (pss_one (ps_ret pe_non)) pss_nil)
      (pss_cons (ps_expr (wk_bm (K := K) (pe_bm PySem.F.plainAttrs_list PySem.F.slot_list_append PySem.F.type_list_append mt_append (pe_ix (w_ix (K := K)) (pv 1) (pe_un un_neg pe_int) (fun _ _ => rfl)) (pa_cons (pe_ix (w_ix (K := K)) (pv 2) pe_int (fun _ _ => rfl)) pa_nil))))
      (pss_one (ps_set (i := 4) sc__law_read.nd rfl (Or.inl rfl) pe_bl)))) (pss_one (ps_if (pt_cmpR (w_eq (K := K) hu) (pv 5) pe_str (nomark _)) (pss_cons (ps_if (PW.pt (pw_or (pt_cmpR (w_eq (K := K) hu) (pv 1) (pe_lst pa_nil) (nomark _)) (pw_or1 (PW.pt (pw_and (w_tru (K := K) (pv 4)) (pw_and1 (pt_cmpR (w_ne (K := K) hu) (pe_ix (w_ix (K := K)) (pv 1) (pe_un un_neg pe_int) (fun _ _ => rfl)) (pe_lst pa_nil) (nomark _)))))))) (pss_one (ps_ret pe_non)) pss_nil)
      (pss_cons (ps_set (i := 7) sc__law_read.nd rfl (Or.inl rfl) (w_bm0 (K := K) PySem.F.plainAttrs_list PySem.F.slot_list_pop PySem.F.type_list_pop mt_pop (pv 1)))
      (pss_one (ps_par (i := 2) (j := 4) rfl sc__law_read.nd rfl rfl (by decide) rfl rfl (pa_cons (pe_lst (pa_cons (pe_callTy (w_tuple (K := K)) rfl T.b_tuple bb_tuple (pa_cons (pe_op (w_add (K := K)) (pv 7) (pe_ifExp (w_tru (K := K) (pv 4)) (pe_lst pa_nil) (pe_lst (pa_cons (pe_ix (w_ix (K := K)) (pv 2) pe_int (fun _ _ => rfl)) pa_nil)))) pa_nil)) pa_nil)) (pa_cons pe_bl pa_nil)) (by rfl))))) pss_nil))))))) (pss_one (ps_set (i := 3) sc__law_read.nd rfl (Or.inl rfl) (pe_op (w_add (K := K)) (pv 3) (pv 5)))))))
      (pss_one (ps_ret (pe_ifExp (PW.pt (pw_and (pt_cmpR (w_eq (K := K) hu) (pv 1) (pe_lst pa_nil) (nomark _)) (pw_and (pt_not (w_tru (K := K) (pv 4))) (pw_and1 (pt_cmpR (w_notin (K := K) hu) pe_str (pv 0) (by rfl)))))) (pv 2) pe_non))))), ?_⟩
    walk_at "lits"
    walk_at "kx"
    refine ⟨sml rfl, fun lt nlt => ?_⟩
    walk_at "kx"
    refine ⟨sml rfl, fun ld nld => ?_⟩
    walk_at "kx"
    refine ⟨sml rfl, fun tp ntp => ?_⟩
    refine q_gtup ⟨tp, _, rfl, SqT.of upd_same, rfl, ?_⟩
    have tl : lt ≠ ld := ne_of_none upd_same nld
    have L0 : LrAt K H (upd (upd H lt (.lst [])) ld (.lst [])) lt ld [] iniL :=
      ⟨(Evl.Ex.new nlt).trans (Evl.Ex.new nld), by rw [upd_ne tl]; exact upd_same, ⟨[], upd_same, .nil⟩, trivial, nlt, by simp, List.nodup_nil, by simp, by simp, tl, ⟨(fun x hx => by cases hx), (fun d hd => by cases hd), (fun z => by cases z)⟩⟩
    have L1 := L0.grow (Evl.Ex.new ntp (o := .tup [.ref lt, .ref ld, .str (tx []), .bl true]))
    generalize upd (upd (upd H lt (.lst [])) ld (.lst [])) tp (.tup [.ref lt, .ref ld, .str (tx []), .bl true]) = H1 at L1
    walk_at "kx"
    refine q_addS (by simp only [List.length_cons, List.length_nil]; omega) ?_
    refine ⟨_, rfl, ?_⟩
    refine fo_str (fun i σ H' => ∃ S lt ld as, Lst K H l i S lt ld as σ H' ∧ runL iniL ((l ++ [59]).take i) = some S ∧ wtL S ≤ i ∧ TokOk ((l ++ [59]).take i) S)
      ⟨iniL, lt, ld, [], ⟨none, none, none, rfl, L1⟩, rfl, Nat.le_refl _, [], rfl, by intro x hx; cases hx⟩ ?_ ?_
    · rintro i c σ H2 hc ⟨S, lt, ld, as, ⟨o5, o6, o7, rfl, L⟩, hrun, hwt, htok⟩
      have hil : i ≤ l.length := by
        have := (List.getElem?_eq_some_iff.mp hc).1
        simp only [List.length_append, List.length_cons, List.length_nil] at this
        omega
      have htl := tok_le hru hil htok
      have none_ : stepL c S = none → ∀ H', Ex H H' → Q .non H' := fun e => qn (lr_none hrun hc e)
      have hal := L.st.len
      have hrl : S.rows.length ≤ i := by
        refine Nat.le_trans ?_ hwt
        unfold wtL
        generalize S.rows = rs
        induction rs with
        | nil => exact Nat.le_refl _
        | cons x r ih => simp only [List.length_cons, List.map_cons, List.sum_cons]; omega
      have etk : (l ++ [59]).take (i + 1) = (l ++ [59]).take i ++ [c] := by rw [List.take_add_one, hc]; rfl
      walk_at "kx"
      refine q_inS (in_sep4 c) ?_
      walk_at "kx"
      refine ifT (fun h4 => ?_) (fun h4 => ?_)
      · have est : stepL c S = (flush S).bind (act c) := if_pos h4
        refine q_seqK (fun σ H3 => ∃ S' ld' o6 o7, flush S = some S' ∧ S'.rows = S.rows ∧ S'.tok = [] ∧ σ = [some (.str (tx l)), some (.ref lt), some (.ref ld'), some (.str (tx [])), some (.bl S'.ahead), some (.str (tx [c])), o6, o7] ∧ LrAt K H H3 lt ld' as S') ?_ ?_
        · rintro σ H3 ⟨S1, ld1, p6, p7, ef, er, et, rfl, L1⟩
          rw [ef] at est
          have est : stepL c S = act c S1 := est
          obtain ⟨rows, done, tok, ahead⟩ := S1
          have er2 : rows = S.rows := er
          have et : tok = [] := et
          subst et
          have hrl : rows.length ≤ i := by rw [er2]; exact hrl
          have hwt : wtL ⟨rows, done, [], ahead⟩ ≤ i := by unfold wtL at hwt ⊢; show (rows.map _).sum ≤ i; rw [er2]; exact hwt
          have hal : as.length = rows.length := by rw [er2]; exact hal
          have tk : ∀ R D A, TokOk ((l ++ [59]).take (i + 1)) ⟨R, D, [], A⟩ := fun _ _ _ => ⟨_, (List.append_nil _).symm, fun x hx => by cases hx⟩
          walk_at "kx"
          refine ifT (fun h5 => ?_) (fun h5 => ?_)
          · have hc' : c = 91 := by simpa using of_decide_eq_true h5
            subst hc'
            have ea : act 91 ⟨rows, done, [], ahead⟩ = if ahead = false then none else some ⟨rows ++ [[]], done, [], ahead⟩ := rfl
            rw [ea] at est
            walk_at "kx"
            refine ifT (fun h6 => ?_) (fun h6 => ?_)
            · walk_at "kx"
              refine none_ ?_ H3 L1.ex
              rw [est, if_pos (by simpa using h6)]
            · have h7 : ahead = true := by simpa using h6
              subst h7
              rw [if_neg (fun z => by cases z)] at est
              walk_at "kx"
              refine ⟨ty_lst L1.tu, ?_⟩
              walk_at "kx"
              refine ⟨sml rfl, fun p np => ?_⟩
              walk_at "kx"
              have f := L1.fresh np
              refine q_app (by rw [upd_ne f.1.symm]; exact L1.tu) (by rw [List.length_map]; omega) ?_
              have L2 := L1.push np
              refine ⟨_, lt, ld1, _, ⟨_, _, _, rfl, L2⟩, runL_snoc hrun hc est, ?_, tk _ _ _⟩
              unfold wtL at hwt ⊢
              simp only [List.map_append, List.map_cons, List.map_nil, List.sum_append, List.sum_cons, List.sum_nil, List.length_nil] at hwt ⊢
              omega
          · have hc1 : ¬ c = 91 := fun z => of_decide_eq_false h5 (by rw [z])
            have ea : act c ⟨rows, done, [], ahead⟩ = if c = 44 then (match rows.getLast? with | none => none | some x => if ahead = true then none else some ⟨rows.dropLast ++ [x ++ [done.headD .none]], done, [], true⟩)
                else if c = 93 then (match rows.getLast? with | none => none | some x => if ahead = true ∧ x ≠ [] then none else some ⟨rows.dropLast, [.tuple (x ++ if ahead = true then [] else [done.headD .none])], [], false⟩) else some ⟨rows, done, [], ahead⟩ := if_neg hc1
            rw [ea] at est
            clear ea
            walk_at "kx"
            refine ifT (fun h6 => ?_) (fun h6 => ?_)
            · have hc' : c = 44 := by simpa using of_decide_eq_true h6
              rw [if_pos hc'] at est
              walk_at "kx"
              refine q_or ?_
              walk_at "kx"
              refine ifT (fun h7 => ?_) (fun h7 => ?_)
              · refine ifY rfl ?_
                walk_at "kx"
                refine none_ ?_ H3 L1.ex
                rw [est]
                cases rows.getLast? with
                | none => rfl
                | some x => exact if_pos h7
              · subst h7
                walk_at "kx"
                refine ⟨sml rfl, fun p np => ?_⟩
                have f := L1.fresh np
                have L2 := L1.grow (Evl.Ex.new np (o := .lst []))
                have hp : upd H3 p (.lst []) p = _ := upd_same
                generalize upd H3 p (.lst []) = H4 at L2 hp
                refine q_eqNil L2.tu (stk_dpa L2.st) (rows_lay L2.ok.1) hp ?_
                walk_at "kx"
                rcases List.eq_nil_or_concat rows with e | ⟨st0, x, e⟩
                · subst e
                  refine ifY rfl ?_
                  walk_at "kx"
                  exact none_ est H4 L2.ex
                · rw [List.concat_eq_append] at e
                  subst e
                  refine ifF (decide_eq_false (by simp)) ?_
                  have est : stepL c S = some ⟨st0 ++ [x ++ [done.headD .none]], done, [], true⟩ := by
                    rw [est]
                    simp
                  obtain ⟨as0, a, vs, rfl, h0, h1, h2⟩ := L2.st.last
                  obtain ⟨d, ed⟩ := L2.ok.2.2 rfl
                  have ed : done = [d] := ed
                  subst ed
                  obtain ⟨vd, g1, g2⟩ := L2.dn
                  obtain ⟨v, rfl, hv⟩ : ∃ v, vd = [v] ∧ Dp K H4 v d := by
                    cases g2 with
                    | cons a b => cases b; exact ⟨_, rfl, a⟩
                  have okd := L2.ok.2.1 d (by simp)
                  have hvl : vs.length = x.length := dpa_len h2
                  have hxl : x.length ≤ i := by
                    refine Nat.le_trans ?_ hwt
                    unfold wtL
                    simp only [List.map_append, List.map_cons, List.map_nil, List.sum_append, List.sum_cons, List.sum_nil]
                    omega
                  walk_at "kx"
                  refine q_ixLast (xs := as0.map V.ref) (v := .ref a) (by have e := SqL.of (K := K) L2.tu; rw [List.map_append] at e; exact e) ?_
                  refine ⟨ty_lst h1, ?_⟩
                  walk_at "kx"
                  refine q_ixL (SqL.of g1) (i := 0) rfl ?_
                  walk_at "kx"
                  refine q_app h1 (by omega) ?_
                  have L3 := L2.put h0 h1 h2 hv okd.1 okd.2
                  walk_at "kx"
                  refine ⟨_, lt, ld1, _, ⟨_, _, _, rfl, L3⟩, runL_snoc hrun hc est, ?_, tk _ _ _⟩
                  unfold wtL at hwt ⊢
                  simp only [List.map_append, List.map_cons, List.map_nil, List.sum_append, List.sum_cons, List.sum_nil, List.length_append, List.length_cons, List.length_nil] at hwt ⊢
                  omega
            · have hc2 : ¬ c = 44 := fun z => of_decide_eq_false h6 (by rw [z])
              rw [if_neg hc2] at est
              walk_at "kx"
              refine ifT (fun h7 => ?_) (fun h7 => ?_)
              · have hc' : c = 93 := by simpa using of_decide_eq_true h7
                rw [if_pos hc'] at est
                refine q_seqK (fun σ H4 => σ = [some (.str (tx l)), some (.ref lt), some (.ref ld1), some (.str (tx [])), some (.bl ahead), some (.str (tx [c])), p6, p7] ∧ LrAt K H H4 lt ld1 as ⟨rows, done, [], ahead⟩ ∧ rows ≠ [] ∧ ∀ x, rows.getLast? = some x → ¬ (ahead = true ∧ x ≠ [])) ?_ ?_
                · rintro σ H4 ⟨rfl, L2, hne, hnx⟩
                  rcases List.eq_nil_or_concat rows with e | ⟨st0, x, e⟩
                  · exact absurd e hne
                  · rw [List.concat_eq_append] at e
                    subst e
                    have hnx := hnx x (by simp)
                    have est : stepL c S = some ⟨st0, [.tuple (x ++ if ahead = true then [] else [done.headD .none])], [], false⟩ := by
                      rw [est]
                      simp only [List.getLast?_append, List.getLast?_singleton, Option.some_or, List.dropLast_concat]
                      exact if_neg hnx
                    obtain ⟨as0, a, vs, rfl, h0, h1, h2⟩ := L2.st.last
                    have hvl : vs.length = x.length := dpa_len h2
                    have hxl : x.length + 1 + wtL ⟨st0, done, [], ahead⟩ ≤ i := by
                      refine Nat.le_trans ?_ hwt
                      unfold wtL
                      simp only [List.map_append, List.map_cons, List.map_nil, List.sum_append, List.sum_cons, List.sum_nil]
                      omega
                    have hta : a ≠ lt := fun z => L2.ta (by simp [z])
                    walk_at "kx"
                    refine ⟨ty_lst L2.tu, ?_⟩
                    refine q_pop L2.tu (y := .ref a) (by simp) ?_
                    have L3 := L2.pop h0
                    have h1' : upd H4 lt (.lst ((as0 ++ [a]).map V.ref).dropLast) a = some (.lst vs) := by rw [upd_ne hta]; exact h1
                    have h2' := dpa_kt (Kt.upd L2.tu trivial (o' := .lst ((as0 ++ [a]).map V.ref).dropLast)) (L2.rfl_ x (by simp)) h2
                    have okx := L2.ok.1 x (by simp)
                    generalize upd H4 lt (.lst ((as0 ++ [a]).map V.ref).dropLast) = H5 at L3 h1' h2'
                    walk_at "kx"
                    cases ahead with
                    | true =>
                      have hx : x = [] := by
                        by_cases z : x = []
                        · exact z
                        · exact absurd ⟨rfl, z⟩ hnx
                      subst hx
                      have hv0 : vs = [] := List.length_eq_zero_iff.mp hvl
                      subst hv0
                      refine ifY rfl ?_
                      walk_at "kx"
                      refine ⟨sml rfl, fun p np => ?_⟩
                      have nap : a ≠ p := ne_of_none h1' np
                      refine q_cat (by rw [upd_ne nap]; exact h1') upd_same (by simp) (fun p2 np2 => ?_)
                      walk_at "kx"
                      refine ⟨p2, _, rfl, .inl ⟨SqL.of upd_same, fun t nt => ?_⟩⟩
                      walk_at "kx"
                      have L4 := ((L3.grow (Evl.Ex.new np (o := .lst []))).grow (Evl.Ex.new np2 (o := .lst ([] ++ [])))).grow (Evl.Ex.new nt (o := .tup ([] ++ [])))
                      refine ⟨sml rfl, fun l4 nl4 => ?_⟩
                      walk_at "kx"
                      refine ⟨_, _, rfl, ?_⟩
                      have L5 := L4.setDone (t := []) nl4 (v := .ref t) (d := .tuple []) (.tup (SqT.of upd_same) .nil) rfl (by simp only [PyData.canLay0, PyData.canLayAll0])
                      refine ⟨_, lt, l4, _, ⟨_, _, _, rfl, L5⟩, runL_snoc hrun hc est, ?_, tk _ _ _⟩
                      exact Nat.le_trans (Nat.le_add_left _ _) (Nat.le_succ_of_le hxl)
                    | false =>
                      obtain ⟨d, ed⟩ := L3.ok.2.2 rfl
                      have ed : done = [d] := ed
                      subst ed
                      obtain ⟨vd, g1, g2⟩ := L3.dn
                      obtain ⟨v, rfl, hv⟩ : ∃ v, vd = [v] ∧ Dp K H5 v d := by
                        cases g2 with
                        | cons a b => cases b; exact ⟨_, rfl, a⟩
                      have okd := L3.ok.2.1 d (by simp)
                      have okx2 : okDs (x ++ [d]) := fun y hy => (List.mem_append.mp hy).elim (okx y) fun h => by rw [List.mem_singleton.mp h]; exact okd
                      refine ifF rfl ?_
                      walk_at "kx"
                      refine q_ixL (SqL.of g1) (i := 0) rfl ?_
                      walk_at "kx"
                      refine ⟨sml rfl, fun p np => ?_⟩
                      have nap : a ≠ p := ne_of_none h1' np
                      refine q_cat (by rw [upd_ne nap]; exact h1') upd_same (by simp only [List.length_cons, List.length_nil]; omega) (fun p2 np2 => ?_)
                      walk_at "kx"
                      refine ⟨p2, _, rfl, .inl ⟨SqL.of upd_same, fun t nt => ?_⟩⟩
                      walk_at "kx"
                      have e1 := Evl.Ex.new np (o := .lst [v])
                      have e2 := Evl.Ex.new np2 (o := .lst (vs ++ [v]))
                      have e3 := Evl.Ex.new nt (o := .tup (vs ++ [v]))
                      have L4 := ((L3.grow e1).grow e2).grow e3
                      have hall := dpa_ex (e1.trans (e2.trans e3)) (dpa_app h2' (.cons hv .nil))
                      refine ⟨sml rfl, fun l4 nl4 => ?_⟩
                      walk_at "kx"
                      refine ⟨_, _, rfl, ?_⟩
                      have L5 := L4.setDone (t := []) nl4 (v := .ref t) (d := .tuple (x ++ [d])) (.tup (SqT.of upd_same) hall) (by simp only [flatD]; exact okDs_flat okx2) (by simp only [PyData.canLay0]; exact okDs_lay okx2)
                      refine ⟨_, lt, l4, _, ⟨_, _, _, rfl, L5⟩, runL_snoc hrun hc est, ?_, tk _ _ _⟩
                      exact Nat.le_trans (Nat.le_add_left _ _) (Nat.le_succ_of_le hxl)
                · intro N qN
                  walk_at "kx"
                  refine q_or ?_
                  walk_at "kx"
                  refine ⟨sml rfl, fun p np => ?_⟩
                  have L2 := L1.grow (Evl.Ex.new np (o := .lst []))
                  have hp : upd H3 p (.lst []) p = _ := upd_same
                  generalize upd H3 p (.lst []) = H4 at L2 hp
                  refine q_eqNil L2.tu (stk_dpa L2.st) (rows_lay L2.ok.1) hp ?_
                  walk_at "kx"
                  rcases List.eq_nil_or_concat rows with e | ⟨st0, x, e⟩
                  · subst e
                    refine ifY rfl (ifY rfl ?_)
                    walk_at "kx"
                    exact none_ est H4 L2.ex
                  · rw [List.concat_eq_append] at e
                    subst e
                    refine ifF (decide_eq_false (by simp)) ?_
                    refine q_and ?_
                    walk_at "kx"
                    refine ifT (fun h8 => ?_) (fun h8 => ?_)
                    · subst h8
                      obtain ⟨as0, a, vs, rfl, h0, h1, h2⟩ := L2.st.last
                      walk_at "kx"
                      refine q_ixLast (xs := as0.map V.ref) (v := .ref a) (by have e := SqL.of (K := K) L2.tu; rw [List.map_append] at e; exact e) ?_
                      walk_at "kx"
                      refine ⟨sml rfl, fun p2 np2 => ?_⟩
                      have nap : a ≠ p2 := ne_of_none h1 np2
                      have L3 := L2.grow (Evl.Ex.new np2 (o := .lst []))
                      refine q_neNil (by rw [upd_ne nap]; exact h1) (dpa_ex (Evl.Ex.new np2) h2) (okDs_lay (L2.ok.1 x (by simp))) upd_same ?_
                      walk_at "kx"
                      refine ifT (fun h9 => ?_) (fun h9 => ?_)
                      · walk_at "kx"
                        refine none_ ?_ _ L3.ex
                        rw [est]
                        simp only [List.getLast?_append, List.getLast?_singleton, Option.some_or]
                        exact if_pos ⟨by first | exact rfl | exact trivial, by simpa using h9⟩
                      · walk_at "kx"
                        refine qN _ _ ⟨rfl, L3, by simp, fun y hy => ?_⟩
                        simp only [List.getLast?_append, List.getLast?_singleton, Option.some_or, Option.some.injEq] at hy
                        subst hy
                        rintro ⟨_, z⟩
                        exact z (by simpa using h9)
                    · subst h8
                      refine ifF rfl ?_
                      walk_at "kx"
                      exact qN _ _ ⟨rfl, L2, by simp, fun y hy z => by cases z.1⟩
              · have hc3 : ¬ c = 93 := fun z => of_decide_eq_false h7 (by rw [z])
                rw [if_neg hc3] at est
                walk_at "kx"
                exact ⟨_, lt, ld1, as, ⟨_, _, _, rfl, L1⟩, runL_snoc hrun hc est, Nat.le_succ_of_le hwt, tk _ _ _⟩
        · intro N qN
          walk_at "kx"
          refine ifT (fun h5 => ?_) (fun h5 => ?_)
          · have h5 : ¬ S.tok = [] := by simpa using h5
            refine q_seqK (fun σ H3 => σ = [some (.str (tx l)), some (.ref lt), some (.ref ld), some (.str (tx S.tok)), some (.bl S.ahead), some (.str (tx [c])), some (atomV S.tok), o7] ∧ LrAt K H H3 lt ld as S) ?_ ?_
            · rintro σ H3 ⟨rfl, L⟩
              have ef : flush S = match rdAtom S.tok with | none => none | some a => if S.ahead = false then none else some ⟨S.rows, [a], [], false⟩ := if_neg h5
              walk_at "kx"
              refine q_orB (a := decide (atomV S.tok = .non)) (b := !S.ahead) (fun R1 q => ?_) (fun _ R1 q => ?_) ?_
              · walk_at "kx"
                exact q
              · walk_at "kx"
                exact q
              refine ifT (fun h6 => ?_) (fun h6 => ?_)
              · walk_at "kx"
                refine none_ ?_ H3 L.ex
                rw [est]
                have : flush S = none := by
                  rw [ef]
                  cases e : rdAtom S.tok with
                  | none => rfl
                  | some d =>
                    have e2 : atomV S.tok = valD d := by unfold atomV; rw [e]
                    rw [e2, decide_eq_false (rdAtom_lay (K := K) e).2.1, Bool.false_or] at h6
                    have e3 : S.ahead = false := by simpa using h6
                    show (if S.ahead = false then none else _) = none
                    rw [if_pos e3]
                rw [this]
                rfl
              · rw [Bool.or_eq_false_iff] at h6
                obtain ⟨d, e⟩ : ∃ d, rdAtom S.tok = some d := by
                  cases e : rdAtom S.tok with
                  | none =>
                    have e2 : atomV S.tok = .non := by unfold atomV; rw [e]
                    rw [e2] at h6
                    exact absurd h6.1 (by simp)
                  | some d => exact ⟨d, rfl⟩
                have e2 : atomV S.tok = valD d := by unfold atomV; rw [e]
                have e3 : ¬ S.ahead = false := by
                  have := h6.2
                  intro z
                  rw [z] at this
                  cases this
                have ef2 : flush S = some ⟨S.rows, [d], [], false⟩ := by
                  rw [ef, e]
                  exact if_neg e3
                walk_at "kx"
                refine ⟨sml rfl, fun p np => ?_⟩
                walk_at "kx"
                refine ⟨_, _, _, rfl, ?_⟩
                rw [e2]
                have lay := rdAtom_lay (K := K) e
                exact qN _ _ ⟨_, p, _, _, ef2, rfl, rfl, rfl, L.setDone np lay.2.2 (rdAtom_flat e).1 lay.1⟩
            · intro N2 qN2
              walk_at "kx"
              refine fun p np => ⟨upd_same, [(.inr (tx [43]), .bl true), (.inr (tx [45]), .bl false), (.inr (tx [46]), .str (tx []))], rfl, by decide, ?_⟩
              refine ⟨p, rfl, .inl ⟨_, .inl upd_same⟩, ?_⟩
              have L2 := L.grow (Evl.Ex.mut (Evl.Ex.new np (o := .dK [])) np (o := .dK (mergeK [] [(.inr (tx [43]), V.bl true), (.inr (tx [45]), .bl false), (.inr (tx [46]), .str (tx []))])))
              have hp : upd (upd H2 p (.dK [])) p (.dK (mergeK [] [(.inr (tx [43]), V.bl true), (.inr (tx [45]), .bl false), (.inr (tx [46]), .str (tx []))])) p = _ := upd_same
              generalize upd (upd H2 p (.dK [])) p (.dK (mergeK [] [(.inr (tx [43]), V.bl true), (.inr (tx [45]), .bl false), (.inr (tx [46]), .str (tx []))])) = H3 at L2 hp
              walk_at "kx"
              refine ⟨.str (tx S.tok), .str (tx S.tok), rfl, .str _, fun s e => by cases e; rw [tx_len]; omega, fun H4 e4 => ?_⟩
              have ew : wordD (.str (tx S.tok)) = isWord S.tok := by simp only [wordD, tx_list]
              rw [ew]
              walk_at "kx"
              have ga := get_atom S.tok
              refine ifT (fun h6 => ?_) (fun h6 => ?_)
              · rw [if_pos h6] at ga
                walk_at "kx"
                refine ⟨_, DGet.k (k := .inr (tx S.tok)) (e4 _ _ hp), ?_⟩
                rw [ga]
                exact qN2 _ _ ⟨rfl, L2.grow e4⟩
              · rw [if_neg (by rw [h6]; exact Bool.false_ne_true)] at ga
                walk_at "kx"
                refine ⟨S.tok, rfl, htl, fun H5 e5 => ?_⟩
                refine ⟨_, DGet.k (k := .inr (tx S.tok)) (e5 _ _ (e4 _ _ hp)), ?_⟩
                rw [ga]
                exact qN2 _ _ ⟨rfl, L2.grow (e4.trans e5)⟩
          · have h5 : S.tok = [] := by simpa using h5
            walk_at "kx"
            refine qN _ _ ⟨S, ld, o6, o7, if_pos h5, rfl, h5, ?_, L⟩
            rw [h5]
            rfl
      · walk_at "kx"
        refine q_addS (by simp only [List.length_cons, List.length_nil]; omega) ?_
        walk_at "kx"
        have est : stepL c S = some ⟨S.rows, S.done, S.tok ++ [c], S.ahead⟩ := if_neg (by rw [h4]; exact Bool.false_ne_true)
        obtain ⟨a, ea, eb⟩ := htok
        refine ⟨⟨S.rows, S.done, S.tok ++ [c], S.ahead⟩, lt, ld, as, ⟨_, _, _, rfl, ⟨L.ex, L.tu, L.dn, L.st, L.nt, L.na, L.nd, L.ta, L.la, L.tl, L.ok⟩⟩, runL_snoc hrun hc est, Nat.le_succ_of_le hwt, a, ?_, ?_⟩
        · rw [etk, ea, List.append_assoc]
        · intro x hx
          rcases List.mem_append.mp hx with h | h
          · exact eb x h
          · rw [List.mem_singleton.mp h]
            exact h4
    · rintro σ H2 ⟨S, lt, ld, as, ⟨o5, o6, o7, rfl, L⟩, hrun, hwt, htok⟩
      rw [List.take_length] at hrun
      have hlr : lr l = if S.rows = [] ∧ S.ahead = false ∧ 59 ∉ l then some S.done else none := by
        unfold lr
        have h' : runL ⟨[], [], [], true⟩ (l ++ [59]) = some S := hrun
        rw [h']
        rfl
      walk_at "kx"
      refine q_and ?_
      walk_at "kx"
      refine ⟨sml rfl, fun p np => ?_⟩
      have L2 := L.grow (Evl.Ex.new np (o := .lst []))
      have hp : upd H2 p (.lst []) p = _ := upd_same
      generalize upd H2 p (.lst []) = H4 at L2 hp
      refine q_eqNil L2.tu (stk_dpa L2.st) (rows_lay L2.ok.1) hp ?_
      walk_at "kx"
      refine ifT (fun h5 => ?_) (fun h5 => ?_)
      · have h5 : S.rows = [] := by simpa using h5
        refine q_andB (a := !S.ahead) (b := !decide (59 ∈ l)) (fun R1 q => ?_) (fun _ R1 q => ?_) ?_
        · walk_at "kx"
          exact q
        · walk_at "kx"
          refine q_ninS (b := decide (59 ∈ l)) (by rw [tx_list]) ?_
          exact ⟨_, rfl, q⟩
        refine ifT (fun h6 => ?_) (fun h6 => ?_)
        · rw [Bool.and_eq_true] at h6
          rw [if_pos ⟨h5, by simpa using h6.1, by simpa using h6.2⟩] at hlr
          walk_at "kx"
          obtain ⟨vd, g1, g2⟩ := L2.dn
          exact qs _ hlr ld vd H4 L2.ex g1 g2
        · walk_at "kx"
          refine qn ?_ H4 L2.ex
          rw [hlr]
          refine if_neg fun z => ?_
          rw [z.2.1, decide_eq_false z.2.2] at h6
          cases h6
      · refine ifF rfl ?_
        walk_at "kx"
        refine qn ?_ H4 L2.ex
        rw [hlr]
        refine if_neg fun z => ?_
        rw [z.1] at h5
        cases h5
end
end K53

namespace K53
open PySem PySem.Spec PyProof.Rows L2 KX M53
local macro_rules | `(tactic| walk_at "kx1") => `(tactic| first
  | (with_reducible refine q_seq ?_) | (with_reducible refine q_ifs ?_) | (with_reducible refine q_asg ?_) | (with_reducible refine q_gname ?_) | (with_reducible refine q_ret ?_)
  | (with_reducible refine q_drop ?_) | (with_reducible refine q_next ?_) | (with_reducible refine q_par ?_) | (with_reducible refine q_sfld ?_) | (with_reducible refine q_rs ?_) | (with_reducible refine q_gsub ?_) | (with_reducible refine q_retN ?_)
  | ((with_reducible show tVar _ _ _ _); (refine q_var rfl ?_)) | (with_reducible refine q_c ?_) | (with_reducible refine q_op ?_) | (with_reducible refine q_un ?_) | (with_reducible refine q_neg ?_) | (with_reducible refine q_cb ?_)
  | (with_reducible refine q_nil ?_) | (with_reducible refine q_cons ?_) | (with_reducible refine q_tup ?_) | (with_reducible refine q_lst ?_) | (with_reducible refine q_if ?_)
  | (with_reducible refine q_notT ?_) | (with_reducible refine q_call ?_) | (with_reducible refine q_callS ?_) | (with_reducible refine q_fld ?_)
  | (with_reducible refine q_bm ?_) | (with_reducible refine q_bm0 ?_) | (with_reducible refine q_sl ?_) | (with_reducible refine q_nopart ?_) | (with_reducible refine q_part ?_) | (with_reducible refine q_meth ?_) | (with_reducible refine q_make ?_)
  | (with_reducible refine q_test ?_) | (with_reducible refine q_tB ?_) | (with_reducible refine q_tru ?_) | (with_reducible refine q_not ?_)
  | (with_reducible refine q_blk ?_) | (with_reducible refine q_tv ?_) | (with_reducible refine q_addI ?_) | (with_reducible refine q_subI ?_) | (with_reducible refine q_eqI ?_) | (with_reducible refine q_neI ?_)
  | (with_reducible refine q_for ?_) | (with_reducible refine q_lc ?_) | (with_reducible refine q_iList ?_) | (with_reducible refine q_iTup ?_) | (with_reducible refine q_iStr ?_) | (with_reducible refine q_iRng1 ?_) | (with_reducible refine q_iRng2 ?_) | (with_reducible refine q_iRng3 ?_) | (with_reducible refine q_gcons ?_) | (with_reducible refine q_gnil ?_) | (with_reducible refine q_yes ?_) | (with_reducible refine q_ltI ?_) | (with_reducible refine q_iEnumS ?_) | (with_reducible refine q_pi ?_) | (with_reducible refine q_leI ?_) | (with_reducible refine q_gtI ?_) | (with_reducible refine q_geI ?_) | (with_reducible refine q_leT ?_) | (with_reducible refine q_intI ?_) | (with_reducible refine q_abs ?_) | (with_reducible refine q_eqT ?_) | (with_reducible refine q_neT ?_) | (with_reducible refine q_par3 ?_) | (with_reducible refine q_isN ?_) | (with_reducible refine q_notN ?_))
local macro_rules | `(tactic| walk_at "kx") => `(tactic| repeat walk_at "kx1")
local macro_rules | `(tactic| walk_at "kxs") => `(tactic| repeat (first | walk_at "kx1" | (with_reducible refine q_andT ?_) | (with_reducible refine q_orT ?_) | (with_reducible refine q_chain ?_) | (with_reducible refine q_and ?_) | (with_reducible refine q_or ?_)))
local macro_rules | `(tactic| walk_at "lits") => `(tactic| simp only [lit_0, lit_1, lit_2, lit_3, lit_4, lit_5, lit_6, lit_7, lit_8, lit_9, lit_10, lit_11, lit_12, lit_13, lit_14, lit_15, lit_16, lit_17, lit_18, lit_19, lit_20, lit_21, lit_22, lit_23, lit_24, lit_25, lit_26])

section
variable {P : Program} {w : World} {K : PySem.W.Frag} {mg : Str → Option Value} {base : Heap} {CM : Addr}
def spTold (K : PySem.W.Frag) : Sp := fun vs H Q _ => ∃ (b : Bool) (v : V) (d : PyData), vs = [.int (if b then 1 else 0), v] ∧ Dp K H v d ∧
  (b = false → strOk d = true ∧ sz d ≤ 1000000 ∧ (wr 1000 d = none → ∀ H', Ex H H' → Q .non H') ∧ ∀ t, wr 1000 d = some t → t.length ≤ 16777216 ∧ ∀ p H', Ex H H' → H' p = some (.lst [.str (tx t)]) → Q (.ref p) H') ∧
  (b = true → (∀ l, d = .str (tx l) → l.length ≤ 100000) ∧ (∀ l d', d = .str (tx l) → rd l = some d' → ∀ p v' H', Ex H H' → H' p = some (.lst [v']) → Dp K H' v' d' → Q (.ref p) H') ∧
    ((∀ l, d = .str (tx l) → rd l = none) → ∀ H', Ex H H' → Q .non H'))
theorem ok_law_told {f f1 f2 : Addr} {fd fd1 fd2 : FuncData} (D : DefAt K mg "_law_told" s__law_told f fd ["which", "value"]) (T : Txt K mg CM)
    (D_write_data : DefAt K mg "write_data" s_write_data f1 fd1 ["data"]) (D_read_data : DefAt K mg "read_data" s_read_data f2 fd2 ["text"])
    (G_write_data : FnOk P w K mg base (L2.CX P w) 4 f1 fd1 ["data"] (spWrite K CM)) (G_read_data : FnOk P w K mg base (L2.CX P w) 4 f2 fd2 ["text"] (spReadD K CM)) : FnOk P w K mg base CX0 5 f fd ["which", "value"] (spTold K) := by
  refine D.fn.ok sc__law_told (fun vs H Q E h => ?_) (fun cdv A outer s H vs Q E hr h => ?_)
  · obtain ⟨b, v, d, rfl, _⟩ := h
    rfl
  · obtain ⟨b, v, d, rfl, hd, h0, h1⟩ := h
    have hu := u65 hr
    refine ⟨_, (pss_one (ps_try_only rfl rfl ⟨rfl, by decide, .inl T.x_Malformed.gC⟩ takes0 (fun W pn xe tk _ => (pss_one (ps_ret (pe_ifExp (pt_cmpR (w_eq (K := K) hu) (pv 0) pe_int (nomark _)) (pe_lst (pa_cons (pe_callS G_write_data (hr.mono (by decide)) rfl D_write_data.g D_write_data.kp D_write_data.b (fun σ => passAt tk σ) (pa_cons (pv 1) pa_nil)) pa_nil)) (pe_lst (pa_cons (pe_callS G_read_data (hr.mono (by decide)) rfl D_read_data.g D_read_data.kp D_read_data.b (fun σ => passAt tk σ) (pa_cons (pv 1) pa_nil)) pa_nil)))))) (fun a oe cls d pn _ _ => (pss_one (ps_ret pe_non))))), ?_⟩
    walk_at "kx"
    cases b with
    | false =>
      obtain ⟨hs, hz, qn, qs⟩ := h0 rfl
      refine ifY (decide_eq_true rfl) ?_
      walk_at "kx"
      refine ⟨v, d, rfl, hd, hs, hz, fun t ht => ?_, fun ht H' e' => ?_⟩
      · cases hw : wr 1000 d with
        | none => rw [hw] at ht; cases ht
        | some t' =>
          rw [hw] at ht
          cases ht
          refine ⟨(qs t hw).1, fun H' e' => ?_⟩
          walk_at "kx"
          refine ⟨sml rfl, fun p np => ?_⟩
          exact (qs t hw).2 p _ (e'.trans (Evl.Ex.new np)) upd_same
      · refine ⟨true, T.x_Malformed.self, fun _ a na => ?_, fun z => nomatch z⟩
        walk_at "kx"
        exact qn ht H' e'
    | true =>
      obtain ⟨hl, qs, qn⟩ := h1 rfl
      refine ifF (decide_eq_false (by decide)) ?_
      walk_at "kx"
      refine ⟨v, d, rfl, hd, hl, fun l d' e1 e2 v' H' e' hd' => ?_, fun e H' e' => ?_⟩
      · walk_at "kx"
        refine ⟨sml rfl, fun p np => ?_⟩
        exact qs l d' e1 e2 p v' _ (e'.trans (Evl.Ex.new np)) upd_same (dp_ex (Evl.Ex.new np) hd')
      · refine ⟨true, T.x_Malformed.self, fun _ a na => ?_, fun z => nomatch z⟩
        walk_at "kx"
        exact qn e H' e'
end
end K53

namespace M53
open PySem KX L2 TL NumText
/-! atoms, there and back -/
theorem ofNat_toNat {c : Nat} (h : 48 ≤ c ∧ c ≤ 57) : (Char.ofNat c).toNat = c := by
  have : ∀ d : Nat, d < 10 → (Char.ofNat (48 + d)).toNat = 48 + d := by decide
  have e := this (c - 48) (by omega)
  rwa [show 48 + (c - 48) = c by omega] at e
theorem numL_back {l : T} (h : AllDigits l) (hne : l ≠ []) (h0 : l.take 1 ≠ [48] ∨ l = [48]) : numL (digitsVal l) = l := by
  rcases h0 with h0 | rfl
  · obtain ⟨c, r, rfl⟩ : ∃ c r, l = c :: r := by
      cases l with
      | nil => exact absurd rfl hne
      | cons c r => exact ⟨c, r, rfl⟩
    have hc : 48 ≤ c ∧ c ≤ 57 := h c (by simp)
    have h49 : 49 ≤ c := by
      rcases Nat.lt_or_ge c 49 with z | z
      · have : c = 48 := by omega
        subst this
        exact absurd rfl h0
      · exact z
    have e := toDigits_digitsVal r.length (c :: r) rfl h (.inr ⟨c, r, rfl, h49⟩)
    unfold numL
    rw [e, List.map_map]
    refine (List.map_congr_left fun x hx => ?_).trans (List.map_id _)
    exact ofNat_toNat (h x hx)
  · rfl
theorem numL_head : ∀ n : Nat, (numL n).take 1 ≠ [48] ∨ n = 0 := by
  intro n
  induction n using Nat.strongRecOn with
  | _ n ih =>
    by_cases h : n < 10
    · rw [numL_lt h]
      by_cases h2 : n = 0
      · exact .inr h2
      · refine .inl fun e => h2 ?_
        simp at e
        omega
    · have hne := numL_ne (n / 10)
      rcases ih (n / 10) (by omega) with h2 | h2
      · left
        rw [numL_step (by omega)]
        obtain ⟨c, r, e⟩ : ∃ c r, numL (n / 10) = c :: r := by
          cases e : numL (n / 10) with
          | nil => exact absurd e hne
          | cons c r => exact ⟨c, r, rfl⟩
        rw [e] at h2 ⊢
        exact h2
      · omega
theorem foldl_lt : ∀ (l : T) (a : Nat), AllDigits l → l.foldl (fun acc c => acc * 10 + (c - 48)) a < (a + 1) * 10 ^ l.length
  | [], a, _ => by simp
  | c :: r, a, h => by
    have h1 := foldl_lt r (a * 10 + (c - 48)) fun x hx => h x (by simp [hx])
    have hc : 48 ≤ c ∧ c ≤ 57 := h c (by simp)
    show r.foldl _ (a * 10 + (c - 48)) < _
    refine Nat.lt_of_lt_of_le h1 ?_
    rw [List.length_cons, Nat.pow_succ, Nat.mul_comm (10 ^ r.length) 10, ← Nat.mul_assoc]
    exact Nat.mul_le_mul_right _ (by omega)
theorem digitsVal_lt (l : T) (h : AllDigits l) : digitsVal l < 10 ^ l.length := by
  have := foldl_lt l 0 h
  rw [Nat.zero_add, Nat.one_mul] at this
  exact this
theorem dig_all {l : T} (h : AllDigits l) : l.all dig = true := by
  rw [List.all_eq_true]
  intro c hc
  have := h c hc
  unfold dig
  simp only [Bool.and_eq_true, decide_eq_true_eq]
  exact this
/-- an int that is short, as its signs -/
theorem int_there {i : Int} (h : i.natAbs < 10 ^ 4000) : okNum (itxt i) = true ∧ numVal (itxt i) = i ∧ itxt i ≠ [43] ∧ itxt i ≠ [45] ∧ itxt i ≠ [46] ∧ isWord (itxt i) = false := by
  have hd := numL_digits i.natAbs
  have hne := numL_ne i.natAbs
  have hlen := numL_len (k := 4000) (by decide) h
  have hhead := numL_head i.natAbs
  have hval := numL_val i.natAbs
  have hlen1 : 1 ≤ (numL i.natAbs).length := by
    cases e : numL i.natAbs with
    | nil => exact absurd e hne
    | cons c r => simp
  obtain ⟨c, r, ec⟩ : ∃ c r, numL i.natAbs = c :: r := by
    cases e : numL i.natAbs with
    | nil => exact absurd e hne
    | cons c r => exact ⟨c, r, rfl⟩
  have hc : 48 ≤ c ∧ c ≤ 57 := hd c (by rw [ec]; simp)
  by_cases hi : i < 0
  · have e : itxt i = 45 :: numL i.natAbs := if_pos hi
    have eb : body (itxt i) = numL i.natAbs := by rw [e]; rfl
    have hz : (numL i.natAbs).take 1 ≠ [48] := by
      rcases hhead with z | z
      · exact z
      · omega
    refine ⟨?_, ?_, ?_, ?_, ?_, ?_⟩
    · unfold okNum
      rw [eb, decide_eq_true hlen1, decide_eq_true hlen, dig_all hd, decide_eq_false hz]
      rfl
    · unfold numVal
      rw [eb, hval, e]
      rw [if_pos (show (45 :: numL i.natAbs).take 1 = [45] from rfl)]
      omega
    · rw [e]; simp
    · rw [e, ec]; simp
    · rw [e]; simp
    · unfold isWord
      rw [e]
      show (_ && (low 45 && _)) = false
      simp [low]
  · have e : itxt i = numL i.natAbs := if_neg hi
    have ht1 : (numL i.natAbs).take 1 = [c] := by rw [ec]; rfl
    have eb : body (itxt i) = numL i.natAbs := by
      rw [e]
      unfold body
      rw [if_neg]
      rw [ht1]
      simp
      omega
    refine ⟨?_, ?_, ?_, ?_, ?_, ?_⟩
    · unfold okNum
      rw [eb, decide_eq_true hlen1, decide_eq_true hlen, dig_all hd, e]
      rcases hhead with z | z
      · rw [decide_eq_false z]; rfl
      · rw [z]
        decide
    · unfold numVal
      rw [eb, hval, e, ht1, if_neg (by simp; omega)]
      omega
    · rw [e, ec]; simp; omega
    · rw [e, ec]; simp; omega
    · rw [e, ec]; simp; omega
    · unfold isWord
      rw [e, ec]
      show (_ && (low c && _)) = false
      have : low c = false := by
        unfold low
        rw [decide_eq_false (by omega), Bool.false_and]
      rw [this, Bool.false_and, Bool.and_false]
theorem sep_of_wordc {c : Nat} (h : wordc c = true) : sep c = false := by
  unfold wordc low dig at h
  simp only [Bool.or_eq_true, Bool.and_eq_true, decide_eq_true_eq] at h
  unfold sep
  rw [decide_eq_false (by omega), decide_eq_false (by omega), decide_eq_false (by omega)]
  rfl
theorem itxt_signs {i : Int} : ∀ c ∈ itxt i, c = 45 ∨ (48 ≤ c ∧ c ≤ 57) := fun c hc => by
  unfold itxt at hc
  split at hc
  · rcases List.mem_cons.mp hc with h | h
    · exact .inl h
    · exact .inr (numL_digits _ c h)
  · exact .inr (numL_digits _ c hc)
theorem itxt_ne (i : Int) : itxt i ≠ [] := by
  unfold itxt
  split
  · simp
  · exact numL_ne _
/-- what an atom's text is -/
theorem atom_there {d : PyData} {t : T} (h : atomT d = some t) : rdAtom t = some d ∧ t ≠ [] ∧ ∀ c ∈ t, sep c = false ∧ c ≠ 59 := by
  cases d with
  | bool b =>
    cases b
    · cases h
      exact ⟨rfl, by simp, by decide⟩
    · cases h
      exact ⟨rfl, by simp, by decide⟩
  | int i =>
    rw [atom_int] at h
    split at h
    · rename_i hi
      cases h
      obtain ⟨h1, h2, h3, h4, h5, h6⟩ := int_there hi
      refine ⟨?_, itxt_ne i, fun c hc => ?_⟩
      · unfold rdAtom
        rw [if_neg h3, if_neg h4, if_neg h5, h6, if_neg Bool.false_ne_true, if_pos h1, h2]
      · have := itxt_signs c hc
        unfold sep
        rw [decide_eq_false (by omega), decide_eq_false (by omega), decide_eq_false (by omega)]
        exact ⟨rfl, by omega⟩
    · cases h
  | str s =>
    obtain ⟨l, rfl⟩ : ∃ l, s = tx l := ⟨_, (tx_of s).symm⟩
    rw [atom_str, tx_list] at h
    split at h
    · rename_i e
      subst e
      cases h
      exact ⟨rfl, by simp, by decide⟩
    · split at h
      · rename_i hn hw
        cases h
        have hs := isWord_signs hw
        refine ⟨?_, hn, fun c hc => ⟨sep_of_wordc (hs c hc), fun z => ?_⟩⟩
        · unfold rdAtom
          rw [if_neg, if_neg, if_neg, if_pos hw]
          · rintro rfl; revert hw; decide
          · rintro rfl; revert hw; decide
          · rintro rfl; revert hw; decide
        · subst z
          have := hs 59 hc
          revert this
          decide
      · cases h
  | none => cases h
  | list _ => cases h
  | tuple _ => cases h
  | dict _ => cases h
/-- and back -/
theorem atom_back {d : PyData} {t : T} (h : rdAtom t = some d) : atomT d = some t := by
  unfold rdAtom at h
  split at h
  · rename_i e; subst e; cases h; rfl
  · split at h
    · rename_i e; subst e; cases h; rfl
    · split at h
      · rename_i e; subst e; cases h; rfl
      · split at h
        · rename_i hw
          cases h
          rw [atom_str, tx_list, if_neg, if_pos hw]
          rintro rfl
          revert hw
          decide
        · split at h
          · rename_i h45 _ _ ho
            cases h
            unfold okNum at ho
            simp only [Bool.and_eq_true, decide_eq_true_eq, Bool.not_eq_true', Bool.and_eq_false_iff, decide_eq_false_iff_not, Bool.not_eq_false'] at ho
            obtain ⟨⟨⟨h1, h2⟩, h3⟩, h4⟩ := ho
            have hd := all_dig h3
            have hne : body t ≠ [] := fun e => by rw [e] at h1; simp at h1
            have hlt := digitsVal_lt (body t) hd
            have hlt2 : digitsVal (body t) < 10 ^ 4000 := Nat.lt_of_lt_of_le hlt (Nat.pow_le_pow_right (by decide) h2)
            rw [atom_int]
            by_cases hs : t.take 1 = [45]
            · have eb : body t = t.drop 1 := if_pos hs
              have et : t = 45 :: body t := by
                rw [eb]
                have := List.take_append_drop 1 t
                rw [hs] at this
                exact this.symm
              have en : numVal t = -((digitsVal (body t) : Nat) : Int) := if_pos hs
              have h0 : (body t).take 1 ≠ [48] := by
                rcases h4 with z | z
                · exact z
                · rw [z] at hs
                  simp at hs
              have eback := numL_back hd hne (.inl h0)
              have hpos : digitsVal (body t) ≠ 0 := by
                intro z
                rw [z] at eback
                have e0 : numL 0 = [48] := rfl
                rw [e0] at eback
                exact h0 (by rw [← eback]; rfl)
              rw [en]
              rw [if_pos (by omega)]
              unfold itxt
              rw [if_pos (by omega)]
              have : (-((digitsVal (body t) : Nat) : Int)).natAbs = digitsVal (body t) := by omega
              rw [this, eback, ← et]
            · have eb : body t = t := if_neg hs
              have en : numVal t = ((digitsVal (body t) : Nat) : Int) := if_neg hs
              have h0 : (body t).take 1 ≠ [48] ∨ body t = [48] := by
                rcases h4 with z | z
                · exact .inl z
                · right
                  rw [eb]
                  exact z
              have eback := numL_back hd hne h0
              rw [en]
              rw [if_pos (by omega)]
              unfold itxt
              rw [if_neg (by omega)]
              have : (((digitsVal (body t) : Nat) : Int)).natAbs = digitsVal (body t) := by omega
              rw [this, eback, eb]
          · cases h
end M53

namespace M53
open PySem KX L2 TL NumText
/-! what is written is read back -/
theorem pcs_free : ∀ (t cur r : T), (∀ c ∈ t, sep c = false) → pcs cur (t ++ r) = pcs (cur ++ t) r
  | [], cur, r, _ => by rw [List.append_nil]; rfl
  | c :: t, cur, r, h => by
    show pcs cur (c :: (t ++ r)) = _
    rw [pcs_no (h c (by simp)), pcs_free t (cur ++ [c]) r fun x hx => h x (by simp [hx]), List.append_assoc]
    rfl
/-- nothing, or a separator first -/
def Cut (r : T) : Prop := r = [] ∨ ∃ c r', r = c :: r' ∧ sep c = true
theorem pcs_tok {t r : T} (h : ∀ c ∈ t, sep c = false) (hn : t ≠ []) (hr : Cut r) : pcs [] (t ++ r) = t :: pcs [] r := by
  rw [pcs_free t [] r h, List.nil_append]
  rcases hr with rfl | ⟨c, r', rfl, hc⟩
  · show tok t = t :: tok []
    unfold tok
    rw [if_neg hn, if_pos rfl]
  · rw [pcs_sep hc, pcs_sep hc]
    unfold tok
    rw [if_neg hn, if_pos rfl]
    rfl
theorem take_atom {t : T} {d : PyData} {S : RS} (h : rdAtom t = some d) (hn : t ≠ []) (hs : ∀ c ∈ t, sep c = false) : takeS S t = itemS S d := by
  unfold takeS
  have ne : ∀ {a : Nat}, sep a = true → ¬ t = [a] := fun {a} ha z => by
    have := hs a (by rw [z]; simp)
    rw [ha] at this
    cases this
  rw [if_neg (ne (a := 91) rfl), if_neg (ne (a := 93) rfl), if_neg (ne (a := 44) rfl), h]
theorem runS_cons (S : RS) (p : T) (ps : List T) : runS S (p :: ps) = (takeS S p).bind fun S' => runS S' ps := by
  simp only [runS]
  cases takeS S p <;> rfl
theorem item_is (st : List (List PyData)) (told : List PyData) (d : PyData) : ∃ S', itemS ⟨st, true, told⟩ d = some S' := by
  rcases List.eq_nil_or_concat st with rfl | ⟨st0, x, rfl⟩
  · exact ⟨_, item_nil _ _⟩
  · rw [List.concat_eq_append]
    exact ⟨_, item_app _ _ _ _⟩
mutual
theorem rd_wr : ∀ (d : PyData) (k : Nat) (t r : T) (st : List (List PyData)) (told : List PyData), wr k d = some t → Cut r → st.length + k ≤ 1000 →
    runS ⟨st, true, told⟩ (pcs [] (t ++ r)) = (itemS ⟨st, true, told⟩ d).bind fun S' => runS S' (pcs [] r)
  | .tuple ds, k, t, r, st, told, h, hr, hk => by
    obtain ⟨k', ts, rfl, h1, rfl⟩ := wr_tup h
    show runS _ (pcs [] (91 :: ((comma ts ++ [93]) ++ r))) = _
    rw [pcs_sep rfl, List.append_assoc]
    show runS _ ([91] :: pcs [] (comma ts ++ ([93] ++ r))) = _
    rw [runS_cons]
    have e1 : takeS ⟨st, true, told⟩ [91] = some ⟨st ++ [[]], true, told⟩ := by
      unfold takeS
      rw [if_pos rfl]
      unfold openS
      rw [if_neg]
      rintro (z | z)
      · cases z
      · have z' : 1000 ≤ st.length := z
        omega
    rw [e1]
    show runS ⟨st ++ [[]], true, told⟩ (pcs [] (comma ts ++ 93 :: r)) = _
    cases ds with
    | nil =>
      rw [wrs_nil] at h1
      cases h1
      show runS _ (pcs [] (93 :: r)) = _
      rw [pcs_sep rfl]
      show runS _ ([93] :: pcs [] r) = _
      rw [runS_cons]
      have e2 : takeS ⟨st ++ [[]], true, told⟩ [93] = closeS ⟨st ++ [[]], true, told⟩ := rfl
      rw [e2, close_app, if_neg (fun z => z.2 rfl)]
    | cons d ds =>
      have := rds_wr d ds k' ts (93 :: r) st [] told h1 (.inr ⟨93, r, rfl, rfl⟩) (by omega)
      rw [this, List.nil_append, pcs_sep rfl]
      show runS _ ([93] :: pcs [] r) = _
      rw [runS_cons]
      have e2 : takeS ⟨st ++ [d :: ds], false, told⟩ [93] = closeS ⟨st ++ [d :: ds], false, told⟩ := rfl
      rw [e2, close_app, if_neg (fun z => by cases z.1)]
  | .none, k, t, r, st, told, h, hr, hk => by rw [wr_atom rfl] at h; cases h
  | .bool b, k, t, r, st, told, h, hr, hk => by
    rw [wr_atom rfl] at h
    obtain ⟨h1, h2, h3⟩ := atom_there h
    rw [pcs_tok (fun c hc => (h3 c hc).1) h2 hr, runS_cons, take_atom h1 h2 fun c hc => (h3 c hc).1]
  | .int i, k, t, r, st, told, h, hr, hk => by
    rw [wr_atom rfl] at h
    obtain ⟨h1, h2, h3⟩ := atom_there h
    rw [pcs_tok (fun c hc => (h3 c hc).1) h2 hr, runS_cons, take_atom h1 h2 fun c hc => (h3 c hc).1]
  | .str s, k, t, r, st, told, h, hr, hk => by
    rw [wr_atom rfl] at h
    obtain ⟨h1, h2, h3⟩ := atom_there h
    rw [pcs_tok (fun c hc => (h3 c hc).1) h2 hr, runS_cons, take_atom h1 h2 fun c hc => (h3 c hc).1]
  | .list _, k, t, r, st, told, h, hr, hk => by rw [wr_atom rfl] at h; cases h
  | .dict _, k, t, r, st, told, h, hr, hk => by rw [wr_atom rfl] at h; cases h
theorem rds_wr : ∀ (d : PyData) (ds : List PyData) (k : Nat) (ts : List T) (r : T) (st : List (List PyData)) (x told : List PyData), wrs k (d :: ds) = some ts → Cut r → st.length + 1 + k ≤ 1000 →
    runS ⟨st ++ [x], true, told⟩ (pcs [] (comma ts ++ r)) = runS ⟨st ++ [x ++ d :: ds], false, told⟩ (pcs [] r)
  | d, [], k, ts, r, st, x, told, h, hr, hk => by
    rw [wrs_cons, wrs_nil] at h
    cases h1 : wr k d with
    | none => rw [h1] at h; cases h
    | some t =>
      rw [h1] at h
      cases h
      show runS _ (pcs [] (t ++ r)) = _
      rw [rd_wr d k t r (st ++ [x]) told h1 hr (by rw [List.length_append]; simp only [List.length_cons, List.length_nil]; omega), item_app]
      rfl
  | d, e :: ds, k, ts, r, st, x, told, h, hr, hk => by
    rw [wrs_cons] at h
    cases h1 : wr k d with
    | none => rw [h1] at h; cases h
    | some t =>
      cases h2 : wrs k (e :: ds) with
      | none => rw [h1, h2] at h; cases h
      | some us =>
        rw [h1, h2] at h
        cases h
        have hul := wrs_len h2
        obtain ⟨u, us', rfl⟩ : ∃ u us', us = u :: us' := by
          cases us with
          | nil => simp at hul
          | cons u us' => exact ⟨u, us', rfl⟩
        have ec : comma (t :: u :: us') ++ r = t ++ (44 :: (comma (u :: us') ++ r)) := by
          show (t ++ 44 :: comma (u :: us')) ++ r = _
          rw [List.append_assoc]
          rfl
        show runS _ (pcs [] (comma (t :: u :: us') ++ r)) = _
        rw [ec, rd_wr d k t _ (st ++ [x]) told h1 (.inr ⟨44, _, rfl, rfl⟩) (by rw [List.length_append]; simp only [List.length_cons, List.length_nil]; omega), item_app]
        show runS ⟨st ++ [x ++ [d]], false, told⟩ (pcs [] (44 :: (comma (u :: us') ++ r))) = _
        rw [pcs_sep rfl]
        show runS _ ([44] :: pcs [] (comma (u :: us') ++ r)) = _
        rw [runS_cons]
        have e3 : takeS ⟨st ++ [x ++ [d]], false, told⟩ [44] = some ⟨st ++ [x ++ [d]], true, told⟩ := by
          show commaS _ = _
          unfold commaS
          rw [if_neg]
          rintro (z | z)
          · cases z
          · have z' : st ++ [x ++ [d]] = [] := z
            simp at z'
        rw [e3]
        show runS ⟨st ++ [x ++ [d]], true, told⟩ (pcs [] (comma (u :: us') ++ r)) = _
        rw [rds_wr e ds k (u :: us') r st (x ++ [d]) told h2 hr hk, List.append_assoc]
        rfl
end
/-- R1 -/
theorem rd_of_wr {d : PyData} {t : T} (h : wr 1000 d = some t) : rd t = some d := by
  have := rd_wr d 1000 t [] [] [] h (.inl rfl) (by simp)
  rw [List.append_nil] at this
  unfold rd
  rw [this, item_nil]
  rfl
end M53

namespace M53
open PySem KX L2 TL NumText
/-! what is read is so written -/
theorem pcs_flat : ∀ (l cur : T), (pcs cur l).flatten = cur ++ l
  | [], cur => by
    show (tok cur).flatten = _
    unfold tok
    split
    · rename_i h; subst h; rfl
    · simp
  | c :: r, cur => by
    unfold pcs
    split
    · rw [List.flatten_append, List.flatten_cons, pcs_flat r []]
      unfold tok
      split
      · rename_i h; subst h; rfl
      · simp
    · rw [pcs_flat r (cur ++ [c])]
      simp
/-- an open tuple whose items all have their commas -/
def opn (ts : List T) : T := 91 :: (ts.map (· ++ [44])).flatten
theorem opn_comma : ∀ (ts : List T) (p : T), (ts.map (· ++ [44])).flatten ++ p = comma (ts ++ [p])
  | [], p => rfl
  | [t], p => by simp [comma]
  | t :: u :: ts, p => by
    have ih := opn_comma (u :: ts) p
    show ((t ++ [44]) ++ ((u :: ts).map (· ++ [44])).flatten) ++ p = t ++ 44 :: comma (u :: ts ++ [p])
    rw [List.append_assoc, ih]
    simp
theorem comma_close (ts : List T) (h : ts ≠ []) : comma ts ++ [44] = (ts.map (· ++ [44])).flatten := by
  rcases List.eq_nil_or_concat ts with rfl | ⟨us, p, rfl⟩
  · exact absurd rfl h
  · rw [List.concat_eq_append, ← opn_comma]
    simp
theorem wrs_snoc {k : Nat} : ∀ {ds : List PyData} {ts : List T} {d : PyData} {t : T}, wrs k ds = some ts → wr k d = some t → wrs k (ds ++ [d]) = some (ts ++ [t])
  | [], ts, d, t, h, h2 => by
    rw [wrs_nil] at h
    cases h
    show wrs k [d] = _
    rw [wrs_cons, h2, wrs_nil]
    rfl
  | e :: ds, ts, d, t, h, h2 => by
    rw [wrs_cons] at h
    cases h1 : wr k e with
    | none => rw [h1] at h; cases h
    | some u =>
      cases h3 : wrs k ds with
      | none => rw [h1, h3] at h; cases h
      | some us =>
        rw [h1, h3] at h
        cases h
        show wrs k (e :: (ds ++ [d])) = _
        rw [wrs_cons, h1, wrs_snoc h3 h2]
        rfl
/-- the texts of open tuples, k: how many more may stand within the first -/
inductive Opn : Nat → List (List PyData) → T → Prop
  | nil (k : Nat) : Opn k [] []
  | cons {k : Nat} {ds : List PyData} {ts : List T} {st : List (List PyData)} {u : T} : wrs k ds = some ts → Opn k st u → Opn (k + 1) (ds :: st) (opn ts ++ u)
theorem Opn.snoc : ∀ {k : Nat} {st : List (List PyData)} {u : T} {ds : List PyData} {ts : List T}, Opn k st u → st.length < k → wrs (k - st.length - 1) ds = some ts → Opn k (st ++ [ds]) (u ++ opn ts)
  | k, _, _, ds, ts, .nil _, hk, h => by
    obtain ⟨k, rfl⟩ : ∃ k', k = k' + 1 := ⟨k - 1, by simp at hk; omega⟩
    have := Opn.cons h (Opn.nil k)
    rw [List.append_nil] at this
    exact this
  | _, _, _, ds, ts, .cons (k := k) (st := st) (u := u) h1 h2, hk, h => by
    simp only [List.length_cons] at hk h
    have := Opn.cons h1 (h2.snoc (ds := ds) (ts := ts) (by omega) (by rw [show k - st.length - 1 = k + 1 - (st.length + 1) - 1 by omega]; exact h))
    rw [List.append_assoc]
    exact this
theorem Opn.last {k : Nat} : ∀ {st : List (List PyData)} {u : T} {x : List PyData}, Opn k (st ++ [x]) u → ∃ v ts, Opn k st v ∧ u = v ++ opn ts ∧ st.length < k ∧ wrs (k - st.length - 1) x = some ts := by
  intro st
  induction st generalizing k with
  | nil =>
    intro u x h
    cases h with
    | cons h1 h2 =>
      cases h2
      exact ⟨[], _, .nil _, by simp, by simp, h1⟩
  | cons y st ih =>
    intro u x h
    cases h with
    | cons h1 h2 =>
      rename_i k ts u
      obtain ⟨v, us, a, b, c, d⟩ := ih h2
      refine ⟨_, us, .cons h1 a, by rw [b, List.append_assoc], by simp only [List.length_cons]; omega, ?_⟩
      simp only [List.length_cons]
      rw [show k + 1 - (st.length + 1) - 1 = k - st.length - 1 by omega]
      exact d
/-- what has been read so far -/
def Inv (S : RS) (u : T) : Prop :=
  (S.ready = true ∧ S.told = [] ∧ Opn 1000 S.stack u) ∨
  (S.ready = false ∧ S.stack = [] ∧ ∃ d, S.told = [d] ∧ wr 1000 d = some u) ∨
  (S.ready = false ∧ S.told = [] ∧ ∃ st x v ts, S.stack = st ++ [x] ∧ x ≠ [] ∧ Opn 1000 st v ∧ st.length < 1000 ∧ wrs (1000 - st.length - 1) x = some ts ∧ u = v ++ 91 :: comma ts)
theorem wr_le : ∀ {k : Nat} {d : PyData} {t : T}, isTupD d = false → wr k d = some t → ∀ j, wr j d = some t := fun {k d t} hd h j => by
  rw [wr_atom hd] at h ⊢
  exact h
theorem inv_item {st : List (List PyData)} {u p : T} {d : PyData} {S' : RS} (h : Opn 1000 st u) (hl : st.length ≤ 1000) (hw : wr (1000 - st.length) d = some p) (e : itemS ⟨st, true, []⟩ d = some S') : Inv S' (u ++ p) := by
  rcases List.eq_nil_or_concat st with rfl | ⟨st0, x, rfl⟩
  · rw [item_nil] at e
    cases e
    cases h
    exact .inr (.inl ⟨rfl, rfl, d, rfl, hw⟩)
  · rw [List.concat_eq_append] at *
    rw [item_app] at e
    cases e
    obtain ⟨v, ts, a, b, c, g⟩ := h.last
    rw [List.length_append] at hw
    have hw' : wr (1000 - st0.length - 1) d = some p := by
      rw [show 1000 - st0.length - 1 = 1000 - (st0.length + [x].length) by simp; omega]
      exact hw
    refine .inr (.inr ⟨rfl, rfl, st0, x ++ [d], v, ts ++ [p], rfl, by simp, a, c, wrs_snoc g hw', ?_⟩)
    rw [b, ← opn_comma, List.append_assoc]
    rfl
theorem inv_ready {S : RS} {u : T} (h : Inv S u) (hr : S.ready = true) : S = ⟨S.stack, true, []⟩ ∧ Opn 1000 S.stack u := by
  rcases h with ⟨_, b, c⟩ | ⟨a, _⟩ | ⟨a, _⟩
  · refine ⟨?_, c⟩
    obtain ⟨x, y, z⟩ := S
    simp at hr b
    subst hr
    subst b
    rfl
  · rw [hr] at a; cases a
  · rw [hr] at a; cases a
theorem item_ready {S S' : RS} {d : PyData} (h : itemS S d = some S') : S.ready = true := by
  unfold itemS at h
  split at h
  · cases h
  · rename_i z
    simpa using z
theorem opn_len {k : Nat} {st : List (List PyData)} {u : T} (h : Opn k st u) : st.length ≤ k := by
  induction h with
  | nil k => exact Nat.zero_le _
  | cons _ _ ih => simp only [List.length_cons]; omega
theorem inv_take {S S' : RS} {u p : T} (h : Inv S u) (e : takeS S p = some S') : Inv S' (u ++ p) := by
  unfold takeS at e
  split at e
  · rename_i hp
    subst hp
    unfold openS at e
    split at e
    · cases e
    · rename_i hn
      have hr : S.ready = true := by
        cases z : S.ready with
        | true => rfl
        | false => exact absurd (.inl z) hn
      have hl : S.stack.length < 1000 := by
        rcases Nat.lt_or_ge S.stack.length 1000 with z | z
        · exact z
        · exact absurd (.inr z) hn
      obtain ⟨eS, o⟩ := inv_ready h hr
      rw [eS] at e
      cases e
      exact .inl ⟨rfl, rfl, o.snoc (ds := []) (ts := []) hl (wrs_nil _)⟩
  · split at e
    · rename_i hp
      subst hp
      rcases List.eq_nil_or_concat S.stack with z | ⟨st, x, z⟩
      · have : closeS S = none := by unfold closeS; rw [z]; rfl
        rw [this] at e
        cases e
      · rw [List.concat_eq_append] at z
        obtain ⟨sk, b, told⟩ := S
        have z : sk = st ++ [x] := z
        subst z
        rw [close_app] at e
        split at e
        · cases e
        · rename_i hn
          have key : ∃ v ts, Opn 1000 st v ∧ st.length < 1000 ∧ wrs (1000 - st.length - 1) x = some ts ∧ u = v ++ 91 :: comma ts ∧ told = [] := by
            rcases h with ⟨a1, a2, a3⟩ | ⟨a1, a2, _⟩ | ⟨a1, a2, st', x', v, ts, b1, b2, b3, b4, b5, b6⟩
            · have a1 : b = true := a1
              have a2 : told = [] := a2
              have a3 : Opn 1000 (st ++ [x]) u := a3
              have hx : x = [] := by
                by_cases q : x = []
                · exact q
                · exact absurd ⟨a1, q⟩ hn
              subst hx
              obtain ⟨v, ts, c1, c2, c3, c4⟩ := a3.last
              rw [wrs_nil] at c4
              cases c4
              exact ⟨v, [], c1, c3, wrs_nil _, c2, a2⟩
            · have a2 : st ++ [x] = [] := a2
              simp at a2
            · have b1 : st ++ [x] = st' ++ [x'] := b1
              obtain ⟨rfl, h2⟩ := List.append_inj' b1 rfl
              cases h2
              exact ⟨v, ts, b3, b4, b5, b6, a2⟩
          obtain ⟨v, ts, c1, c2, c3, c4, c5⟩ := key
          subst c5
          have hw : wr (1000 - st.length) (.tuple x) = some (91 :: (comma ts ++ [93])) := by
            rw [show 1000 - st.length = (1000 - st.length - 1) + 1 by omega, wr_succ, c3]
            rfl
          have := inv_item c1 (Nat.le_of_lt c2) hw e
          rw [c4, List.append_assoc]
          exact this
    · split at e
      · rename_i hp
        subst hp
        unfold commaS at e
        split at e
        · cases e
        · rename_i hn
          rcases h with ⟨a1, _⟩ | ⟨_, a2, _⟩ | ⟨a1, a2, st, x, v, ts, b1, b2, b3, b4, b5, b6⟩
          · exact absurd (.inl a1) hn
          · exact absurd (.inr a2) hn
          · cases e
            refine .inl ⟨rfl, a2, ?_⟩
            show Opn 1000 S.stack _
            have hts : ts ≠ [] := by
              intro z
              have := wrs_len b5
              rw [z] at this
              exact b2 (List.length_eq_zero_iff.mp this.symm)
            have := b3.snoc b4 b5
            rw [b1, b6, List.append_assoc]
            show Opn 1000 (st ++ [x]) (v ++ (91 :: (comma ts ++ [44])))
            rw [comma_close ts hts]
            exact this
      · split at e
        · cases e
        · rename_i d hd
          have hr := item_ready e
          obtain ⟨eS, o⟩ := inv_ready h hr
          rw [eS] at e
          refine inv_item o (opn_len o) ?_ e
          have := atom_back hd
          rw [wr_atom (rdAtom_flat hd).2]
          exact this
theorem inv_run : ∀ (ps : List T) {S S' : RS} {u : T}, Inv S u → runS S ps = some S' → Inv S' (u ++ ps.flatten)
  | [], S, S', u, h, e => by
    cases e
    simpa using h
  | p :: ps, S, S', u, h, e => by
    rw [runS_cons] at e
    cases e1 : takeS S p with
    | none => rw [e1] at e; cases e
    | some S1 =>
      rw [e1] at e
      have := inv_run ps (inv_take h e1) e
      rw [List.flatten_cons, ← List.append_assoc]
      exact this
/-- R2 -/
theorem wr_of_rd {d : PyData} {t : T} (h : rd t = some d) : wr 1000 d = some t := by
  unfold rd at h
  cases e : runS ⟨[], true, []⟩ (pcs [] t) with
  | none => rw [e] at h; cases h
  | some S =>
    rw [e] at h
    have h : (if S.stack ≠ [] ∨ S.told.length ≠ 1 then none else S.told.head?) = some d := h
    split at h
    · cases h
    · rename_i hn
      have i := inv_run (pcs [] t) (.inl ⟨rfl, rfl, .nil _⟩) e
      rw [pcs_flat, List.nil_append, List.nil_append] at i
      have hl : S.told.length = 1 := by
        by_cases z : S.told.length = 1
        · exact z
        · exact absurd (.inr z) hn
      have hs : S.stack = [] := by
        by_cases z : S.stack = []
        · exact z
        · exact absurd (.inl z) hn
      rcases i with ⟨_, b, _⟩ | ⟨_, _, d', b, c⟩ | ⟨_, b, _⟩
      · rw [b] at hl; cases hl
      · rw [b] at h
        cases h
        exact c
      · rw [b] at hl; cases hl
end M53

namespace M53
open PySem KX L2 TL NumText
/-! the law's reader reads alike -/
/-- the reader's state at a state of the law's reader -/
def toRS (L : LS) : Option RS := if L.ahead = true then some ⟨L.rows, true, []⟩ else itemS ⟨L.rows, true, []⟩ (held L)
def finR (S : RS) : Option PyData := if S.stack ≠ [] ∨ S.told.length ≠ 1 then none else S.told.head?
def OneD (L : LS) : Prop := L.ahead = false → ∃ d, L.done = [d]
theorem rd_fin (t : T) : rd t = (runS ⟨[], true, []⟩ (pcs [] t)).bind finR := by
  unfold rd
  cases runS ⟨[], true, []⟩ (pcs [] t) <;> rfl
def finL (L : LS) : Option (List PyData) := if L.rows = [] ∧ L.ahead = false then some L.done else none
theorem toRS_some (L : LS) : ∃ S, toRS L = some S := by
  unfold toRS
  split
  · exact ⟨_, rfl⟩
  · exact item_is _ _ _
/-- at the end -/
theorem fin_alike {L : LS} {S : RS} (h : toRS L = some S) (h1 : OneD L) : finL L = (finR S).map fun d => [d] := by
  obtain ⟨rows, done, tok, ahead⟩ := L
  unfold toRS at h
  unfold finL finR
  cases ahead with
  | true =>
    cases h
    rw [if_neg (fun z => by cases z.2), if_pos (.inr (by show ([] : List PyData).length ≠ 1; simp))]
    rfl
  | false =>
    rw [if_neg (by simp)] at h
    obtain ⟨d, e⟩ := h1 rfl
    have e : done = [d] := e
    subst e
    rcases List.eq_nil_or_concat rows with rfl | ⟨r0, x, rfl⟩
    · have h : itemS ⟨[], true, []⟩ d = some S := h
      rw [item_nil] at h
      cases h
      rw [if_pos ⟨rfl, rfl⟩, if_neg (by simp)]
      rfl
    · rw [List.concat_eq_append] at *
      have h : itemS ⟨r0 ++ [x], true, []⟩ d = some S := h
      rw [item_app] at h
      cases h
      rw [if_neg (by simp), if_pos (.inl (by simp))]
      rfl
/-- a piece that is no separator -/
theorem flush_alike {L : LS} {S : RS} (hs : ∀ c ∈ L.tok, sep c = false) (h : toRS L = some S) (ps : List T) :
    (match flush L with
      | none => runS S (tok L.tok ++ ps) = none
      | some L' => L'.tok = [] ∧ L'.rows = L.rows ∧ (OneD L → OneD L') ∧ ∃ S', toRS L' = some S' ∧ runS S (tok L.tok ++ ps) = runS S' ps) := by
  unfold flush
  by_cases hn : L.tok = []
  · rw [if_pos hn]
    refine ⟨hn, rfl, id, S, h, ?_⟩
    unfold tok
    rw [if_pos hn]
    rfl
  · rw [if_neg hn]
    have et : tok L.tok = [L.tok] := if_neg hn
    rw [et]
    have e0 : runS S ([L.tok] ++ ps) = (takeS S L.tok).bind fun S' => runS S' ps := runS_cons _ _ _
    have ne : ∀ {a : Nat}, sep a = true → ¬ L.tok = [a] := fun {a} ha z => by
      have := hs a (by rw [z]; simp)
      rw [ha] at this
      cases this
    have e1 : takeS S L.tok = match rdAtom L.tok with | none => none | some d => itemS S d := by
      unfold takeS
      rw [if_neg (ne (a := 91) rfl), if_neg (ne (a := 93) rfl), if_neg (ne (a := 44) rfl)]
      first | done | (cases rdAtom L.tok <;> rfl)
    rw [e0, e1]
    cases ea : rdAtom L.tok with
    | none => rfl
    | some d =>
      show (match (if L.ahead = false then none else some ⟨L.rows, [d], [], false⟩ : Option LS) with | none => _ | some L' => _)
      unfold toRS at h
      cases hb : L.ahead with
      | false =>
        rw [if_pos rfl]
        rw [if_neg (by rw [hb]; simp)] at h
        have : S.ready = false := by
          unfold itemS at h
          simp only [Bool.true_eq_false, if_false] at h
          split at h <;> (cases h; rfl)
        show Option.bind (itemS S d) _ = none
        unfold itemS
        rw [if_pos this]
        rfl
      | true =>
        rw [if_neg (by simp)]
        rw [if_pos hb] at h
        cases h
        refine ⟨rfl, rfl, fun _ _ => ⟨d, rfl⟩, ?_⟩
        obtain ⟨S', e⟩ := item_is L.rows [] d
        refine ⟨S', ?_, ?_⟩
        · unfold toRS
          rw [if_neg (by simp)]
          exact e
        · show Option.bind (itemS ⟨L.rows, true, []⟩ d) _ = _
          rw [e]
          rfl
/-- a separator -/
theorem act_alike {L : LS} {S : RS} {c : Nat} (hc : sep c = true) (h : toRS L = some S) (h1 : OneD L) (hl : L.rows.length < 1000) :
    (match act c L with
      | none => takeS S [c] = none
      | some L' => L'.tok = L.tok ∧ L'.rows.length ≤ L.rows.length + (if c = 91 then 1 else 0) ∧ OneD L' ∧ ∃ S', toRS L' = some S' ∧ takeS S [c] = some S') := by
  obtain ⟨rows, done, tok, ahead⟩ := L
  unfold toRS at h
  unfold sep at hc
  simp only [Bool.or_eq_true, decide_eq_true_eq] at hc
  rcases hc with rfl | rfl | rfl
  · unfold act
    rw [if_pos rfl]
    cases ahead with
    | false =>
      rw [if_pos rfl]
      rw [if_neg (by simp)] at h
      have : S.ready = false := by
        unfold itemS at h
        simp only [Bool.true_eq_false, if_false] at h
        split at h <;> (cases h; rfl)
      show openS S = none
      unfold openS
      exact if_pos (.inl this)
    | true =>
      rw [if_neg (by simp)]
      cases h
      refine ⟨rfl, by simp, (fun z => by cases z), ⟨rows ++ [[]], true, []⟩, rfl, ?_⟩
      show openS _ = _
      unfold openS
      refine if_neg ?_
      rintro (z | z)
      · cases z
      · have z : 1000 ≤ rows.length := z
        have hl : rows.length < 1000 := hl
        omega
  · unfold act
    rw [if_neg (by decide), if_neg (by decide), if_pos rfl]
    have tk : takeS S [93] = closeS S := rfl
    rw [tk]
    rcases List.eq_nil_or_concat rows with rfl | ⟨r0, x, rfl⟩
    · show closeS S = none
      cases ahead with
      | true => cases h; rfl
      | false =>
        rw [if_neg (by simp)] at h
        have h : itemS ⟨[], true, []⟩ (done.headD .none) = some S := h
        rw [item_nil] at h
        cases h
        rfl
    · rw [List.concat_eq_append] at *
      have eg : (LS.rows ⟨r0 ++ [x], done, tok, ahead⟩).getLast? = some x := by simp
      rw [eg]
      show (match (if ahead = true ∧ x ≠ [] then none else some (⟨(r0 ++ [x]).dropLast, [.tuple (x ++ if ahead = true then [] else [done.headD .none])], tok, false⟩ : LS)) with | none => _ | some L' => _)
      cases ahead with
      | true =>
        cases h
        rw [close_app]
        by_cases hx : x = []
        · subst hx
          have hz : ¬ (true = true ∧ ([] : List PyData) ≠ []) := fun z => z.2 rfl
          rw [if_neg hz, if_neg hz]
          obtain ⟨S', e⟩ := item_is r0 [] (.tuple [])
          refine ⟨rfl, by simp, fun _ => ⟨_, rfl⟩, S', ?_, e⟩
          unfold toRS
          rw [if_neg (by simp)]
          show itemS ⟨(r0 ++ [[]]).dropLast, true, []⟩ (.tuple ([] ++ [])) = _
          rw [List.dropLast_concat]
          exact e
        · have hz : true = true ∧ x ≠ [] := ⟨rfl, hx⟩
          rw [if_pos hz, if_pos hz]
      | false =>
        rw [if_neg (by simp)] at h
        have h : itemS ⟨r0 ++ [x], true, []⟩ (done.headD .none) = some S := h
        rw [item_app] at h
        cases h
        have hz : ¬ (false = true ∧ x ≠ []) := fun z => by cases z.1
        have hz2 : ¬ (false = true ∧ x ++ [done.headD .none] ≠ []) := fun z => by cases z.1
        rw [close_app, if_neg hz, if_neg hz2]
        obtain ⟨S', e⟩ := item_is r0 [] (.tuple (x ++ [done.headD .none]))
        refine ⟨rfl, by simp, fun _ => ⟨_, rfl⟩, S', ?_, e⟩
        unfold toRS
        rw [if_neg (by simp)]
        show itemS ⟨(r0 ++ [x]).dropLast, true, []⟩ (.tuple (x ++ [done.headD .none])) = _
        rw [List.dropLast_concat]
        exact e
  · unfold act
    rw [if_neg (by decide), if_pos rfl]
    have tk : takeS S [44] = commaS S := rfl
    rw [tk]
    rcases List.eq_nil_or_concat rows with rfl | ⟨r0, x, rfl⟩
    · show commaS S = none
      cases ahead with
      | true => cases h; rfl
      | false =>
        rw [if_neg (by simp)] at h
        have h : itemS ⟨[], true, []⟩ (done.headD .none) = some S := h
        rw [item_nil] at h
        cases h
        rfl
    · rw [List.concat_eq_append] at *
      have eg : (LS.rows ⟨r0 ++ [x], done, tok, ahead⟩).getLast? = some x := by simp
      rw [eg]
      show (match (if ahead = true then none else some (⟨(r0 ++ [x]).dropLast ++ [x ++ [done.headD .none]], done, tok, true⟩ : LS)) with | none => _ | some L' => _)
      cases ahead with
      | true =>
        cases h
        rw [if_pos rfl]
        show commaS _ = none
        unfold commaS
        exact if_pos (.inl rfl)
      | false =>
        rw [if_neg (by simp)] at h
        have h : itemS ⟨r0 ++ [x], true, []⟩ (done.headD .none) = some S := h
        rw [item_app] at h
        cases h
        rw [if_neg (by simp)]
        refine ⟨rfl, by simp, (fun z => by cases z), ⟨r0 ++ [x ++ [done.headD .none]], true, []⟩, ?_, ?_⟩
        · unfold toRS
          rw [if_pos rfl]
          simp
        · show commaS _ = _
          unfold commaS
          refine if_neg ?_
          rintro (z | z)
          · cases z
          · have z : r0 ++ [x ++ [done.headD .none]] = [] := z
            simp at z
theorem alike : ∀ (l : T) (L : LS) (S : RS), 59 ∉ l → toRS L = some S → OneD L → (∀ c ∈ L.tok, sep c = false) → L.rows.length + l.count 91 < 1000 →
    (runL L (l ++ [59])).bind finL = ((runS S (pcs L.tok l)).bind finR).map fun d => [d]
  | [], L, S, h59, h, h1, ht, hl => by
    have f := flush_alike ht h []
    rw [List.append_nil] at f
    show (Option.bind (stepL 59 L) fun S' => some S').bind finL = _
    have e0 : stepL 59 L = (flush L).bind (act 59) := rfl
    rw [e0]
    show _ = ((runS S (tok L.tok)).bind finR).map _
    cases ef : flush L with
    | none =>
      rw [ef] at f
      have f : runS S (tok L.tok) = none := f
      rw [f]
      rfl
    | some L' =>
      rw [ef] at f
      obtain ⟨_, _, g2, S', g3, g4⟩ := f
      rw [g4]
      show finL L' = _
      exact fin_alike g3 (g2 h1)
  | c :: r, L, S, h59, h, h1, ht, hl => by
    have h59' : 59 ∉ r := fun z => h59 (by simp [z])
    have hc59 : c ≠ 59 := fun z => h59 (by simp [z])
    show (Option.bind (stepL c L) fun S' => runL S' (r ++ [59])).bind finL = _
    by_cases hc : sep c = true
    · have e0 : stepL c L = (flush L).bind (act c) := if_pos (by unfold sep4; rw [hc]; rfl)
      rw [e0, pcs_sep hc]
      have f := flush_alike ht h ([c] :: pcs [] r)
      cases ef : flush L with
      | none =>
        rw [ef] at f
        have f : runS S (tok L.tok ++ [c] :: pcs [] r) = none := f
        rw [f]
        rfl
      | some L' =>
        rw [ef] at f
        obtain ⟨g0, gr, g2, S', g3, g4⟩ := f
        rw [g4, runS_cons]
        have hcnt : (c :: r).count 91 = r.count 91 + if c = 91 then 1 else 0 := by
          rw [List.count_cons]
          congr 1
          simp
        have a := act_alike hc g3 (g2 h1) (by rw [gr]; omega)
        show (Option.bind (act c L') fun S' => runL S' (r ++ [59])).bind finL = _
        cases ea : act c L' with
        | none =>
          rw [ea] at a
          have a : takeS S' [c] = none := a
          rw [a]
          rfl
        | some L2 =>
          rw [ea] at a
          obtain ⟨b0, b1, b2, S2, b3, b4⟩ := a
          rw [b4]
          have et : L2.tok = [] := by rw [b0, g0]
          have ih := alike r L2 S2 h59' b3 b2 (by rw [et]; intro x hx; cases hx) (by rw [gr] at b1; omega)
          rw [et] at ih
          exact ih
    · have hc : sep c = false := by simpa using hc
      have e0 : stepL c L = some ⟨L.rows, L.done, L.tok ++ [c], L.ahead⟩ := if_neg (by unfold sep4; rw [hc, decide_eq_false hc59]; simp)
      rw [e0, pcs_no hc]
      have hcnt : (c :: r).count 91 = r.count 91 := by
        rw [List.count_cons]
        have : c ≠ 91 := by rintro rfl; cases hc
        simp [this]
      refine alike r ⟨L.rows, L.done, L.tok ++ [c], L.ahead⟩ S h59' h h1 (fun x hx => ?_) (by show L.rows.length + _ < _; omega)
      rcases List.mem_append.mp hx with z | z
      · exact ht x z
      · rw [List.mem_singleton.mp z]
        exact hc
/-- E -/
theorem lr_rd {l : T} (h59 : 59 ∉ l) (hl : l.count 91 < 1000) : lr l = (rd l).map fun d => [d] := by
  have := alike l ⟨[], [], [], true⟩ ⟨[], true, []⟩ h59 rfl (fun z => by cases z) (fun x hx => by cases hx) (by show 0 + _ < _; omega)
  rw [rd_fin, ← this]
  unfold lr
  congr 1
  funext S
  unfold finL
  by_cases z : S.rows = [] ∧ S.ahead = false
  · rw [if_pos z, if_pos ⟨z.1, z.2, h59⟩]
  · rw [if_neg z, if_neg (fun y => z ⟨y.1, y.2.1⟩)]
end M53

namespace M53
open PySem KX L2 TL NumText
/-! bounds -/
theorem comma_cons {t : T} {ts : List T} (h : ts ≠ []) : comma (t :: ts) = t ++ 44 :: comma ts := by
  cases ts with
  | nil => exact absurd rfl h
  | cons u ts => rfl
theorem count_tup (k : Nat) (ts : List T) : (91 :: (comma ts ++ [93])).count 91 = (comma ts).count 91 + 1 := by
  rw [List.count_cons, List.count_append]
  simp
mutual
theorem depth_le : ∀ (d : PyData) {k : Nat} {t : T}, wr k d = some t → d.depth ≤ t.count 91
  | .tuple ds, k, t, h => by
    obtain ⟨k', ts, rfl, h1, rfl⟩ := wr_tup h
    rw [count_tup k']
    simp only [PyData.depth]
    have := depths_le ds h1
    omega
  | .none, k, t, h => by simp only [PyData.depth]; omega
  | .bool _, k, t, h => by simp only [PyData.depth]; omega
  | .int _, k, t, h => by simp only [PyData.depth]; omega
  | .str _, k, t, h => by simp only [PyData.depth]; omega
  | .list _, k, t, h => by rw [wr_atom rfl] at h; cases h
  | .dict _, k, t, h => by rw [wr_atom rfl] at h; cases h
theorem depths_le : ∀ (ds : List PyData) {k : Nat} {ts : List T}, wrs k ds = some ts → PyData.depthAll ds ≤ (comma ts).count 91
  | [], k, ts, h => by simp only [PyData.depthAll]; omega
  | d :: ds, k, ts, h => by
    rw [wrs_cons] at h
    cases h1 : wr k d with
    | none => rw [h1] at h; cases h
    | some t =>
      cases h2 : wrs k ds with
      | none => rw [h1, h2] at h; cases h
      | some us =>
        rw [h1, h2] at h
        cases h
        have a := depth_le d h1
        have b := depths_le ds h2
        simp only [PyData.depthAll]
        by_cases z : us = []
        · subst z
          have e0 : comma ([] : List T) = [] := rfl
          rw [e0] at b
          simp only [List.count_nil] at b
          show _ ≤ t.count 91
          omega
        · show _ ≤ (comma (t :: us)).count 91
          rw [comma_cons z, List.count_append, List.count_cons]
          have : (if (44 == 91) = true then 1 else 0) = 0 := rfl
          omega
end
mutual
theorem wr_depth : ∀ (d : PyData) {k j : Nat} {t : T}, wr k d = some t → d.depth ≤ j → wr j d = some t
  | .tuple ds, k, j, t, h, hj => by
    obtain ⟨k', ts, rfl, h1, rfl⟩ := wr_tup h
    simp only [PyData.depth] at hj
    obtain ⟨j, rfl⟩ : ∃ j', j = j' + 1 := ⟨j - 1, by omega⟩
    rw [wr_succ, wrs_depth ds h1 (by omega)]
    rfl
  | .none, k, j, t, h, hj => wr_le rfl h j
  | .bool _, k, j, t, h, hj => wr_le rfl h j
  | .int _, k, j, t, h, hj => wr_le rfl h j
  | .str _, k, j, t, h, hj => wr_le rfl h j
  | .list _, k, j, t, h, hj => wr_le rfl h j
  | .dict _, k, j, t, h, hj => wr_le rfl h j
theorem wrs_depth : ∀ (ds : List PyData) {k j : Nat} {ts : List T}, wrs k ds = some ts → PyData.depthAll ds ≤ j → wrs j ds = some ts
  | [], k, j, ts, h, hj => by
    rw [wrs_nil] at h ⊢
    exact h
  | d :: ds, k, j, ts, h, hj => by
    rw [wrs_cons] at h
    simp only [PyData.depthAll] at hj
    cases h1 : wr k d with
    | none => rw [h1] at h; cases h
    | some t =>
      cases h2 : wrs k ds with
      | none => rw [h1, h2] at h; cases h
      | some us =>
        rw [h1, h2] at h
        cases h
        rw [wrs_cons, wr_depth d h1 (by omega), wrs_depth ds h2 (by omega)]
        rfl
end
theorem atom_len {d : PyData} {t : T} (h : atomT d = some t) : 1 ≤ t.length := by
  have := (atom_there h).2.1
  cases t with
  | nil => exact absurd rfl this
  | cons c r => simp
mutual
theorem sz_le : ∀ (d : PyData) {k : Nat} {t : T}, wr k d = some t → sz d ≤ 3 * t.length
  | .tuple ds, k, t, h => by
    obtain ⟨k', ts, rfl, h1, rfl⟩ := wr_tup h
    have := szs_le ds h1
    simp only [sz, List.length_cons, List.length_append, List.length_nil]
    omega
  | .none, k, t, h => by rw [wr_atom rfl] at h; cases h
  | .bool _, k, t, h => by rw [wr_atom rfl] at h; have := atom_len h; simp only [sz]; omega
  | .int _, k, t, h => by rw [wr_atom rfl] at h; have := atom_len h; simp only [sz]; omega
  | .str _, k, t, h => by rw [wr_atom rfl] at h; have := atom_len h; simp only [sz]; omega
  | .list _, k, t, h => by rw [wr_atom rfl] at h; cases h
  | .dict _, k, t, h => by rw [wr_atom rfl] at h; cases h
theorem szs_le : ∀ (ds : List PyData) {k : Nat} {ts : List T}, wrs k ds = some ts → szs ds ≤ 3 * (comma ts).length + 1
  | [], k, ts, h => by simp only [szs]; omega
  | d :: ds, k, ts, h => by
    rw [wrs_cons] at h
    cases h1 : wr k d with
    | none => rw [h1] at h; cases h
    | some t =>
      cases h2 : wrs k ds with
      | none => rw [h1, h2] at h; cases h
      | some us =>
        rw [h1, h2] at h
        cases h
        have a := sz_le d h1
        have b := szs_le ds h2
        simp only [szs]
        by_cases z : us = []
        · subst z
          have hl := wrs_len h2
          have : ds = [] := List.length_eq_zero_iff.mp hl.symm
          subst this
          simp only [szs]
          show _ ≤ 3 * t.length + 1
          omega
        · show _ ≤ 3 * (comma (t :: us)).length + 1
          rw [comma_cons z, List.length_append, List.length_cons]
          omega
end
theorem comma_in : ∀ {ts : List T} {t : T}, t ∈ ts → ∃ a b, comma ts = a ++ t ++ b
  | [u], t, h => by
    rw [List.mem_singleton] at h
    subst h
    exact ⟨[], [], by simp [comma]⟩
  | u :: v :: ts, t, h => by
    rcases List.mem_cons.mp h with h | h
    · subst h
      exact ⟨[], 44 :: comma (v :: ts), by simp [comma]⟩
    · obtain ⟨a, b, e⟩ := comma_in h
      exact ⟨u ++ 44 :: a, b, by show u ++ 44 :: comma (v :: ts) = _; rw [e]; simp⟩
theorem tup_in {ts : List T} {t : T} (h : t ∈ ts) : ∃ a b, 91 :: (comma ts ++ [93]) = a ++ t ++ b := by
  obtain ⟨a, b, e⟩ := comma_in h
  exact ⟨91 :: a, b ++ [93], by rw [e]; simp⟩
theorem Runs.sub {n : Nat} {a t b : T} (h : Runs n (a ++ t ++ b)) : Runs n t := fun x y z e hy => h (a ++ x) y (z ++ b) (by rw [e]; simp) hy
/-- what holds of each atom holds of the data -/
theorem wr_ind (p : T → Prop) (q : PyData → Prop) (hp : ∀ a t b, p (a ++ t ++ b) → p t) (hq : ∀ d t, atomT d = some t → p t → q d) (ht : ∀ ds, (∀ d ∈ ds, q d) → q (.tuple ds)) : ∀ (k : Nat) (d : PyData) (t : T), wr k d = some t → p t → q d := by
  intro k
  induction k with
  | zero =>
    intro d t h h2
    cases hd : isTupD d with
    | true =>
      cases d with
      | tuple ds => rw [wr_zero] at h; cases h
      | _ => cases hd
    | false =>
      rw [wr_atom hd] at h
      exact hq d t h h2
  | succ k ih =>
    intro d t h h2
    cases hd : isTupD d with
    | true =>
      cases d with
      | tuple ds =>
        obtain ⟨k', ts, e, h1, rfl⟩ := wr_tup h
        cases e
        refine ht ds fun d hd => ?_
        obtain ⟨t, ht1, ht2⟩ := wrs_flat h1 d hd
        obtain ⟨a, b, e⟩ := tup_in ht1
        rw [e] at h2
        exact ih d t ht2 (hp a t b h2)
      | _ => cases hd
    | false =>
      rw [wr_atom hd] at h
      exact hq d t h h2
theorem all_show : ∀ {ds : List PyData}, (∀ d ∈ ds, d.showable = true ∧ d.hasDict = false ∧ flatD d = true ∧ d.canLay0 = true) → PyData.showableAll ds = true ∧ PyData.hasDictAll ds = false ∧ flatDs ds = true ∧ PyData.canLayAll0 ds = true
  | [], _ => by simp only [PyData.showableAll, PyData.hasDictAll, flatDs, PyData.canLayAll0, and_self]
  | d :: ds, h => by
    obtain ⟨a1, a2, a3, a4⟩ := h d (by simp)
    obtain ⟨b1, b2, b3, b4⟩ := all_show (ds := ds) fun x hx => h x (by simp [hx])
    simp only [PyData.showableAll, PyData.hasDictAll, flatDs, PyData.canLayAll0, a1, a2, a3, a4, b1, b2, b3, b4, Bool.and_self, Bool.or_self, and_self]
theorem good_of_wr {k : Nat} {d : PyData} {t : T} (h : wr k d = some t) (hr : Runs 100 t) : d.showable = true ∧ d.hasDict = false ∧ flatD d = true ∧ d.canLay0 = true := by
  refine wr_ind (Runs 100) (fun d => d.showable = true ∧ d.hasDict = false ∧ flatD d = true ∧ d.canLay0 = true) (fun a t b => Runs.sub) (fun d t h hr => ?_) (fun ds h => ?_) k d t h hr
  · have hlen : t.length ≤ 100 := hr [] t [] (by simp) fun c hc => ((atom_there h).2.2 c hc).1
    cases d with
    | bool b => exact ⟨by simp only [PyData.showable], by simp only [PyData.hasDict], rfl, by simp only [PyData.canLay0]⟩
    | int i =>
      refine ⟨?_, by simp only [PyData.hasDict], rfl, by simp only [PyData.canLay0]⟩
      rw [atom_int] at h
      split at h
      · cases h
        simp only [PyData.showable, decide_eq_true_eq]
        have h1 : (numL i.natAbs).length ≤ 100 := by
          unfold itxt at hlen
          split at hlen
          · simp only [List.length_cons] at hlen
            omega
          · exact hlen
        have h2 := digitsVal_lt _ (numL_digits i.natAbs)
        rw [numL_val] at h2
        have h3 : i.natAbs < 10 ^ 100 := Nat.lt_of_lt_of_le h2 (Nat.pow_le_pow_right (by decide) h1)
        by_cases z : i.natAbs = 0
        · rw [z]; decide
        · rw [Nat.log2_lt z]
          exact Nat.lt_trans h3 (by decide +kernel)
      · cases h
    | str s =>
      refine ⟨by simp only [PyData.showable], by simp only [PyData.hasDict], rfl, ?_⟩
      simp only [PyData.canLay0]
      obtain ⟨l, rfl⟩ : ∃ l, s = tx l := ⟨_, (tx_of s).symm⟩
      rw [atom_str, tx_list] at h
      split at h
      · rename_i e
        subst e
        exact K53.txt_ok fun c hc => by cases hc
      · split at h
        · rename_i hw
          exact K53.txt_ok fun c hc => wordc_small (isWord_signs hw c hc)
        · cases h
    | none => cases h
    | list _ => cases h
    | tuple _ => cases h
    | dict _ => cases h
  · obtain ⟨b1, b2, b3, b4⟩ := all_show h
    exact ⟨by simp only [PyData.showable]; exact b1, by simp only [PyData.hasDict]; exact b2, by simp only [flatD]; exact b3, by simp only [PyData.canLay0]; exact b4⟩
end M53

namespace M53
open PySem KX L2 TL NumText
/-! how long a repr is -/
theorem hex2 : ∀ c : Nat, c < 128 → ((Nat.toDigits 16 c).map Char.toNat).length ≤ 2 := by decide +kernel
theorem repr_char (q c : Nat) (h : c < 128) : (Builtin.Str.reprChar q c).length ≤ 4 := by
  unfold Builtin.Str.reprChar
  have := hex2 c h
  simp only
  split
  · simp
  · split
    · simp
    · split
      · simp
      · split
        · simp
        · split
          · simp
          · rw [if_pos (by omega)]
            simp only [List.length_append, List.length_cons, List.length_nil, List.length_replicate]
            omega
theorem repr_fold (q : Nat) : ∀ (l : T) (n : Nat), (∀ c ∈ l, c < 128) → l.foldl (fun n c => n + (Builtin.Str.reprChar q c).length) n ≤ n + 4 * l.length
  | [], n, _ => by simp
  | c :: r, n, h => by
    have a := repr_char q c (h c (by simp))
    have b := repr_fold q r (n + (Builtin.Str.reprChar q c).length) fun x hx => h x (by simp [hx])
    simp only [List.foldl_cons, List.length_cons]
    omega
theorem repr_len {l : T} (h : ∀ c ∈ l, c < 128) : (reprText (tx l)).length ≤ 2 + 4 * l.length := by
  rw [← reprLen_eq, ← Array.foldl_toList, tx_list]
  exact repr_fold _ l 2 h
mutual
theorem shown_le : ∀ (d : PyData) {k : Nat} {t : T}, wr k d = some t → d.shown.length ≤ 8 * t.length
  | .tuple ds, k, t, h => by
    obtain ⟨k', ts, rfl, h1, rfl⟩ := wr_tup h
    have a := shownAll_le ds h1
    simp only [PyData.shown, List.length_cons, List.length_append, List.length_nil]
    have e : (tupleText (PyData.shownAll ds)).length ≤ 3 + (Str.join ", " (PyData.shownAll ds)).length := by
      unfold tupleText
      rw [Str.length_append, Str.length_append]
      have e1 : (("(" : Str)).length = 1 := rfl
      split
      · have e2 : ((",)" : String) : Str).length = 2 := rfl
        omega
      · have e2 : ((")" : String) : Str).length = 1 := rfl
        omega
    by_cases hn : PyData.shownAll ds = []
    · rw [hn] at e ⊢
      have e3 : (Str.join ", " []).length = 0 := rfl
      omega
    · have j := join_length_add (PyData.shownAll ds) hn
      omega
  | .none, k, t, h => by rw [wr_atom rfl] at h; cases h
  | .bool b, k, t, h => by
    rw [wr_atom rfl] at h
    have := atom_len h
    simp only [PyData.shown]
    cases b
    · show 5 ≤ _
      omega
    · show 4 ≤ _
      omega
  | .int i, k, t, h => by
    rw [wr_atom rfl] at h
    have := atom_len h
    rw [atom_int] at h
    split at h
    · cases h
      simp only [PyData.shown]
      have e : (Str.ofString (toString i)).length = (itxt i).length := by rw [tx_int, tx_len]
      show (Str.ofString (toString i)).length ≤ _
      omega
    · cases h
  | .str s, k, t, h => by
    rw [wr_atom rfl] at h
    have := atom_len h
    obtain ⟨l, rfl⟩ : ∃ l, s = tx l := ⟨_, (tx_of s).symm⟩
    rw [atom_str, tx_list] at h
    simp only [PyData.shown]
    split at h
    · rename_i e
      subst e
      have := repr_len (l := []) fun c hc => by cases hc
      simp only [List.length_nil] at this
      omega
    · split at h
      · rename_i hw
        cases h
        have := repr_len fun c hc => wordc_small (isWord_signs hw c hc)
        omega
      · cases h
  | .list _, k, t, h => by rw [wr_atom rfl] at h; cases h
  | .dict _, k, t, h => by rw [wr_atom rfl] at h; cases h
theorem shownAll_le : ∀ (ds : List PyData) {k : Nat} {ts : List T}, wrs k ds = some ts → piled (PyData.shownAll ds) ≤ 8 * (comma ts).length + 10
  | [], k, ts, h => by simp only [PyData.shownAll, piled_nil]; omega
  | d :: ds, k, ts, h => by
    rw [wrs_cons] at h
    cases h1 : wr k d with
    | none => rw [h1] at h; cases h
    | some t =>
      cases h2 : wrs k ds with
      | none => rw [h1, h2] at h; cases h
      | some us =>
        rw [h1, h2] at h
        cases h
        have a := shown_le d h1
        have b := shownAll_le ds h2
        simp only [PyData.shownAll, piled_cons]
        by_cases z : us = []
        · subst z
          have hl := wrs_len h2
          have : ds = [] := List.length_eq_zero_iff.mp hl.symm
          subst this
          simp only [PyData.shownAll, piled_nil]
          show _ ≤ 8 * t.length + 10
          omega
        · show _ ≤ 8 * (comma (t :: us)).length + 10
          rw [comma_cons z, List.length_append, List.length_cons]
          omega
end
theorem shown_one (d : PyData) : (PyData.list [d]).shown.length = d.shown.length + 2 := by
  simp only [PyData.shown, PyData.shownAll]
  unfold listText
  rw [Str.length_append]
  show ((("[" : Str) ++ ("" : Str)) ++ d.shown).length + 1 = _
  rw [Str.length_append, Str.length_append]
  have e1 : (("[" : Str)).length = 1 := rfl
  have e2 : (("" : Str)).length = 0 := rfl
  omega
end M53

namespace M53
open PySem KX L2 TL NumText K53
/-! the law's data and their texts, and one sign changed -/
def run (n : Nat) : Nat → T → Prop
  | _, [] => True
  | cur, c :: r => if sep c = true then run n 0 r else cur + 1 ≤ n ∧ run n (cur + 1) r
theorem run_sep {n cur c : Nat} {r : T} (h : sep c = true) : run n cur (c :: r) = run n 0 r := by
  rw [run, if_pos h]
theorem run_no {n cur c : Nat} {r : T} (h : sep c = false) : run n cur (c :: r) = (cur + 1 ≤ n ∧ run n (cur + 1) r) := by
  rw [run, if_neg (by rw [h]; exact Bool.false_ne_true)]
theorem run_tok {n : Nat} : ∀ {t : T} {cur : Nat} {r : T}, (∀ c ∈ t, sep c = false) → cur + t.length ≤ n → Cut r → run n 0 r → run n cur (t ++ r)
  | [], cur, r, _, _, hr, h => by
    rcases hr with rfl | ⟨c, r', rfl, hc⟩
    · trivial
    · show run n cur (c :: r')
      rw [run_sep hc] at h ⊢
      exact h
  | c :: t, cur, r, hs, hl, hr, h => by
    simp only [List.length_cons] at hl
    show run n cur (c :: (t ++ r))
    rw [run_no (hs c (by simp))]
    exact ⟨by omega, run_tok (fun x hx => hs x (by simp [hx])) (by omega) hr h⟩
theorem run_len {n : Nat} : ∀ {b c : T} {cur : Nat}, (∀ x ∈ b, sep x = false) → run n cur (b ++ c) → b = [] ∨ cur + b.length ≤ n
  | [], _, _, _, _ => .inl rfl
  | x :: b, c, cur, hs, h => by
    right
    have h : run n cur (x :: (b ++ c)) := h
    rw [run_no (hs x (by simp))] at h
    rcases run_len (fun y hy => hs y (by simp [hy])) h.2 with z | z
    · subst z
      simp only [List.length_cons, List.length_nil]
      omega
    · simp only [List.length_cons]
      omega
theorem run_drop {n : Nat} : ∀ {a l : T} {cur : Nat}, run n cur (a ++ l) → ∃ cur', run n cur' l
  | [], l, cur, h => ⟨cur, h⟩
  | x :: a, l, cur, h => by
    have h : run n cur (x :: (a ++ l)) := h
    cases hx : sep x with
    | true =>
      rw [run_sep hx] at h
      exact run_drop h
    | false =>
      rw [run_no hx] at h
      exact run_drop h.2
theorem runs_of {n : Nat} {l : T} (h : run n 0 l) : Runs n l := by
  intro a b c e hb
  rw [e, List.append_assoc] at h
  obtain ⟨cur, h1⟩ := run_drop h
  rcases run_len hb h1 with z | z
  · rw [z]; exact Nat.zero_le _
  · omega
def nL : Nat → Nat
  | 0 => 42
  | k + 1 => 5 + 3 * nL k
def nB : Nat → Nat
  | 0 => 0
  | k + 1 => 1 + 3 * nB k
/-- what is known of a text -/
structure TOk (n b : Nat) (t : T) : Prop where
  len : t.length ≤ n
  cnt : t.count 91 ≤ b
  run : ∀ r, Cut r → M53.run 42 0 r → M53.run 42 0 (t ++ r)
  no : ∀ c ∈ t, c ≠ 59
theorem count_sep {t : T} (h : ∀ c ∈ t, sep c = false) : t.count 91 = 0 := by
  rw [List.count_eq_zero]
  intro z
  have := h 91 z
  cases this
theorem atom_tok {d : PyData} {t : T} {n b : Nat} (h : atomT d = some t) (hl : t.length ≤ 42) (hn : 42 ≤ n) : TOk n b t := by
  obtain ⟨_, _, h3⟩ := atom_there h
  exact ⟨by omega, by rw [count_sep fun c hc => (h3 c hc).1]; exact Nat.zero_le _, fun r hr h => run_tok (fun c hc => (h3 c hc).1) (by omega) hr h, fun c hc => (h3 c hc).2⟩
theorem nL_ge : ∀ k, 42 ≤ nL k
  | 0 => Nat.le_refl _
  | k + 1 => by have := nL_ge k; show 42 ≤ 5 + 3 * nL k; omega
theorem int_small {i : Int} (h : i.natAbs < 10 ^ 41) : ∃ t, atomT (.int i) = some t ∧ t.length ≤ 42 := by
  refine ⟨itxt i, ?_, ?_⟩
  · rw [atom_int, if_pos (Nat.lt_of_lt_of_le h (Nat.pow_le_pow_right (by decide) (by decide)))]
  · have := numL_len (k := 41) (by decide) h
    unfold itxt
    split
    · simp only [List.length_cons]; omega
    · omega
theorem ga_wr {d : PyData} (h : Ga d) : ∃ t, atomT d = some t ∧ t.length ≤ 42 := by
  rcases h with h | h
  · simp only [atoms, List.mem_cons, List.not_mem_nil, or_false] at h
    rcases h with rfl | rfl | rfl | rfl | rfl | rfl | rfl | rfl | rfl
    · exact int_small (by decide +kernel)
    · exact int_small (by decide +kernel)
    · exact int_small (by decide +kernel)
    · exact int_small (by decide +kernel)
    · exact int_small (by decide +kernel)
    · exact int_small (by decide +kernel)
    · exact ⟨_, rfl, by decide⟩
    · exact ⟨_, rfl, by decide⟩
    · exact ⟨_, rfl, by decide⟩
  · simp only [words, List.mem_cons, List.not_mem_nil, or_false] at h
    rcases h with rfl | rfl | rfl | rfl <;> exact ⟨_, by rw [atom_str, tx_list]; rfl, by decide⟩
theorem ga_tup {ds : List PyData} (h : Ga (.tuple ds)) : False := by
  obtain ⟨t, h1, _⟩ := ga_wr h
  cases h1
theorem list_wr {k n b : Nat} : ∀ (ds : List PyData), (∀ d ∈ ds, ∃ t, wr k d = some t ∧ TOk n b t) → ∃ ts, wrs k ds = some ts ∧ TOk (ds.length * (n + 1)) (ds.length * b) (comma ts)
  | [], _ => ⟨[], wrs_nil _, ⟨Nat.zero_le _, Nat.zero_le _, fun r hr h => h, fun c hc => by cases hc⟩⟩
  | d :: ds, h => by
    obtain ⟨t, h1, o1⟩ := h d (by simp)
    obtain ⟨ts, h2, o2⟩ := list_wr (k := k) (n := n) (b := b) ds fun x hx => h x (by simp [hx])
    refine ⟨t :: ts, by rw [wrs_cons, h1, h2]; rfl, ?_⟩
    have l1 : (ds.length + 1) * (n + 1) = ds.length * (n + 1) + (n + 1) := by rw [Nat.add_mul, Nat.one_mul]
    have l2 : (ds.length + 1) * b = ds.length * b + b := by rw [Nat.add_mul, Nat.one_mul]
    have a1 := o1.len
    have a2 := o1.cnt
    have b1 := o2.len
    have b2 := o2.cnt
    by_cases z : ts = []
    · subst z
      show TOk _ _ t
      refine ⟨?_, ?_, o1.run, o1.no⟩
      · simp only [List.length_cons]; omega
      · simp only [List.length_cons]; omega
    · rw [comma_cons z]
      refine ⟨?_, ?_, fun r hr hrun => ?_, fun c hc => ?_⟩
      · simp only [List.length_cons, List.length_append]; omega
      · rw [List.count_append, List.count_cons]
        have : (if (44 == 91) = true then 1 else 0) = 0 := rfl
        simp only [List.length_cons]
        omega
      · rw [List.append_assoc]
        refine o1.run _ (.inr ⟨44, _, rfl, rfl⟩) ?_
        show run 42 0 (44 :: (comma ts ++ r))
        rw [run_sep rfl]
        exact o2.run r hr hrun
      · rcases List.mem_append.mp hc with h | h
        · exact o1.no c h
        · rcases List.mem_cons.mp h with h | h
          · omega
          · exact o2.no c h
theorem gd_wr : ∀ (k : Nat) (d : PyData), Gd k d → ∃ t, wr k d = some t ∧ TOk (nL k) (nB k) t
  | 0, d, h => by
    obtain ⟨t, h1, h2⟩ := ga_wr h
    have hd : isTupD d = false := by
      cases d with
      | tuple ds => exact (ga_tup h).elim
      | _ => rfl
    exact ⟨t, by rw [wr_atom hd]; exact h1, atom_tok h1 h2 (nL_ge 0)⟩
  | k + 1, d, h => by
    rcases h with h | ⟨ds, rfl, hl, h⟩
    · obtain ⟨t, h1, h2⟩ := ga_wr h
      have hd : isTupD d = false := by
        cases d with
        | tuple ds => exact (ga_tup h).elim
        | _ => rfl
      exact ⟨t, by rw [wr_atom hd]; exact h1, atom_tok h1 h2 (nL_ge _)⟩
    · obtain ⟨ts, h1, o⟩ := list_wr (k := k) (n := nL k) (b := nB k) ds fun d hd => gd_wr k d (h d hd)
      refine ⟨91 :: (comma ts ++ [93]), by rw [wr_succ, h1]; rfl, ?_, ?_, ?_, ?_⟩
      · have := o.len
        have h3 : ds.length * (nL k + 1) ≤ 3 * (nL k + 1) := Nat.mul_le_mul_right _ hl
        simp only [List.length_cons, List.length_append, List.length_nil, nL]
        omega
      · have := o.cnt
        have h3 : ds.length * nB k ≤ 3 * nB k := Nat.mul_le_mul_right _ hl
        rw [count_tup k]
        simp only [nB]
        omega
      · intro r hr hrun
        show run 42 0 (91 :: ((comma ts ++ [93]) ++ r))
        rw [run_sep rfl, List.append_assoc]
        refine o.run _ (.inr ⟨93, r, rfl, rfl⟩) ?_
        show run 42 0 (93 :: r)
        rw [run_sep rfl]
        exact hrun
      · intro c hc
        rcases List.mem_cons.mp hc with h | h
        · omega
        · rcases List.mem_append.mp h with h | h
          · exact o.no c h
          · rw [List.mem_singleton] at h
            omega
theorem TOk.runs {n b : Nat} {t : T} (h : TOk n b t) : Runs 42 t := by
  have := h.run [] (.inl rfl) trivial
  rw [List.append_nil] at this
  exact runs_of this
theorem runs_edit {n : Nat} {p q s m : T} (h : Runs n (p ++ q ++ s)) (hm : m.length ≤ 1) : Runs (2 * n + 1) (p ++ m ++ s) := by
  have pre : ∀ a u b, p = a ++ u ++ b → (∀ x ∈ u, sep x = false) → u.length ≤ n := fun a u b e hu => h a u (b ++ q ++ s) (by rw [e]; simp) hu
  have suf : ∀ a u b, s = a ++ u ++ b → (∀ x ∈ u, sep x = false) → u.length ≤ n := fun a u b e hu => h (p ++ q ++ a) u b (by rw [e]; simp) hu
  intro a b c e hb
  rw [List.append_assoc, List.append_assoc] at e
  rcases List.append_eq_append_iff.mp e with ⟨u, e1, e2⟩ | ⟨u, e1, e2⟩
  · -- a = p ++ u, m ++ s = u ++ (b ++ c)
    rcases List.append_eq_append_iff.mp e2 with ⟨v, f1, f2⟩ | ⟨v, f1, f2⟩
    · -- u = m ++ v, s = v ++ (b ++ c)
      have := suf v b c (by rw [f2, List.append_assoc]) hb
      omega
    · -- m = u ++ v, b ++ c = v ++ s
      have hv : v.length ≤ 1 := by
        have := congrArg List.length f1
        rw [List.length_append] at this
        omega
      rcases List.append_eq_append_iff.mp f2 with ⟨y, g1, g2⟩ | ⟨y, g1, g2⟩
      · -- v = b ++ y
        have := congrArg List.length g1
        rw [List.length_append] at this
        omega
      · -- b = v ++ y, s = y ++ c
        have h1 := suf [] y c (by rw [g2]; rfl) fun x hx => hb x (by rw [g1]; simp [hx])
        have := congrArg List.length g1
        rw [List.length_append] at this
        omega
  · -- p = a ++ u, b ++ c = u ++ (m ++ s)
    rcases List.append_eq_append_iff.mp e2 with ⟨v, f1, f2⟩ | ⟨v, f1, f2⟩
    · -- u = b ++ v
      have := pre a b v (by rw [e1, f1, List.append_assoc]) hb
      omega
    · -- b = u ++ v, m ++ s = v ++ c
      have h1 := pre a u [] (by rw [e1, List.append_nil]) fun x hx => hb x (by rw [f1]; simp [hx])
      have hbl := congrArg List.length f1
      rw [List.length_append] at hbl
      rcases List.append_eq_append_iff.mp f2 with ⟨y, g1, g2⟩ | ⟨y, g1, g2⟩
      · -- v = m ++ y, s = y ++ c
        have h2 := suf [] y c (by rw [g2]; rfl) fun x hx => hb x (by rw [f1, g1]; simp [hx])
        have := congrArg List.length g1
        rw [List.length_append] at this
        omega
      · -- m = v ++ y
        have := congrArg List.length g1
        rw [List.length_append] at this
        omega
/-- a text with one sign changed -/
structure Oth (o : T) : Prop where
  runs : Runs 100 o
  cnt : o.count 91 ≤ 122
  len : o.length ≤ 11000
  no : 59 ∉ o
theorem oth_of {t p q s m : T} (h : TOk (nL 5) (nB 5) t) (e : t = p ++ q ++ s) (hm : m.length ≤ 1) (h59 : 59 ∉ m) : Oth (p ++ m ++ s) := by
  have hl := h.len
  have hc := h.cnt
  have n5 : nL 5 = 10811 := rfl
  have b5 : nB 5 = 121 := rfl
  have hr := h.runs
  rw [e] at hl hc hr
  simp only [List.length_append, List.count_append] at hl hc
  refine ⟨fun a b c e hb => Nat.le_trans (runs_edit hr hm a b c e hb) (by decide), ?_, ?_, ?_⟩
  · have : m.count 91 ≤ m.length := List.count_le_length
    simp only [List.count_append]
    omega
  · simp only [List.length_append]
    omega
  · intro z
    have hno : ∀ c ∈ p ++ q ++ s, c ≠ 59 := fun c hc => h.no c (by rw [e]; exact hc)
    rcases List.mem_append.mp z with z | z
    · rcases List.mem_append.mp z with z | z
      · exact hno 59 (by simp [z]) rfl
      · exact h59 z
    · exact hno 59 (by simp [z]) rfl
theorem oth_self {t : T} (h : TOk (nL 5) (nB 5) t) : Oth t := by
  have := oth_of (p := t) (q := []) (s := []) (m := []) h (by simp) (by simp) (by simp)
  simpa using this
/-- what is read from such a text is fit to be shown -/
theorem oth_good {o : T} {d : PyData} (h : Oth o) (hr : rd o = some d) : wr 1000 d = some o ∧ wr 122 d = some o ∧ d.showable = true ∧ d.hasDict = false ∧ d.depth ≤ 122 ∧ d.shown.length ≤ 88000 ∧ lr o = some [d] := by
  have hw := wr_of_rd hr
  have g := good_of_wr hw h.runs
  have hd := depth_le d hw
  have hc := h.cnt
  have hs := shown_le d hw
  have hl := h.len
  refine ⟨hw, wr_depth d hw (by omega), g.1, g.2.1, by omega, by omega, ?_⟩
  rw [lr_rd h.no (by omega), hr]
  rfl
theorem oth_none {o : T} (h : Oth o) (hr : rd o = none) : lr o = none := by
  have hc := h.cnt
  rw [lr_rd h.no (by omega), hr]
  rfl
end M53

namespace M53
open PySem KX L2 TL NumText K53
/-! the law's own texts -/
def L9 : T := List.replicate 4000 57
theorem rep_dig (n : Nat) : (List.replicate n 57).all dig = true := by
  rw [List.all_eq_true]
  intro c hc
  rw [List.mem_replicate] at hc
  rw [hc.2]
  rfl
theorem rep_take (n : Nat) (h : 1 ≤ n) : (List.replicate n 57).take 1 = [57] := by
  obtain ⟨n, rfl⟩ : ∃ m, n = m + 1 := ⟨n - 1, by omega⟩
  rfl
theorem L9_len : L9.length = 4000 := List.length_replicate
theorem L9_take : L9.take 1 = [57] := rep_take 4000 (by decide)
theorem L9_body : body L9 = L9 := by
  unfold body
  rw [L9_take, if_neg (by decide)]
theorem L9_ne {l : T} (h : l.length ≤ 12) : L9 ≠ l := fun z => by
  have := congrArg List.length z
  rw [L9_len] at this
  omega
theorem L9_ok : okNum L9 = true := by
  unfold okNum
  rw [L9_body, L9_len, L9_take, decide_eq_true (show 1 ≤ 4000 by decide), decide_eq_true (show 4000 ≤ 4000 by decide), decide_eq_false (show ¬ ([57] : T) = [48] by decide)]
  have := rep_dig 4000
  show ((true && true) && L9.all dig && !(false && _)) = true
  rw [show L9.all dig = true from this]
  rfl
theorem big_word {l : T} (h : 12 < l.length) : isWord l = false := by
  unfold isWord
  rw [decide_eq_false (show ¬ l.length ≤ 12 by omega), Bool.and_false, Bool.false_and]
theorem big_atom {l : T} (h : 12 < l.length) : rdAtom l = if okNum l = true then some (.int (numVal l)) else none := by
  have ne : ∀ {m : T}, m.length ≤ 12 → ¬ l = m := fun hm z => by rw [z] at h; omega
  unfold rdAtom
  rw [if_neg (ne (by simp)), if_neg (ne (by simp)), if_neg (ne (by simp)), big_word h, if_neg Bool.false_ne_true]
theorem L9_wr : wr 1000 (.int (numVal L9)) = some L9 := by
  rw [wr_atom rfl]
  refine atom_back ?_
  rw [big_atom (by rw [L9_len]; decide), if_pos L9_ok]
theorem rep_val : ∀ n : Nat, digitsVal (List.replicate n 57) + 1 = 10 ^ n
  | 0 => rfl
  | n + 1 => by
    have ih := rep_val n
    rw [List.replicate_succ', digitsVal_snoc, Nat.pow_succ]
    omega
theorem L9_more : wr 1000 (.int (numVal L9 + 1)) = none := by
  have h : numVal L9 = ((digitsVal L9 : Nat) : Int) := by
    unfold numVal
    rw [L9_take, if_neg (by decide), L9_body]
  have e : digitsVal L9 + 1 = 10 ^ 4000 := rep_val 4000
  rw [wr_atom rfl, atom_int, if_neg]
  rw [h]
  have : (((digitsVal L9 : Nat) : Int) + 1).natAbs = digitsVal L9 + 1 := by omega
  rw [this, e]
  exact Nat.lt_irrefl _
theorem L9_neg : ∃ d, rd (45 :: L9) = some d := by
  have h1 : okNum (45 :: L9) = true := by
    have eb : body (45 :: L9) = L9 := rfl
    unfold okNum
    rw [eb, L9_len, L9_take, decide_eq_true (show 1 ≤ 4000 by decide), decide_eq_true (show 4000 ≤ 4000 by decide), decide_eq_false (show ¬ ([57] : T) = [48] by decide)]
    have := rep_dig 4000
    show ((true && true) && L9.all dig && !(false && _)) = true
    rw [show L9.all dig = true from this]
    rfl
  refine ⟨.int (numVal (45 :: L9)), rd_of_wr ?_⟩
  rw [wr_atom rfl]
  refine atom_back ?_
  rw [big_atom (by rw [List.length_cons, L9_len]; decide), if_pos h1]
theorem L9_free : ∀ c ∈ L9, sep c = false := fun c hc => by
  rw [show c = 57 from (List.mem_replicate.mp hc).2]
  rfl
theorem L9_long : rd (L9 ++ [48]) = none := by
  have hf : ∀ c ∈ L9 ++ [48], sep c = false := fun c hc => by
    rcases List.mem_append.mp hc with h | h
    · exact L9_free c h
    · rw [List.mem_singleton.mp h]; rfl
  have hl : (L9 ++ [48]).length = 4001 := by rw [List.length_append, L9_len]; rfl
  have hn : L9 ++ [48] ≠ [] := by simp
  have e := pcs_tok (r := []) hf hn (.inl rfl)
  rw [List.append_nil] at e
  have e2 : pcs [] ([] : T) = [] := rfl
  rw [e2] at e
  have ha : rdAtom (L9 ++ [48]) = none := by
    rw [big_atom (by rw [hl]; decide), if_neg]
    intro z
    have ht : (L9 ++ [48]).take 1 = [57] := by
      rw [List.take_append_of_le_length (by rw [L9_len]; decide), L9_take]
    have eb : body (L9 ++ [48]) = L9 ++ [48] := by
      unfold body
      rw [ht, if_neg (by decide)]
    unfold okNum at z
    rw [eb, hl, decide_eq_false (show ¬ 4001 ≤ 4000 by decide)] at z
    simp at z
  have ne : ∀ {m : T}, m.length ≤ 12 → ¬ L9 ++ [48] = m := fun hm z => by
    rw [z] at hl
    omega
  rw [rd_fin, e, runS_cons]
  have : takeS ⟨[], true, []⟩ (L9 ++ [48]) = none := by
    unfold takeS
    rw [if_neg (ne (by simp)), if_neg (ne (by simp)), if_neg (ne (by simp)), ha]
  rw [this]
  rfl
/-- tuples within tuples -/
def nest : Nat → PyData
  | 0 => .tuple []
  | n + 1 => .tuple [nest n]
def brs (n : Nat) : T := List.replicate n 91 ++ List.replicate n 93
theorem brs_succ (n : Nat) : brs (n + 1) = 91 :: (brs n ++ [93]) := by
  unfold brs
  rw [List.replicate_succ, List.replicate_succ' (a := 93)]
  simp
theorem wr_nest : ∀ n : Nat, wr (n + 1) (nest n) = some (brs (n + 1))
  | 0 => by
    show wr 1 (.tuple []) = _
    rw [wr_succ, wrs_nil]
    rfl
  | n + 1 => by
    show wr (n + 2) (.tuple [nest n]) = _
    rw [wr_succ, wrs_cons, wr_nest n, wrs_nil, brs_succ (n + 1)]
    rfl
theorem wr_nest_none : ∀ n : Nat, wr n (nest n) = none
  | 0 => wr_zero _
  | n + 1 => by
    show wr (n + 1) (.tuple [nest n]) = _
    rw [wr_succ, wrs_cons, wr_nest_none n]
    rfl
theorem nest_sz : ∀ n : Nat, sz (nest n) = 2 + 3 * n
  | 0 => by simp [nest, sz, szs]
  | n + 1 => by simp only [nest, sz, szs, nest_sz n]; omega
theorem nest_ok : ∀ n : Nat, M53.strOk (nest n) = true ∧ flatD (nest n) = true
  | 0 => by simp [nest, M53.strOk, M53.strOks, flatD, flatDs]
  | n + 1 => by
    obtain ⟨a, b⟩ := nest_ok n
    simp only [nest, M53.strOk, M53.strOks, flatD, flatDs, a, b, Bool.and_self, and_self]
theorem rd_deep : rd (brs 1000) = some (nest 999) := rd_of_wr (wr_nest 999)
theorem open_all : ∀ (m : Nat) (st : List (List PyData)) (r : T), 1000 < st.length + m → st.length ≤ 1000 → runS ⟨st, true, []⟩ (pcs [] (List.replicate m 91 ++ r)) = none
  | 0, st, r, h, h2 => by omega
  | m + 1, st, r, h, h2 => by
    show runS _ (pcs [] (91 :: (List.replicate m 91 ++ r))) = none
    rw [pcs_sep rfl]
    show runS _ ([91] :: pcs [] (List.replicate m 91 ++ r)) = none
    rw [runS_cons]
    show Option.bind (openS ⟨st, true, []⟩) _ = none
    unfold openS
    by_cases z : 1000 ≤ st.length
    · rw [if_pos (.inr z)]
      rfl
    · rw [if_neg]
      · show runS ⟨st ++ [[]], true, []⟩ (pcs [] (List.replicate m 91 ++ r)) = none
        exact open_all m (st ++ [[]]) r (by rw [List.length_append]; simp only [List.length_cons, List.length_nil]; omega) (by rw [List.length_append]; simp only [List.length_cons, List.length_nil]; omega)
      · rintro (y | y)
        · cases y
        · exact z y
theorem rd_deeper : rd (brs 1001) = none := by
  rw [rd_fin]
  have := open_all 1001 [] (List.replicate 1001 93) (by simp) (by simp)
  unfold brs
  rw [this]
  rfl
theorem brs_len (n : Nat) : (brs n).length = 2 * n := by
  unfold brs
  rw [List.length_append, List.length_replicate, List.length_replicate]
  omega
/-- what is no data -/
def bads : List PyData := [.none, .str (tx [65]), .str (tx [43]), .str (tx [97, 32, 98]), .str (tx [57, 97]), .str (tx [97, 98, 99, 100, 101, 102, 103, 104, 105, 106, 107, 108, 109]), .list [.int 1], .tuple [.int 1, .none], .tuple [.tuple [.none]], .list [.str (tx [97])], .tuple [.str (tx [97]), .list []], .str (tx [93]), .tuple [.str (tx [93])]]
theorem str_no {l : T} (h1 : l ≠ []) (h2 : isWord l = false) : ∀ k, wr k (.str (tx l)) = none := fun k => by
  rw [wr_atom rfl, atom_str, tx_list, if_neg h1, h2]
  rfl
theorem tup_no {ds : List PyData} {d : PyData} (hd : d ∈ ds) (h : ∀ k, wr k d = none) : ∀ k, wr k (.tuple ds) = none
  | 0 => wr_zero _
  | k + 1 => by
    cases e : wr (k + 1) (.tuple ds) with
    | none => rfl
    | some t =>
      obtain ⟨k', ts, _, h1, _⟩ := wr_tup e
      obtain ⟨t', _, h2⟩ := wrs_flat h1 d hd
      rw [h k'] at h2
      cases h2
theorem bads_no : ∀ d ∈ bads, wr 1000 d = none ∧ M53.strOk d = true ∧ sz d ≤ 1000000 := by
  intro d hd
  have n0 : ∀ k, wr k .none = none := fun k => by rw [wr_atom rfl]; rfl
  have l0 : ∀ ds k, wr k (.list ds) = none := fun ds k => by rw [wr_atom rfl]; rfl
  have sl : ∀ l : T, l.length ≤ 100 → decide ((tx l).length ≤ sizeLine) = true := fun l h => by rw [tx_len, sizeLine_eq]; exact decide_eq_true (by omega)
  simp only [bads, List.mem_cons, List.not_mem_nil, or_false] at hd
  rcases hd with rfl | rfl | rfl | rfl | rfl | rfl | rfl | rfl | rfl | rfl | rfl | rfl | rfl
  · exact ⟨n0 _, by simp only [M53.strOk], by simp only [sz]; omega⟩
  · exact ⟨str_no (by simp) (by decide) _, by simp only [M53.strOk]; exact sl _ (by decide), by simp only [sz]; omega⟩
  · exact ⟨str_no (by simp) (by decide) _, by simp only [M53.strOk]; exact sl _ (by decide), by simp only [sz]; omega⟩
  · exact ⟨str_no (by simp) (by decide) _, by simp only [M53.strOk]; exact sl _ (by decide), by simp only [sz]; omega⟩
  · exact ⟨str_no (by simp) (by decide) _, by simp only [M53.strOk]; exact sl _ (by decide), by simp only [sz]; omega⟩
  · exact ⟨str_no (by simp) (by decide) _, by simp only [M53.strOk]; exact sl _ (by decide), by simp only [sz]; omega⟩
  · exact ⟨l0 _ _, by simp only [M53.strOk], by simp only [sz]; omega⟩
  · exact ⟨tup_no (d := .none) (by simp) n0 _, by simp only [M53.strOk, M53.strOks, Bool.and_self], by simp only [sz, szs]; omega⟩
  · exact ⟨tup_no (d := .tuple [.none]) (by simp) (tup_no (d := .none) (by simp) n0) _, by simp only [M53.strOk, M53.strOks, Bool.and_self], by simp only [sz, szs]; omega⟩
  · exact ⟨l0 _ _, by simp only [M53.strOk], by simp only [sz]; omega⟩
  · refine ⟨tup_no (d := .list []) (by simp) (l0 _) _, ?_, by simp only [sz, szs]; omega⟩
    simp only [M53.strOk, M53.strOks, Bool.and_true]
    exact sl _ (by decide)
  · exact ⟨str_no (by simp) (by decide) _, by simp only [M53.strOk]; exact sl _ (by decide), by simp only [sz]; omega⟩
  · refine ⟨tup_no (d := .str (tx [93])) (by simp) (str_no (by simp) (by decide)) _, ?_, by simp only [sz, szs]; omega⟩
    simp only [M53.strOk, M53.strOks, Bool.and_true]
    exact sl _ (by decide)
def bads1 : List PyData := [.none, .int 5, .tuple [.int 1], .str (tx []), .str (tx [91, 97, 93, 91, 98, 93]), .str (tx [97, 44, 98]), .str (tx [91, 97])]
theorem bads1_no : ∀ d ∈ bads1, (∀ l, d = .str (tx l) → l.length ≤ 100000) ∧ ∀ l, d = .str (tx l) → rd l = none := by
  intro d hd
  have one : ∀ {m : T}, m.length ≤ 100000 → rd m = none → (∀ l, PyData.str (tx m) = .str (tx l) → l.length ≤ 100000) ∧ ∀ l, PyData.str (tx m) = .str (tx l) → rd l = none := by
    intro m h1 h2
    constructor
    · intro l e
      rw [← tx_inj (PyData.str.inj e)]
      exact h1
    · intro l e
      rw [← tx_inj (PyData.str.inj e)]
      exact h2
  simp only [bads1, List.mem_cons, List.not_mem_nil, or_false] at hd
  rcases hd with rfl | rfl | rfl | rfl | rfl | rfl | rfl
  · exact ⟨fun l e => by (cases e), fun l e => by (cases e)⟩
  · exact ⟨fun l e => by (cases e), fun l e => by (cases e)⟩
  · exact ⟨fun l e => by (cases e), fun l e => by (cases e)⟩
  · exact one (by simp) rfl
  · exact one (by simp) rfl
  · exact one (by simp) rfl
  · exact one (by simp) rfl
end M53

namespace K53
open PySem PySem.Spec PyProof.Rows L2 KX M53
local macro_rules | `(tactic| walk_at "kx1") => `(tactic| first
  | (with_reducible refine q_seq ?_) | (with_reducible refine q_ifs ?_) | (with_reducible refine q_asg ?_) | (with_reducible refine q_gname ?_) | (with_reducible refine q_ret ?_)
  | (with_reducible refine q_drop ?_) | (with_reducible refine q_next ?_) | (with_reducible refine q_par ?_) | (with_reducible refine q_sfld ?_) | (with_reducible refine q_rs ?_) | (with_reducible refine q_gsub ?_) | (with_reducible refine q_retN ?_)
  | ((with_reducible show tVar _ _ _ _); (refine q_var rfl ?_)) | (with_reducible refine q_c ?_) | (with_reducible refine q_op ?_) | (with_reducible refine q_un ?_) | (with_reducible refine q_neg ?_) | (with_reducible refine q_cb ?_)
  | (with_reducible refine q_nil ?_) | (with_reducible refine q_cons ?_) | (with_reducible refine q_tup ?_) | (with_reducible refine q_lst ?_) | (with_reducible refine q_if ?_)
  | (with_reducible refine q_notT ?_) | (with_reducible refine q_call ?_) | (with_reducible refine q_callS ?_) | (with_reducible refine q_fld ?_)
  | (with_reducible refine q_bm ?_) | (with_reducible refine q_bm0 ?_) | (with_reducible refine q_sl ?_) | (with_reducible refine q_nopart ?_) | (with_reducible refine q_part ?_) | (with_reducible refine q_meth ?_) | (with_reducible refine q_make ?_)
  | (with_reducible refine q_test ?_) | (with_reducible refine q_tB ?_) | (with_reducible refine q_tru ?_) | (with_reducible refine q_not ?_)
  | (with_reducible refine q_blk ?_) | (with_reducible refine q_tv ?_) | (with_reducible refine q_addI ?_) | (with_reducible refine q_subI ?_) | (with_reducible refine q_eqI ?_) | (with_reducible refine q_neI ?_)
  | (with_reducible refine q_for ?_) | (with_reducible refine q_lc ?_) | (with_reducible refine q_iList ?_) | (with_reducible refine q_iTup ?_) | (with_reducible refine q_iStr ?_) | (with_reducible refine q_iRng1 ?_) | (with_reducible refine q_iRng2 ?_) | (with_reducible refine q_iRng3 ?_) | (with_reducible refine q_gcons ?_) | (with_reducible refine q_gnil ?_) | (with_reducible refine q_yes ?_) | (with_reducible refine q_ltI ?_) | (with_reducible refine q_iEnumS ?_) | (with_reducible refine q_pi ?_) | (with_reducible refine q_leI ?_) | (with_reducible refine q_gtI ?_) | (with_reducible refine q_geI ?_) | (with_reducible refine q_leT ?_) | (with_reducible refine q_intI ?_) | (with_reducible refine q_abs ?_) | (with_reducible refine q_eqT ?_) | (with_reducible refine q_neT ?_) | (with_reducible refine q_par3 ?_) | (with_reducible refine q_isN ?_) | (with_reducible refine q_notN ?_))
local macro_rules | `(tactic| walk_at "kx") => `(tactic| repeat walk_at "kx1")
local macro_rules | `(tactic| walk_at "kxs") => `(tactic| repeat (first | walk_at "kx1" | (with_reducible refine q_andT ?_) | (with_reducible refine q_orT ?_) | (with_reducible refine q_chain ?_) | (with_reducible refine q_and ?_) | (with_reducible refine q_or ?_)))
local macro_rules | `(tactic| walk_at "lits") => `(tactic| simp only [lit_0, lit_1, lit_2, lit_3, lit_4, lit_5, lit_6, lit_7, lit_8, lit_9, lit_10, lit_11, lit_12, lit_13, lit_14, lit_15, lit_16, lit_17, lit_18, lit_19, lit_20, lit_21, lit_22, lit_23, lit_24, lit_25, lit_26])

section
variable {P : Program} {w : World} {K : PySem.W.Frag} {mg : Str → Option Value} {base : Heap} {CM : Addr}
def spLaw (K : PySem.W.Frag) : Sp := fun vs H Q _ => ∃ (a : Addr) (ns : List Int), vs = [.ref a] ∧ SqL K H a (ns.map V.int) ∧ ns.length ≤ 63 ∧ ∀ H', Q (.bl true) H'
theorem q_neOne {H : Hp} {Q : VK} {a b : Addr} {t : List Nat} (h1 : H a = some (.lst [.str (tx t)])) (h2 : H b = some (.lst [.str (tx t)])) (ht : ∀ c ∈ t, c < 128) (q : Q (.bl false) H) : rNeU K (.ref a) (.ref b) H Q := by
  have hc : (PyData.list [.str (tx t)]).canLay0 = true := by
    simp only [PyData.canLay0, PyData.canLayAll0, Bool.and_true]
    exact txt_ok ht
  refine .inr ⟨.list [.str (tx t)], .list [.str (tx t)], .lst (SqL.of h1) (.cons (.str _) .nil), .lst (SqL.of h2) (.cons (.str _) .nil), hc, hc, ?_, ?_⟩
  · simp only [PyData.depth, PyData.depthAll]
    decide
  · have : PyData.eqv (.list [.str (tx t)]) (.list [.str (tx t)]) = true := by
      simp only [PyData.eqv, PyData.eqvAll, beq_self_eq_true, Bool.and_self]
    rw [this]
    exact q
theorem q_reprOne {H : Hp} {Q : VK} {a : Addr} {v : V} {d : PyData} (h : H a = some (.lst [v])) (hv : Dp K H v d) (h1 : d.showable = true) (h2 : d.hasDict = false) (h3 : d.depth ≤ 122) (h4 : d.shown.length ≤ 88000) (q : Q (.str (PyData.list [d]).shown) H) : rRepr K [.ref a] H Q := by
  refine .inr ⟨a, .list [d], rfl, .lst (SqL.of h) (.cons hv .nil), ?_, ?_, ?_, ?_, q⟩
  · simp only [PyData.showable, PyData.showableAll, h1, Bool.and_self]
  · simp only [PyData.hasDict, PyData.hasDictAll, h2, Bool.or_self]
  · simp only [PyData.depth, PyData.depthAll]
    omega
  · rw [shown_one, sizeLine_eq]
    omega
theorem q_neSame {H : Hp} {Q : VK} {s : Str} (q : Q (.bl false) H) : rNeU K (.str s) (.str s) H Q := by
  refine q_neS rfl ?_
  rw [decide_eq_true rfl]
  exact q
theorem dpa_getV {H : Hp} : ∀ {ds : List PyData} {vs : List V} {i : Nat} {v : V}, DpAll K H vs ds → vs[i]? = some v → ∃ d, ds[i]? = some d ∧ Dp K H v d
  | [], _, i, v, h, e => by cases h; simp at e
  | d :: ds, _, i, v, h, e => by
    cases h with
    | cons a b =>
      cases i with
      | zero => simp at e; subst e; exact ⟨d, rfl, a⟩
      | succ i =>
        obtain ⟨d', h1, h2⟩ := dpa_getV (i := i) b (by simpa using e)
        exact ⟨d', by simpa using h1, h2⟩
mutual
theorem strOk_wr : ∀ (d : PyData) {k : Nat} {t : List Nat}, wr k d = some t → t.length ≤ sizeLine → M53.strOk d = true
  | .tuple ds, k, t, h, hl => by
    obtain ⟨k', ts, rfl, h1, rfl⟩ := wr_tup h
    simp only [M53.strOk]
    simp only [List.length_cons, List.length_append, List.length_nil] at hl
    exact strOks_wr ds h1 (by omega)
  | .none, k, t, h, hl => by simp only [M53.strOk]
  | .bool _, k, t, h, hl => by simp only [M53.strOk]
  | .int _, k, t, h, hl => by simp only [M53.strOk]
  | .list _, k, t, h, hl => by simp only [M53.strOk]
  | .dict _, k, t, h, hl => by simp only [M53.strOk]
  | .str s, k, t, h, hl => by
    simp only [M53.strOk, decide_eq_true_eq]
    rw [wr_atom rfl, atom_str] at h
    split at h
    · rename_i e
      rw [← tx_of s, e]
      exact Nat.zero_le _
    · split at h
      · cases h
        rw [← tx_of s, tx_len]
        exact hl
      · cases h
theorem strOks_wr : ∀ (ds : List PyData) {k : Nat} {ts : List (List Nat)}, wrs k ds = some ts → (comma ts).length ≤ sizeLine → M53.strOks ds = true
  | [], k, ts, h, hl => by simp only [M53.strOks]
  | d :: ds, k, ts, h, hl => by
    rw [wrs_cons] at h
    cases h1 : wr k d with
    | none => rw [h1] at h; cases h
    | some t =>
      cases h2 : wrs k ds with
      | none => rw [h1, h2] at h; cases h
      | some us =>
        rw [h1, h2] at h
        cases h
        simp only [M53.strOks, Bool.and_eq_true]
        have hl : (comma (t :: us)).length ≤ sizeLine := hl
        by_cases z : us = []
        · subst z
          have hz := wrs_len h2
          have : ds = [] := List.length_eq_zero_iff.mp hz.symm
          subst this
          exact ⟨strOk_wr d h1 hl, by simp only [M53.strOks]⟩
        · rw [comma_cons z, List.length_append, List.length_cons] at hl
          exact ⟨strOk_wr d h1 (by omega), strOks_wr ds h2 (by omega)⟩
end
structure LawDefs (P : Program) (w : World) (K : PySem.W.Frag) (mg : Str → Option Value) (base : Heap) (f1 f2 f3 f4 f5 f6 : Addr) (d1 d2 d3 d4 d5 d6 : FuncData) : Prop where
  D__law_draw : DefAt K mg "_law_draw" s__law_draw f1 d1 ["script"]
  G__law_draw : FnOk P w K mg base CX0 1 f1 d1 ["script"] (spDraw K)
  D__law_take : DefAt K mg "_law_take" s__law_take f2 d2 ["draw", "many"]
  G__law_take : FnOk P w K mg base CX0 1 f2 d2 ["draw", "many"] spTake
  D__law_data : DefAt K mg "_law_data" s__law_data f3 d3 ["draw", "deep"]
  G__law_data : FnOk P w K mg base CX0 7 f3 d3 ["draw", "deep"] (spLD K 5)
  D__law_written : DefAt K mg "_law_written" s__law_written f4 d4 ["data"]
  G__law_written : FnOk P w K mg base CX0 124 f4 d4 ["data"] (spLw K 122)
  D__law_read : DefAt K mg "_law_read" s__law_read f5 d5 ["text"]
  G__law_read : FnOk P w K mg base CX0 2 f5 d5 ["text"] (spLr K)
  D__law_told : DefAt K mg "_law_told" s__law_told f6 d6 ["which", "value"]
  G__law_told : FnOk P w K mg base CX0 5 f6 d6 ["which", "value"] (spTold K)
/-- one text with one sign changed -/
theorem dp_one {H : Hp} {vs : List V} {d : PyData} (h : DpAll K H vs [d]) : ∃ v, vs = [v] ∧ Dp K H v d := by
  cases h with
  | cons a b => cases b; exact ⟨_, rfl, a⟩
theorem run_law {f f1 f2 f3 f4 f5 f6 : Addr} {fd d1 d2 d3 d4 d5 d6 : FuncData} (F : Fun K "law" "law" s_law f fd) (T : Txt K mg CM) (nd : base.NoDigits) (LL : LawDefs P w K mg base f1 f2 f3 f4 f5 f6 d1 d2 d3 d4 d5 d6) : RunG P w K mg base CX0 125 f fd ["script"] (spLaw K) := by
  obtain ⟨D__law_draw, G__law_draw, D__law_take, G__law_take, D__law_data, G__law_data, D__law_written, G__law_written, D__law_read, G__law_read, D__law_told, G__law_told⟩ := LL
  refine runG F sc_law (fun vs H Q E h => ?_) (fun cdv A outer s H vs Q E hr hgu h => ?_)
  · obtain ⟨a, ns, rfl, _⟩ := h
    rfl
  · obtain ⟨a, ns, rfl, ha, hn, q⟩ := h
    have hu := u65 hr
    have hu4 : (A.deeper (envOfC "law" (defScope s_law) s.heap.objs.size f cdv)).units + 400 < cLine := by
      have := hr.un
      omega
    have hs0 := sizeLine_eq
    refine ⟨_, (pss_cons (ps_set (i := 1) sc_law.nd rfl (Or.inl rfl) (pe_call G__law_draw (hr.mono (by decide)) rfl D__law_draw.g D__law_draw.kp D__law_draw.b .nil pass0 (pa_cons (pv 0) pa_nil)))
      (pss_cons (ps_for PassesOwn.never rfl (pi_range1 rfl T.b_range (pa_cons pe_int pa_nil)) (pg_name (i := 2) sc_law.nd rfl (Or.inl rfl)) (pss_cons (ps_set (i := 3) sc_law.nd rfl (Or.inl rfl) (pe_call G__law_data (hr.mono (by decide)) rfl D__law_data.g D__law_data.kp D__law_data.b .nil pass0 (pa_cons (pv 1) (pa_cons pe_int pa_nil))))
      (pss_cons (ps_set (i := 4) sc_law.nd rfl (Or.inl rfl) (pe_call G__law_written (hr.mono (by decide)) rfl D__law_written.g D__law_written.kp D__law_written.b .nil pass0 (pa_cons (pv 3) pa_nil)))
      (pss_cons (ps_if (PW.pt (pw_or (pt_cmpR (w_ne (K := K) hu) (pe_call G__law_told (hr.mono (by decide)) rfl D__law_told.g D__law_told.kp D__law_told.b .nil pass0 (pa_cons pe_int (pa_cons (pv 3) pa_nil))) (pe_lst (pa_cons (pv 4) pa_nil)) (nomark _)) (pw_or1 (pt_cmpR (w_ne (K := K) hu) (pe_callB (w_repr (K := K) hu4 hgu) rfl T.b_repr bb_repr (pa_cons (pe_call G__law_told (hr.mono (by decide)) rfl D__law_told.g D__law_told.kp D__law_told.b .nil pass0 (pa_cons pe_int (pa_cons (pv 4) pa_nil))) pa_nil)) (pe_callB (w_repr (K := K) hu4 hgu) rfl T.b_repr bb_repr (pa_cons (pe_lst (pa_cons (pv 3) pa_nil)) pa_nil)) (nomark _))))) (pss_one (ps_ret pe_bl)) pss_nil)
      (pss_one (ps_for PassesOwn.never rfl (pi_range1 rfl T.b_range (pa_cons pe_int pa_nil)) (pg_name (i := 5) sc_law.nd rfl (Or.inl rfl)) (pss_cons (ps_par (i := 6) (j := 7) rfl sc_law.nd rfl rfl (by decide) rfl rfl (pa_cons (pe_call G__law_take (hr.mono (by decide)) rfl D__law_take.g D__law_take.kp D__law_take.b .nil pass0 (pa_cons (pv 1) (pa_cons (pe_op (w_add (K := K)) (pe_callB (w_len (K := K)) rfl T.b_len bb_len (pa_cons (pv 4) pa_nil)) pe_int) pa_nil))) (pa_cons (pe_ix (w_ix (K := K)) pe_str (pe_call G__law_take (hr.mono (by decide)) rfl D__law_take.g D__law_take.kp D__law_take.b .nil pass0 (pa_cons (pv 1) (pa_cons pe_int pa_nil))) (fun _ _ => rfl)) pa_nil)) (by rfl))
      (pss_one (ps_for PassesOwn.never rfl (w_ilist (K := K) (pe_lst (pa_cons (pe_op (w_add (K := K)) (pe_op (w_add (K := K)) (pe_slice (w_sl (K := K)) (pv 4) po_none (po_some (pv 6))) (pv 7)) (pe_slice (w_sl (K := K)) (pv 4) (po_some (pv 6)) po_none)) (pa_cons (pe_op (w_add (K := K)) (pe_slice (w_sl (K := K)) (pv 4) po_none (po_some (pv 6))) (pe_slice (w_sl (K := K)) (pv 4) (po_some (pe_op (w_add (K := K)) (pv 6) pe_int)) po_none)) (pa_cons (pe_op (w_add (K := K)) (pe_op (w_add (K := K)) (pe_slice (w_sl (K := K)) (pv 4) po_none (po_some (pv 6))) (pv 7)) (pe_slice (w_sl (K := K)) (pv 4) (po_some (pe_op (w_add (K := K)) (pv 6) pe_int)) po_none)) pa_nil))))) (pg_name (i := 8) sc_law.nd rfl (Or.inl rfl)) (pss_cons (ps_set (i := 9) sc_law.nd rfl (Or.inl rfl) (pe_call G__law_read (hr.mono (by decide)) rfl D__law_read.g D__law_read.kp D__law_read.b .nil pass0 (pa_cons (pv 8) pa_nil)))
      (pss_one (ps_if (pt_cmpR (w_ne (K := K) hu) (pe_callB (w_repr (K := K) hu4 hgu) rfl T.b_repr bb_repr (pa_cons (pe_call G__law_told (hr.mono (by decide)) rfl D__law_told.g D__law_told.kp D__law_told.b .nil pass0 (pa_cons pe_int (pa_cons (pv 8) pa_nil))) pa_nil)) (pe_callB (w_repr (K := K) hu4 hgu) rfl T.b_repr bb_repr (pa_cons (pe_ifExp (PW.pt (pw_and (pt_cmp (pc_notN (pv 9))) (pw_and1 (pt_cmpR (w_eq (K := K) hu) (pe_call G__law_written (hr.mono (by decide)) rfl D__law_written.g D__law_written.kp D__law_written.b .nil pass0 (pa_cons (pe_ix (w_ix (K := K)) (pv 9) pe_int (fun _ _ => rfl)) pa_nil)) (pv 8) (nomark _))))) (pv 9) pe_non) pa_nil)) (nomark _)) (pss_one (ps_ret pe_bl)) pss_nil))))))))))))
      (pss_cons (ps_for PassesOwn.never rfl (w_ilist (K := K) (pe_lst (pa_cons pe_non (pa_cons pe_str (pa_cons pe_str (pa_cons pe_str (pa_cons pe_str (pa_cons pe_str (pa_cons (pe_lst (pa_cons pe_int pa_nil)) (pa_cons (pe_tup (pa_cons pe_int (pa_cons pe_non pa_nil))) (pa_cons (pe_tup (pa_cons (pe_tup (pa_cons pe_non pa_nil)) pa_nil)) (pa_cons (pe_lst (pa_cons pe_str pa_nil)) (pa_cons (pe_tup (pa_cons pe_str (pa_cons (pe_lst pa_nil) pa_nil))) (pa_cons pe_str (pa_cons (pe_tup (pa_cons pe_str pa_nil)) pa_nil))))))))))))))) (pg_name (i := 10) sc_law.nd rfl (Or.inl rfl)) (pss_one (ps_if (pt_cmp (pc_notN (pe_call G__law_told (hr.mono (by decide)) rfl D__law_told.g D__law_told.kp D__law_told.b .nil pass0 (pa_cons pe_int (pa_cons (pv 10) pa_nil))))) (pss_one (ps_ret pe_bl)) pss_nil)))
      (pss_cons (ps_set (i := 11) sc_law.nd rfl (Or.inl rfl) (pe_op k_mul pe_str pe_int))
      (pss_cons (ps_if (PW.pt (pw_or (pt_cmpR (w_ne (K := K) hu) (pe_call G__law_told (hr.mono (by decide)) rfl D__law_told.g D__law_told.kp D__law_told.b .nil pass0 (pa_cons pe_int (pa_cons (pe_callTy (kx_int nd) rfl T.b_int bb_int (pa_cons (pv 11) pa_nil)) pa_nil))) (pe_lst (pa_cons (pv 11) pa_nil)) (nomark _)) (pw_or (pt_cmp (pc_isN (pe_call G__law_told (hr.mono (by decide)) rfl D__law_told.g D__law_told.kp D__law_told.b .nil pass0 (pa_cons pe_int (pa_cons (pe_op (w_add (K := K)) pe_str (pv 11)) pa_nil))))) (pw_or (pt_cmp (pc_notN (pe_call G__law_told (hr.mono (by decide)) rfl D__law_told.g D__law_told.kp D__law_told.b .nil pass0 (pa_cons pe_int (pa_cons (pe_op (w_add (K := K)) (pv 11) pe_str) pa_nil))))) (pw_or1 (pt_cmp (pc_notN (pe_call G__law_told (hr.mono (by decide)) rfl D__law_told.g D__law_told.kp D__law_told.b .nil pass0 (pa_cons pe_int (pa_cons (pe_op (w_add (K := K)) (pe_callTy (kx_int nd) rfl T.b_int bb_int (pa_cons (pv 11) pa_nil)) pe_int) pa_nil)))))))))) (pss_one (ps_ret pe_bl)) pss_nil)
      (pss_cons (ps_set (i := 12) sc_law.nd rfl (Or.inl rfl) (pe_tup pa_nil))
      (pss_cons (ps_for PassesOwn.never rfl (pi_range1 rfl T.b_range (pa_cons pe_int pa_nil)) (pg_name (i := 2) sc_law.nd rfl (Or.inl rfl)) (pss_one (ps_set (i := 12) sc_law.nd rfl (Or.inl rfl) (pe_tup (pa_cons (pv 12) pa_nil)))))
      (pss_cons (ps_if (PW.pt (pw_or (pt_cmpR (w_ne (K := K) hu) (pe_call G__law_told (hr.mono (by decide)) rfl D__law_told.g D__law_told.kp D__law_told.b .nil pass0 (pa_cons pe_int (pa_cons (pv 12) pa_nil))) (pe_lst (pa_cons (pe_op (w_add (K := K)) (pe_op k_mul pe_str pe_int) (pe_op k_mul pe_str pe_int)) pa_nil)) (nomark _)) (pw_or (pt_cmp (pc_notN (pe_call G__law_told (hr.mono (by decide)) rfl D__law_told.g D__law_told.kp D__law_told.b .nil pass0 (pa_cons pe_int (pa_cons (pe_tup (pa_cons (pv 12) pa_nil)) pa_nil))))) (pw_or1 (pt_cmp (pc_notN (pe_call G__law_told (hr.mono (by decide)) rfl D__law_told.g D__law_told.kp D__law_told.b .nil pass0 (pa_cons pe_int (pa_cons (pe_op (w_add (K := K)) (pe_op k_mul pe_str pe_int) (pe_op k_mul pe_str pe_int)) pa_nil))))))))) (pss_one (ps_ret pe_bl)) pss_nil)
      (pss_one (ps_ret (w_and (K := K) (pe_cmp (pc_notN (pe_call G__law_told (hr.mono (by decide)) rfl D__law_told.g D__law_told.kp D__law_told.b .nil pass0 (pa_cons pe_int (pa_cons (pe_op (w_add (K := K)) (pe_op k_mul pe_str pe_int) (pe_op k_mul pe_str pe_int)) pa_nil))))) (pe_one (pe_cmpR (w_eq (K := K) hu) (pe_lc (own := [("value", 13)]) rfl sc_law.nd (w_ilist (K := K) (pe_lst (pa_cons pe_non (pa_cons pe_int (pa_cons (pe_tup (pa_cons pe_int pa_nil)) (pa_cons pe_str (pa_cons pe_str (pa_cons pe_str (pa_cons pe_str pa_nil))))))))) (blkOk_by (N := n_law) (sc := defScope s_law) (by decide +kernel)) (fun _ _ _ _ _ => (pg_name (i := 13) sc_law.nd rfl (Or.inl rfl))) (fun _ _ _ _ _ => pts_nil) (fun _ _ _ _ _ => (pe_call G__law_told (hr.mono (by decide)) rfl D__law_told.g D__law_told.kp D__law_told.b .nil pass0 (pa_cons pe_int (pa_cons (pv 13) pa_nil))))) (pe_op k_mul (pe_lst (pa_cons pe_non pa_nil)) pe_int) (nomark _)))))))))))))), ?_⟩
    walk_at "lits"
    walk_at "kx"
    refine ⟨a, ns, rfl, ha, hn, fun r p H1 nr x1 hd1 => ?_⟩
    walk_at "kx"
    refine ⟨4, rfl, by decide, by decide, ?_⟩
    refine fo_range (fun i σ H' => ∃ o2 o3 o4 o5 o6 o7 o8 o9 : Option V, σ = [some (.ref a), some (.ref r), o2, o3, o4, o5, o6, o7, o8, o9, none, none, none, none] ∧ Drw H' r p (i * 2000)) ⟨none, none, none, none, none, none, none, none, rfl, by rw [Nat.zero_mul]; exact hd1⟩ ?_ ?_
    · rintro i σ H2 hi ⟨o2, o3, o4, o5, o6, o7, o8, o9, rfl, hd2⟩
      have hi : i < 4 := hi
      have c5 : cst 5 = 1577 := rfl
      walk_at "kx"
      refine ⟨r, p, i * 2000, rfl, hd2, by omega, fun v d H3 b3 hd3 hv hgd => ?_⟩
      obtain ⟨t, hw, tok⟩ := gd_wr 5 d hgd
      have ot := oth_self tok
      have tl := ot.len
      have hdep := depth_le d hw
      have hct := ot.cnt
      have hw1 : wr 122 d = some t := wr_depth d hw (by omega)
      have hw2 : wr 1000 d = some t := wr_depth d hw (by omega)
      have hrd := rd_of_wr hw2
      obtain ⟨_, _, g1, g2, g3, g4, _⟩ := oth_good ot hrd
      have hsm := wr_small d hw
      walk_at "kx"
      refine ⟨v, d, t, rfl, hv, hw1, by omega, fun H4 e4 => ?_⟩
      have hd4 := hd3.ex e4
      have hv4 := dp_ex e4 hv
      refine q_gname ?_
      have hsz := sz_le d hw
      have hsk : M53.strOk d = true := strOk_wr d hw (by omega)
      with_reducible refine q_seqK (fun σ H5 => σ = [some (.ref a), some (.ref r), some (.int ((0 : Int) + (i : Nat))), some v, some (.str (tx t)), o5, o6, o7, o8, o9, none, none, none, none] ∧ Drw H5 r p (i * 2000 + cst 5)) ?_ ?_
      rotate_left
      · intro N qN
        walk_at "kx"
        refine q_or ?_
        walk_at "kx"
        refine ⟨false, v, d, rfl, hv4, fun _ => ⟨hsk, by omega, (fun z => by rw [hw2] at z; cases z), fun t' ht' => ?_⟩, fun z => by cases z⟩
        rw [hw2] at ht'
        cases ht'
        refine ⟨by omega, fun p5 H5 e5 hp5 => ?_⟩
        walk_at "kx"
        refine ⟨sml rfl, fun p6 np6 => ?_⟩
        have n56 : p5 ≠ p6 := ne_of_none hp5 np6
        refine q_neOne (by rw [upd_ne n56]; exact hp5) upd_same hsm ?_
        have e6 := e5.trans (Evl.Ex.new np6 (o := .lst [.str (tx t)]))
        generalize upd H5 p6 (.lst [.str (tx t)]) = H6 at e6
        walk_at "kx"
        refine ifF rfl ?_
        walk_at "kx"
        refine ⟨true, .str (tx t), .str (tx t), rfl, .str _, (fun z => by cases z), fun _ => ⟨fun l el => by rw [← tx_inj (PyData.str.inj el)]; omega, fun l d' el ed p7 v7 H7 e7 hp7 hv7 => ?_, fun z => by have := z t rfl; rw [hrd] at this; cases this⟩⟩
        have el := tx_inj (PyData.str.inj el)
        subst el
        rw [hrd] at ed
        cases ed
        walk_at "kx"
        refine q_reprOne hp7 hv7 g1 g2 g3 g4 ?_
        walk_at "kx"
        refine ⟨sml rfl, fun p8 np8 => ?_⟩
        have e8 := (e6.trans e7).trans (Evl.Ex.new np8 (o := .lst [v]))
        walk_at "kx"
        refine q_reprOne upd_same (dp_ex e8 hv4) g1 g2 g3 g4 ?_
        refine q_neSame ?_
        walk_at "kx"
        refine ifF rfl ?_
        walk_at "kx"
        exact qN _ _ ⟨rfl, hd4.ex e8⟩
      · rintro σ H5 ⟨rfl, hd5⟩
        walk_at "kx"
        refine ⟨8, rfl, by decide, by decide, ?_⟩
        refine fo_range (fun j σ H' => ∃ o5 o6 o7 o8 o9 : Option V, σ = [some (.ref a), some (.ref r), some (.int ((0 : Int) + (i : Nat))), some v, some (.str (tx t)), o5, o6, o7, o8, o9, none, none, none, none] ∧ Drw H' r p (i * 2000 + cst 5 + 2 * j)) ⟨_, _, _, _, _, rfl, hd5⟩ ?_ ?_
        · rintro j σ H6 hj ⟨o5, o6, o7, o8, o9, rfl, hd6⟩
          have hj : j < 8 := hj
          walk_at "kx"
          refine q_lenS (by omega) ?_
          walk_at "kx"
          refine ⟨r, p, t.length + 1, _, rfl, by omega, by omega, hd6, by omega, fun H7 c hc b7 hd7 => ?_⟩
          walk_at "kx"
          refine ⟨r, p, 11, _, rfl, by decide, by decide, hd7, by omega, fun H8 g hg b8 hd8 => ?_⟩
          obtain ⟨sg, hsg, hs59⟩ : ∃ sg, ([91, 93, 44, 97, 48, 45, 49, 32, 65, 43, 46] : List Nat)[g]? = some sg ∧ sg ≠ 59 := by
            have : g = 0 ∨ g = 1 ∨ g = 2 ∨ g = 3 ∨ g = 4 ∨ g = 5 ∨ g = 6 ∨ g = 7 ∨ g = 8 ∨ g = 9 ∨ g = 10 := by omega
            rcases this with rfl | rfl | rfl | rfl | rfl | rfl | rfl | rfl | rfl | rfl | rfl <;> exact ⟨_, rfl, by decide⟩
          refine q_ixS (sml rfl) hsg ?_
          walk_at "kx"
          refine ⟨_, _, rfl, ?_⟩
          have hts : t.length ≤ sizeLine := by omega
          have hc : c ≤ t.length := by omega
          have lt : (t.take c).length ≤ 11000 := by rw [List.length_take]; omega
          have ld : (t.drop c).length ≤ 11000 := by rw [List.length_drop]; omega
          have ld1 : (t.drop (c + 1)).length ≤ 11000 := by rw [List.length_drop]; omega
          walk_at "kx"
          refine q_slTo c hts ?_
          walk_at "kx"
          refine q_addS (by simp only [List.length_cons, List.length_nil]; omega) ?_
          walk_at "kx"
          refine q_slFrom c hts ?_
          refine q_addS (by simp only [List.length_append, List.length_cons, List.length_nil]; omega) ?_
          walk_at "kx"
          refine q_slTo c hts ?_
          walk_at "kx"
          refine q_slFrom (c + 1) hts ?_
          refine q_addS (by omega) ?_
          walk_at "kx"
          refine q_slTo c hts ?_
          walk_at "kx"
          refine q_addS (by simp only [List.length_cons, List.length_nil]; omega) ?_
          walk_at "kx"
          refine q_slFrom (c + 1) hts ?_
          refine q_addS (by simp only [List.length_append, List.length_cons, List.length_nil]; omega) ?_
          walk_at "kx"
          refine ⟨sml rfl, fun l9 n9 => ?_⟩
          have e9 := Evl.Ex.new n9 (o := .lst [.str (tx (t.take c ++ [sg] ++ t.drop c)), .str (tx (t.take c ++ t.drop (c + 1))), .str (tx (t.take c ++ [sg] ++ t.drop (c + 1)))])
          have h9 : upd H8 l9 (.lst [.str (tx (t.take c ++ [sg] ++ t.drop c)), .str (tx (t.take c ++ t.drop (c + 1))), .str (tx (t.take c ++ [sg] ++ t.drop (c + 1)))]) l9 = _ := upd_same
          have hd9 := hd8.ex e9
          generalize upd H8 l9 (.lst [.str (tx (t.take c ++ [sg] ++ t.drop c)), .str (tx (t.take c ++ t.drop (c + 1))), .str (tx (t.take c ++ [sg] ++ t.drop (c + 1)))]) = H9 at e9 h9 hd9
          have ot1 : Oth (t.take c ++ [sg] ++ t.drop c) := oth_of (q := []) tok (by rw [List.append_nil, List.take_append_drop]) (by simp) (by simpa using Ne.symm hs59)
          have et : t = t.take c ++ (t.drop c).take 1 ++ t.drop (c + 1) := by
            rw [List.append_assoc]
            have : (t.drop c).take 1 ++ t.drop (c + 1) = t.drop c := by
              have := List.take_append_drop 1 (t.drop c)
              rw [List.drop_drop] at this
              exact this
            rw [this, List.take_append_drop]
          have ot2 : Oth (t.take c ++ t.drop (c + 1)) := by
            have := oth_of (m := []) tok et (by simp) (by simp)
            rw [List.append_nil] at this
            exact this
          have ot3 : Oth (t.take c ++ [sg] ++ t.drop (c + 1)) := oth_of tok et (by simp) (by simpa using Ne.symm hs59)
          have hall : ∀ (k : Nat) (x : V), [V.str (tx (t.take c ++ [sg] ++ t.drop c)), .str (tx (t.take c ++ t.drop (c + 1))), .str (tx (t.take c ++ [sg] ++ t.drop (c + 1)))][k]? = some x → ∃ o, x = .str (tx o) ∧ Oth o := by
            intro k x hx
            have := List.mem_of_getElem? hx
            simp only [List.mem_cons, List.not_mem_nil, or_false] at this
            rcases this with rfl | rfl | rfl
            · exact ⟨_, rfl, ot1⟩
            · exact ⟨_, rfl, ot2⟩
            · exact ⟨_, rfl, ot3⟩
          generalize hxs : [V.str (tx (t.take c ++ [sg] ++ t.drop c)), .str (tx (t.take c ++ t.drop (c + 1))), .str (tx (t.take c ++ [sg] ++ t.drop (c + 1)))] = xs at h9 hall
          refine ⟨l9, rfl, ⟨_, SqL.of h9⟩, ?_⟩
          refine fo_list (xs := xs) (fun k σ H' => ∃ o8 o9 : Option V, σ = [some (.ref a), some (.ref r), some (.int ((0 : Int) + (i : Nat))), some v, some (.str (tx t)), some (.int ((0 : Int) + (j : Nat))), some (.int (c : Nat)), some (.str (tx [sg])), o8, o9, none, none, none, none] ∧ Ex H9 H') ⟨_, _, rfl, Evl.Ex.refl _⟩ ?_ ?_ ?_
          · rintro k σ H' hk ⟨o8, o9, rfl, x'⟩
            exact SqL.of (x' _ _ h9)
          · rintro k x σ H10 hx ⟨o8, o9, rfl, x10⟩
            obtain ⟨o, rfl, oo⟩ := hall k x hx
            have ol := oo.len
            walk_at "kx"
            refine ⟨o, rfl, by omega, fun a b c e hb => Nat.le_trans (oo.runs a b c e hb) (by decide), fun hlr H11 e11 => ?_, fun ds hlr pd vd H11 e11 hpd hdd => ?_⟩
            · have hrd : rd o = none := by
                cases hr : rd o with
                | none => rfl
                | some d' =>
                  have := (oth_good oo hr).2.2.2.2.2.2
                  rw [this] at hlr
                  cases hlr
              walk_at "kx"
              refine ⟨true, .str (tx o), .str (tx o), rfl, .str _, (fun z => by cases z), fun _ => ⟨fun l el => by rw [← tx_inj (PyData.str.inj el)]; omega, fun l d' el ed => ?_, fun z H12 e12 => ?_⟩⟩
              · have el := tx_inj (PyData.str.inj el)
                subst el
                rw [hrd] at ed
                cases ed
              · walk_at "kx"
                refine .inl ⟨rfl, ?_⟩
                refine q_and ?_
                walk_at "kx"
                refine ifF rfl (ifF rfl ?_)
                walk_at "kx"
                refine .inl ⟨rfl, ?_⟩
                refine q_neSame ?_
                walk_at "kx"
                refine ifF rfl ?_
                walk_at "kx"
                exact ⟨_, _, rfl, (x10.trans e11).trans e12⟩
            · obtain ⟨d', hrd, ed⟩ : ∃ d', rd o = some d' ∧ ds = [d'] := by
                cases hr : rd o with
                | none =>
                  rw [oth_none oo hr] at hlr
                  cases hlr
                | some d' =>
                  have := (oth_good oo hr).2.2.2.2.2.2
                  rw [this] at hlr
                  cases hlr
                  exact ⟨d', rfl, rfl⟩
              subst ed
              obtain ⟨vv, rfl, hvv⟩ := dp_one hdd
              obtain ⟨w1, w2, s1, s2, s3, s4, _⟩ := oth_good oo hrd
              walk_at "kx"
              refine ⟨true, .str (tx o), .str (tx o), rfl, .str _, (fun z => by cases z), fun _ => ⟨fun l el => by rw [← tx_inj (PyData.str.inj el)]; omega, fun l d2 el ed p12 v12 H12 e12 hp12 hv12 => ?_, fun z => by have := z o rfl; rw [hrd] at this; cases this⟩⟩
              have el := tx_inj (PyData.str.inj el)
              subst el
              rw [hrd] at ed
              cases ed
              walk_at "kx"
              refine q_reprOne hp12 hv12 s1 s2 s3 s4 ?_
              refine q_and ?_
              walk_at "kx"
              refine ifY rfl ?_
              walk_at "kx"
              refine q_ixL (SqL.of (e12 _ _ hpd)) (i := 0) rfl ?_
              walk_at "kx"
              refine ⟨vv, d', o, rfl, dp_ex e12 hvv, w2, by omega, fun H13 e13 => ?_⟩
              walk_at "kx"
              refine ifY (decide_eq_true rfl) ?_
              walk_at "kx"
              refine q_reprOne (e13 _ _ (e12 _ _ hpd)) (dp_ex (e12.trans e13) hvv) s1 s2 s3 s4 ?_
              refine q_neSame ?_
              walk_at "kx"
              refine ifF rfl ?_
              walk_at "kx"
              exact ⟨_, _, rfl, ((x10.trans e11).trans e12).trans e13⟩
          · rintro σ H10 ⟨o8, o9, rfl, x10⟩
            refine ⟨_, _, _, _, _, rfl, ?_⟩
            have := hd9.ex x10
            have e2 : i * 2000 + cst 5 + 2 * j + 1 + 1 = i * 2000 + cst 5 + 2 * (j + 1) := by omega
            rw [e2] at this
            exact this
        · rintro σ H6 ⟨o5, o6, o7, o8, o9, rfl, hd6⟩
          refine ⟨_, _, _, _, _, _, _, _, rfl, hd6.mono ?_⟩
          have : (8 : Int).toNat = 8 := rfl
          omega
    · rintro σ H2 ⟨o2, o3, o4, o5, o6, o7, o8, o9, rfl, _⟩
      walk_at "kx"
      refine ⟨sml rfl, fun p1 n1 => ?_⟩
      have x1 := Evl.Ex.new n1 (o := .lst [.int 1])
      have h1 : upd H2 p1 (.lst [.int 1]) p1 = some (.lst [.int 1]) := upd_same
      generalize upd H2 p1 (.lst [.int 1]) = A1 at x1 h1
      walk_at "kx"
      refine ⟨sml rfl, fun p2 n2 => ?_⟩
      have x2 := Evl.Ex.new n2 (o := .tup [.int 1, .non])
      have h2 : upd A1 p2 (.tup [.int 1, .non]) p2 = some (.tup [.int 1, .non]) := upd_same
      generalize upd A1 p2 (.tup [.int 1, .non]) = A2 at x2 h2
      walk_at "kx"
      refine ⟨sml rfl, fun p3 n3 => ?_⟩
      have x3 := Evl.Ex.new n3 (o := .tup [.non])
      have h3 : upd A2 p3 (.tup [.non]) p3 = some (.tup [.non]) := upd_same
      generalize upd A2 p3 (.tup [.non]) = A3 at x3 h3
      walk_at "kx"
      refine ⟨sml rfl, fun p4 n4 => ?_⟩
      have x4 := Evl.Ex.new n4 (o := .tup [.ref p3])
      have h4 : upd A3 p4 (.tup [.ref p3]) p4 = some (.tup [.ref p3]) := upd_same
      generalize upd A3 p4 (.tup [.ref p3]) = A4 at x4 h4
      walk_at "kx"
      refine ⟨sml rfl, fun p5 n5 => ?_⟩
      have x5 := Evl.Ex.new n5 (o := .lst [.str (tx [97])])
      have h5 : upd A4 p5 (.lst [.str (tx [97])]) p5 = some (.lst [.str (tx [97])]) := upd_same
      generalize upd A4 p5 (.lst [.str (tx [97])]) = A5 at x5 h5
      walk_at "kx"
      refine ⟨sml rfl, fun p6 n6 => ?_⟩
      have x6 := Evl.Ex.new n6 (o := .lst [])
      have h6 : upd A5 p6 (.lst []) p6 = some (.lst []) := upd_same
      generalize upd A5 p6 (.lst []) = A6 at x6 h6
      walk_at "kx"
      refine ⟨sml rfl, fun p7 n7 => ?_⟩
      have x7 := Evl.Ex.new n7 (o := .tup [.str (tx [97]), .ref p6])
      have h7 : upd A6 p7 (.tup [.str (tx [97]), .ref p6]) p7 = some (.tup [.str (tx [97]), .ref p6]) := upd_same
      generalize upd A6 p7 (.tup [.str (tx [97]), .ref p6]) = A7 at x7 h7
      walk_at "kx"
      refine ⟨sml rfl, fun p8 n8 => ?_⟩
      have x8 := Evl.Ex.new n8 (o := .tup [.str (tx [93])])
      have h8 : upd A7 p8 (.tup [.str (tx [93])]) p8 = some (.tup [.str (tx [93])]) := upd_same
      generalize upd A7 p8 (.tup [.str (tx [93])]) = A8 at x8 h8
      walk_at "kx"
      refine ⟨sml rfl, fun p9 n9 => ?_⟩
      have x9 := Evl.Ex.new n9 (o := .lst [.non, .str (tx [65]), .str (tx [43]), .str (tx [97, 32, 98]), .str (tx [57, 97]), .str (tx [97, 98, 99, 100, 101, 102, 103, 104, 105, 106, 107, 108, 109]), .ref p1, .ref p2, .ref p4, .ref p5, .ref p7, .str (tx [93]), .ref p8])
      have h9 : upd A8 p9 (.lst [.non, .str (tx [65]), .str (tx [43]), .str (tx [97, 32, 98]), .str (tx [57, 97]), .str (tx [97, 98, 99, 100, 101, 102, 103, 104, 105, 106, 107, 108, 109]), .ref p1, .ref p2, .ref p4, .ref p5, .ref p7, .str (tx [93]), .ref p8]) p9 = some (.lst [.non, .str (tx [65]), .str (tx [43]), .str (tx [97, 32, 98]), .str (tx [57, 97]), .str (tx [97, 98, 99, 100, 101, 102, 103, 104, 105, 106, 107, 108, 109]), .ref p1, .ref p2, .ref p4, .ref p5, .ref p7, .str (tx [93]), .ref p8]) := upd_same
      generalize upd A8 p9 (.lst [.non, .str (tx [65]), .str (tx [43]), .str (tx [97, 32, 98]), .str (tx [57, 97]), .str (tx [97, 98, 99, 100, 101, 102, 103, 104, 105, 106, 107, 108, 109]), .ref p1, .ref p2, .ref p4, .ref p5, .ref p7, .str (tx [93]), .ref p8]) = A9 at x9 h9
      have y8 := x9
      have y7 := x8.trans y8
      have y6 := x7.trans y7
      have y5 := x6.trans y6
      have y4 := x5.trans y5
      have y3 := x4.trans y4
      have y2 := x3.trans y3
      have y1 := x2.trans y2
      have hall : DpAll K A9 [.non, .str (tx [65]), .str (tx [43]), .str (tx [97, 32, 98]), .str (tx [57, 97]), .str (tx [97, 98, 99, 100, 101, 102, 103, 104, 105, 106, 107, 108, 109]), .ref p1, .ref p2, .ref p4, .ref p5, .ref p7, .str (tx [93]), .ref p8] bads := by
        refine .cons .non (.cons (.str _) (.cons (.str _) (.cons (.str _) (.cons (.str _) (.cons (.str _) (.cons ?_ (.cons ?_ (.cons ?_ (.cons ?_ (.cons ?_ (.cons (.str _) (.cons ?_ .nil))))))))))))
        · exact .lst (SqL.of (y1 _ _ h1)) (.cons (.int _) .nil)
        · exact .tup (SqT.of (y2 _ _ h2)) (.cons (.int _) (.cons .non .nil))
        · exact .tup (SqT.of (y4 _ _ h4)) (.cons (.tup (SqT.of (y3 _ _ h3)) (.cons .non .nil)) .nil)
        · exact .lst (SqL.of (y5 _ _ h5)) (.cons (.str _) .nil)
        · exact .tup (SqT.of (y7 _ _ h7)) (.cons (.str _) (.cons (.lst (SqL.of (y6 _ _ h6)) .nil) .nil))
        · exact .tup (SqT.of (y8 _ _ h8)) (.cons (.str _) .nil)
      clear x1 x2 x3 x4 x5 x6 x7 x8 x9 y1 y2 y3 y4 y5 y6 y7 y8 h1 h2 h3 h4 h5 h6 h7 h8
      refine ⟨p9, rfl, ⟨_, SqL.of h9⟩, ?_⟩
      refine fo_list (xs := [.non, .str (tx [65]), .str (tx [43]), .str (tx [97, 32, 98]), .str (tx [57, 97]), .str (tx [97, 98, 99, 100, 101, 102, 103, 104, 105, 106, 107, 108, 109]), .ref p1, .ref p2, .ref p4, .ref p5, .ref p7, .str (tx [93]), .ref p8]) (fun k σ H' => ∃ o10 : Option V, σ = [some (.ref a), some (.ref r), o2, o3, o4, o5, o6, o7, o8, o9, o10, none, none, none] ∧ Ex A9 H') ⟨_, rfl, Evl.Ex.refl _⟩ ?_ ?_ ?_
      · rintro k σ H' hk ⟨o10, rfl, x'⟩
        exact SqL.of (x' _ _ h9)
      · rintro k x σ H10 hx ⟨o10, rfl, x10⟩
        obtain ⟨d, hd, hdx⟩ := dpa_getV hall hx
        obtain ⟨b1, b2, b3⟩ := bads_no d (List.mem_of_getElem? hd)
        walk_at "kx"
        refine ⟨false, x, d, rfl, dp_ex x10 hdx, fun _ => ⟨b2, b3, fun _ H11 e11 => ?_, fun t ht => by rw [b1] at ht; cases ht⟩, fun z => by cases z⟩
        walk_at "kx"
        refine ifF rfl ?_
        walk_at "kx"
        exact ⟨_, rfl, x10.trans e11⟩
      · rintro σ H10 ⟨o10, rfl, _⟩
        walk_at "kx"
        refine .inr (.inr (.inl ⟨[57], 4000, rfl, rfl, by decide, by simp, by decide, ?_⟩))
        have e9 : (List.replicate 4000 [57]).flatten = L9 := List.flatten_replicate_singleton
        rw [e9]
        have e91 : (List.replicate 1000 [91]).flatten = List.replicate 1000 91 := List.flatten_replicate_singleton
        have e93 : (List.replicate 1000 [93]).flatten = List.replicate 1000 93 := List.flatten_replicate_singleton
        have e91' : (List.replicate 1001 [91]).flatten = List.replicate 1001 91 := List.flatten_replicate_singleton
        have e93' : (List.replicate 1001 [93]).flatten = List.replicate 1001 93 := List.flatten_replicate_singleton
        have l91 : ∀ n c : Nat, (List.replicate n c).length = n := fun n c => List.length_replicate
        have h9l := L9_len
        refine q_gname ?_
        with_reducible refine q_seqK (fun σ H5 => σ = [some (.ref a), some (.ref r), o2, o3, o4, o5, o6, o7, o8, o9, o10, some (.str (tx L9)), none, none]) ?_ ?_
        rotate_left
        · intro N qN
          walk_at "kx"
          refine q_or ?_
          walk_at "kx"
          refine .inr (.inr ⟨_, _, rfl, int_num' L9_ok, by rw [tx_len, h9l]; decide, ?_⟩)
          refine ⟨false, .int (numVal L9), .int (numVal L9), rfl, .int _, fun _ => ⟨rfl, by decide, (fun z => by rw [L9_wr] at z; cases z), fun t ht => ?_⟩, fun z => by cases z⟩
          rw [L9_wr] at ht
          cases ht
          refine ⟨by rw [h9l]; decide, fun p1 H11 e11 h11 => ?_⟩
          walk_at "kx"
          refine ⟨sml rfl, fun p2 n2 => ?_⟩
          have n12 : p1 ≠ p2 := ne_of_none h11 n2
          refine q_neOne (by rw [upd_ne n12]; exact h11) upd_same (fun c hc => by rw [show c = 57 from (List.mem_replicate.mp hc).2]; decide) ?_
          walk_at "kx"
          refine ifF rfl ?_
          refine q_or ?_
          walk_at "kx"
          refine q_addS (by rw [h9l]; simp only [List.length_cons, List.length_nil]; omega) ?_
          obtain ⟨d1, hd1⟩ := L9_neg
          refine ⟨true, .str (tx (45 :: L9)), .str (tx (45 :: L9)), rfl, .str _, (fun z => by cases z), fun _ => ⟨fun l el => by rw [← tx_inj (PyData.str.inj el), List.length_cons, h9l]; decide, fun l d2 el ed p3 v3 H12 e12 h12 hv => ?_, fun z => by have := z _ rfl; rw [hd1] at this; cases this⟩⟩
          walk_at "kx"
          refine ifF rfl ?_
          refine q_or ?_
          walk_at "kx"
          refine q_addS (by rw [h9l]; simp only [List.length_cons, List.length_nil]; omega) ?_
          refine ⟨true, .str (tx (L9 ++ [48])), .str (tx (L9 ++ [48])), rfl, .str _, (fun z => by cases z), fun _ => ⟨fun l el => by rw [← tx_inj (PyData.str.inj el), List.length_append, h9l]; decide, fun l d2 el ed => ?_, fun z H13 e13 => ?_⟩⟩
          · have el := tx_inj (PyData.str.inj el)
            subst el
            rw [L9_long] at ed
            cases ed
          walk_at "kx"
          refine ifF rfl ?_
          walk_at "kx"
          refine .inr (.inr ⟨_, _, rfl, int_num' L9_ok, by rw [tx_len, h9l]; decide, ?_⟩)
          walk_at "kx"
          refine ⟨false, .int (numVal L9 + 1), .int (numVal L9 + 1), rfl, .int _, fun _ => ⟨rfl, by decide, fun _ H14 e14 => ?_, fun t ht => by rw [L9_more] at ht; cases ht⟩, fun z => by cases z⟩
          walk_at "kx"
          refine ifF rfl ?_
          walk_at "kx"
          exact qN _ _ rfl
        · rintro σ H11 rfl
          have hbl : ∀ n, (brs n).length = 2 * n := brs_len
          have hsm : ∀ n, ∀ c ∈ brs n, c < 128 := fun n c hc => by
            rcases List.mem_append.mp hc with h | h
            · rw [(List.mem_replicate.mp h).2]; decide
            · rw [(List.mem_replicate.mp h).2]; decide
          have rep : ∀ (n c : Nat) (H : Hp) (Q : VK), 2 ≤ n → n ≤ 100000 → (List.replicate n [c]).flatten = List.replicate n c → Q (.str (tx (List.replicate n c))) H → rMulU (.str (tx [c])) (.int (n : Nat)) H Q := fun n c H Q h1 h2 e q =>
            .inr (.inr (.inl ⟨[c], n, rfl, rfl, h1, by simp, by simpa using h2, by rw [e]; exact q⟩))
          walk_at "kx"
          refine ⟨sml rfl, fun p np => ?_⟩
          have hdp : Dp K (upd H11 p (.tup [])) (.ref p) (nest 0) := .tup (SqT.of upd_same) .nil
          generalize upd H11 p (.tup []) = H12 at hdp
          walk_at "kx"
          refine ⟨999, rfl, by decide, by decide, ?_⟩
          refine fo_range (fun i σ H' => ∃ (o2 : Option V) (v : V), σ = [some (.ref a), some (.ref r), o2, o3, o4, o5, o6, o7, o8, o9, o10, some (.str (tx L9)), some v, none] ∧ Dp K H' v (nest i)) ⟨_, _, rfl, hdp⟩ ?_ ?_
          · rintro i σ H13 hi ⟨o2, v, rfl, hv⟩
            walk_at "kx"
            refine ⟨sml rfl, fun p np => ?_⟩
            walk_at "kx"
            exact ⟨_, _, rfl, .tup (SqT.of upd_same) (.cons (dp_ex (Evl.Ex.new np) hv) .nil)⟩
          · rintro σ H13 ⟨o2, v, rfl, hv⟩
            have hv : Dp K H13 v (nest 999) := hv
            have hs := nest_sz 999
            have hs2 := nest_sz 1000
            have hk := nest_ok 999
            have hk2 := nest_ok 1000
            have wn : wr 1000 (nest 999) = some (brs 1000) := wr_nest 999
            have wn2 : wr 1000 (nest 1000) = none := wr_nest_none 1000
            with_reducible refine q_seqK (fun σ H5 => ∃ (v : V), σ = [some (.ref a), some (.ref r), o2, o3, o4, o5, o6, o7, o8, o9, o10, some (.str (tx L9)), some v, none]) ?_ ?_
            rotate_left
            · intro N qN
              walk_at "kx"
              refine q_or ?_
              walk_at "kx"
              refine ⟨false, v, nest 999, rfl, hv, fun _ => ⟨hk.1, by omega, (fun z => by rw [wn] at z; cases z), fun t ht => ?_⟩, fun z => by cases z⟩
              rw [wn] at ht
              cases ht
              refine ⟨by rw [hbl]; decide, fun p1 H14 e14 h14 => ?_⟩
              walk_at "kx"
              refine rep 1000 91 _ _ (by decide) (by decide) e91 ?_
              walk_at "kx"
              refine rep 1000 93 _ _ (by decide) (by decide) e93 ?_
              refine q_addS (by rw [l91, l91]; omega) ?_
              walk_at "kx"
              refine ⟨sml rfl, fun p2 n2 => ?_⟩
              have n12 : p1 ≠ p2 := ne_of_none h14 n2
              refine q_neOne (t := brs 1000) (by rw [upd_ne n12]; exact h14) upd_same (hsm 1000) ?_
              have e15 := e14.trans (Evl.Ex.new n2 (o := .lst [V.str (tx (List.replicate 1000 91 ++ List.replicate 1000 93))]))
              generalize upd H14 p2 (.lst [V.str (tx (List.replicate 1000 91 ++ List.replicate 1000 93))]) = H15 at e15
              walk_at "kx"
              refine ifF rfl ?_
              refine q_or ?_
              walk_at "kx"
              refine ⟨sml rfl, fun p3 n3 => ?_⟩
              walk_at "kx"
              refine ⟨false, .ref p3, nest 1000, rfl, .tup (SqT.of upd_same) (.cons (dp_ex (e15.trans (Evl.Ex.new n3)) hv) .nil), fun _ => ⟨hk2.1, by omega, fun _ H16 e16 => ?_, fun t ht => by rw [wn2] at ht; cases ht⟩, fun z => by cases z⟩
              walk_at "kx"
              refine ifF rfl ?_
              walk_at "kx"
              refine rep 1001 91 _ _ (by decide) (by decide) e91' ?_
              walk_at "kx"
              refine rep 1001 93 _ _ (by decide) (by decide) e93' ?_
              refine q_addS (by rw [l91, l91]; omega) ?_
              walk_at "kx"
              refine ⟨true, .str (tx (brs 1001)), .str (tx (brs 1001)), rfl, .str _, (fun z => by cases z), fun _ => ⟨fun l el => by rw [← tx_inj (PyData.str.inj el), hbl]; decide, fun l d2 el ed => ?_, fun z H17 e17 => ?_⟩⟩
              · have el := tx_inj (PyData.str.inj el)
                subst el
                rw [rd_deeper] at ed
                cases ed
              walk_at "kx"
              refine ifF rfl ?_
              walk_at "kx"
              exact qN _ _ ⟨_, rfl⟩
            · rintro σ H14 ⟨v, rfl⟩
              walk_at "kx"
              refine q_andT ?_
              walk_at "kx"
              refine rep 1000 91 _ _ (by decide) (by decide) e91 ?_
              walk_at "kx"
              refine rep 1000 93 _ _ (by decide) (by decide) e93 ?_
              refine q_addS (by rw [l91, l91]; omega) ?_
              walk_at "kx"
              refine ⟨true, .str (tx (brs 1000)), .str (tx (brs 1000)), rfl, .str _, (fun z => by cases z), fun _ => ⟨fun l el => by rw [← tx_inj (PyData.str.inj el), hbl]; decide, fun l d2 el ed p1 v1 H15 e15 h15 hv15 => ?_, fun z => by have := z _ rfl; rw [rd_deep] at this; cases this⟩⟩
              walk_at "kx"
              refine ifY rfl ?_
              walk_at "kx"
              refine ⟨sml rfl, fun p2 n2 => ?_⟩
              have x2 := Evl.Ex.new n2 (o := .tup [.int 1])
              have h2 : upd H15 p2 (.tup [.int 1]) p2 = some (.tup [.int 1]) := upd_same
              generalize upd H15 p2 (.tup [.int 1]) = A2 at x2 h2
              walk_at "kx"
              refine ⟨sml rfl, fun p3 n3 => ?_⟩
              have x3 := Evl.Ex.new n3 (o := .lst [.non, .int 5, .ref p2, .str (tx []), .str (tx [91, 97, 93, 91, 98, 93]), .str (tx [97, 44, 98]), .str (tx [91, 97])])
              have h3 : upd A2 p3 (.lst [.non, .int 5, .ref p2, .str (tx []), .str (tx [91, 97, 93, 91, 98, 93]), .str (tx [97, 44, 98]), .str (tx [91, 97])]) p3 = some (.lst [.non, .int 5, .ref p2, .str (tx []), .str (tx [91, 97, 93, 91, 98, 93]), .str (tx [97, 44, 98]), .str (tx [91, 97])]) := upd_same
              generalize upd A2 p3 (.lst [.non, .int 5, .ref p2, .str (tx []), .str (tx [91, 97, 93, 91, 98, 93]), .str (tx [97, 44, 98]), .str (tx [91, 97])]) = A3 at x3 h3
              have hall : DpAll K A3 [.non, .int 5, .ref p2, .str (tx []), .str (tx [91, 97, 93, 91, 98, 93]), .str (tx [97, 44, 98]), .str (tx [91, 97])] bads1 := by
                refine .cons .non (.cons (.int _) (.cons (.tup (SqT.of (x3 _ _ h2)) (.cons (.int _) .nil)) (.cons (.str _) (.cons (.str _) (.cons (.str _) (.cons (.str _) .nil))))))
              refine ⟨p3, rfl, ⟨_, SqL.of h3⟩, ?_⟩
              refine lc_ev (walk_list (xs := [.non, .int 5, .ref p2, .str (tx []), .str (tx [91, 97, 93, 91, 98, 93]), .str (tx [97, 44, 98]), .str (tx [91, 97])])) (by show 7 ≤ 100000; decide) (fun i => ([.non, .int 5, .ref p2, .str (tx []), .str (tx [91, 97, 93, 91, 98, 93]), .str (tx [97, 44, 98]), .str (tx [91, 97])] : List V).getD i .non) (fun _ => .non) (fun H' e' => SqL.of (e' _ _ h3)) (fun i H1 x H2 hi y => ?_) (fun _ => rfl) (fun i hi => ?_) (fun p4 H16 n4 e16 h16 => ?_)
              · obtain ⟨rfl, e⟩ := y
                exact ⟨rfl, by rw [List.getD_eq_getElem?_getD, e]; rfl⟩
              · intro H1 e1 R rr
                obtain ⟨x, hx⟩ : ∃ x, ([.non, .int 5, .ref p2, .str (tx []), .str (tx [91, 97, 93, 91, 98, 93]), .str (tx [97, 44, 98]), .str (tx [91, 97])] : List V)[i]? = some x := ⟨_, List.getElem?_eq_getElem hi⟩
                obtain ⟨d, hd, hdx⟩ := dpa_getV hall hx
                obtain ⟨b1, b2⟩ := bads1_no d (List.mem_of_getElem? hd)
                have ex : ([.non, .int 5, .ref p2, .str (tx []), .str (tx [91, 97, 93, 91, 98, 93]), .str (tx [97, 44, 98]), .str (tx [91, 97])] : List V).getD i .non = x := by rw [List.getD_eq_getElem?_getD, hx]; rfl
                rw [ex]
                walk_at "kx"
                refine ⟨true, x, d, rfl, dp_ex e1 hdx, (fun z => by cases z), fun _ => ⟨b1, (fun l d2 el ed => by rw [b2 l el] at ed; cases ed), fun _ H17 e17 => rr H17 e17⟩⟩
              · walk_at "kx"
                refine ⟨sml rfl, fun p5 n5 => ?_⟩
                have n45 : p4 ≠ p5 := ne_of_none h16 n5
                have h17 : upd H16 p5 (.lst [.non]) p4 = _ := (upd_ne n45).trans h16
                have h5 : upd H16 p5 (.lst [.non]) p5 = some (.lst [.non]) := upd_same
                generalize upd H16 p5 (.lst [.non]) = A5 at h17 h5
                walk_at "kx"
                refine .inr (.inr (.inr ⟨p5, 7, [.non], rfl, rfl, h5, by decide, by decide, by decide, fun p6 n6 => ?_⟩))
                have n46 : p4 ≠ p6 := ne_of_none h17 n6
                have h18 : upd A5 p6 (.lst (List.replicate (7 : Int).toNat [V.non]).flatten) p4 = some (.lst [.non, .non, .non, .non, .non, .non, .non]) := (upd_ne n46).trans h17
                have h6 : upd A5 p6 (.lst (List.replicate (7 : Int).toNat [V.non]).flatten) p6 = some (.lst [.non, .non, .non, .non, .non, .non, .non]) := upd_same
                have nall : ∀ H : Hp, DpAll K H [.non, .non, .non, .non, .non, .non, .non] [.none, .none, .none, .none, .none, .none, .none] := fun H => .cons .non (.cons .non (.cons .non (.cons .non (.cons .non (.cons .non (.cons .non .nil))))))
                refine .inr ⟨.list [.none, .none, .none, .none, .none, .none, .none], .list [.none, .none, .none, .none, .none, .none, .none], .lst (SqL.of h18) (nall _), .lst (SqL.of h6) (nall _), by simp only [PyData.canLay0, PyData.canLayAll0, Bool.and_self], by simp only [PyData.canLay0, PyData.canLayAll0, Bool.and_self], by simp only [PyData.depth, PyData.depthAll]; decide, ?_⟩
                have ee : PyData.eqv (.list [.none, .none, .none, .none, .none, .none, .none]) (.list [.none, .none, .none, .none, .none, .none, .none]) = true := by simp only [PyData.eqv, PyData.eqvAll, Bool.and_self]
                rw [ee]
                exact q _
end
end K53

namespace K53
open PySem PySem.Spec PyProof.Rows L2 KX M53
/-- an entry of a dict, as a key and a value -/
def kvOf (e : DictEntry) : Option Str × Option V := ((match e.key with | .str x _ => some x | _ => none), match e.val with | .bool b => some (.bl b) | .str x _ => some (.str x) | _ => none)
theorem kvOf_key {e : DictEntry} {x : Str} {v : Option V} (h : kvOf e = (some x, v)) : ∃ t, e.key = .str x t := by
  unfold kvOf at h
  have h1 := congrArg Prod.fst h
  cases hk : e.key with
  | str y t =>
    rw [hk] at h1
    have : y = x := Option.some.inj h1
    exact ⟨t, by rw [this]⟩
  | _ => rw [hk] at h1; cases h1
theorem kvOf_val {e : DictEntry} {k : Option Str} {v : V} (h : kvOf e = (k, some v)) : RelV v e.val := by
  unfold kvOf at h
  have h1 := congrArg Prod.snd h
  cases hk : e.val with
  | str y t =>
    rw [hk] at h1
    have : V.str y = v := Option.some.inj h1
    subst this
    exact ⟨t, rfl⟩
  | bool b =>
    rw [hk] at h1
    have : V.bl b = v := Option.some.inj h1
    subst this
    rfl
  | _ => rw [hk] at h1; cases h1
theorem signs_mk {K : PySem.W.Frag} {w : World} {mg : Str → Option Value} {dS : Addr} {es : Array DictEntry} {n : Nat} (g : mg "SIGNS" = some (.ref dS)) (at_ : K.lookup dS = some ⟨.type "dict", none, .dict es n, #[]⟩) (lit : PySem.W.KeysLit w.params es.toList)
    (low : (dS == sysModules) = false) (kv : es.toList.map kvOf = [(some (tx [43]), some (.bl true)), (some (tx [45]), some (.bl false)), (some (tx [46]), some (.str (tx [])))]) : Signs K w mg dS := by
  obtain ⟨e1, e2, e3, el⟩ : ∃ e1 e2 e3, es.toList = [e1, e2, e3] := by
    match hl : es.toList with
    | [e1, e2, e3] => exact ⟨e1, e2, e3, rfl⟩
    | [] => rw [hl] at kv; cases kv
    | [_] => rw [hl] at kv; simp at kv
    | [_, _] => rw [hl] at kv; simp at kv
    | _ :: _ :: _ :: _ :: _ => rw [hl] at kv; simp at kv
  rw [el] at kv
  simp only [List.map_cons, List.map_nil, List.cons.injEq, and_true] at kv
  obtain ⟨k1, k2, k3⟩ := kv
  obtain ⟨t1, q1⟩ := kvOf_key k1
  obtain ⟨t2, q2⟩ := kvOf_key k2
  obtain ⟨t3, q3⟩ := kvOf_key k3
  have r1 := kvOf_val k1
  have r2 := kvOf_val k2
  have r3 := kvOf_val k3
  have is : ∀ {e : DictEntry} {a : List Nat} {t : Tok}, e.key = .str (tx a) t → ∀ l, e.key.isStr (tx l) = decide (a = l) := by
    intro e a t h l
    rw [h]
    show (tx a == tx l) = _
    by_cases z : a = l
    · subst z
      rw [beq_self_eq_true, decide_eq_true rfl]
    · rw [decide_eq_false z]
      exact beq_eq_false_iff_ne.mpr fun y => z (tx_inj y)
  have ns : ∀ l, PySem.W.nsIn K dS (tx l) = match [e1, e2, e3].find? (·.key.isStr (tx l)) with | some e => some (some e.val) | none => if [e1, e2, e3].any (·.refKey) then none else some none := by
    intro l
    unfold PySem.W.nsIn
    rw [at_]
    show (match es.toList.find? _ with | some e => some (some e.val) | none => if es.toList.any _ then none else some none) = _
    rw [el]
  have rk : ∀ {e : DictEntry} {a : Str} {t : Tok}, e.key = .str a t → e.refKey = false := by
    intro e a t h
    unfold DictEntry.refKey
    rw [h]
  have nr : [e1, e2, e3].any (·.refKey) = false := by
    simp only [List.any_cons, List.any_nil, rk q1, rk q2, rk q3, Bool.or_self]
  refine ⟨⟨_, g, rfl⟩, ⟨es, n, ⟨at_, lit, low⟩⟩, fun l h => ?_, fun l v h => ?_⟩
  · rw [ns, nr]
    unfold sgnV at h
    have n1 : ¬ [43] = l := fun z => by rw [if_pos z.symm] at h; cases h
    rw [if_neg (fun z => n1 z.symm)] at h
    have n2 : ¬ [45] = l := fun z => by rw [if_pos z.symm] at h; cases h
    rw [if_neg (fun z => n2 z.symm)] at h
    have n3 : ¬ [46] = l := fun z => by rw [if_pos z.symm] at h; cases h
    have : [e1, e2, e3].find? (·.key.isStr (tx l)) = none := by
      simp only [List.find?_cons, List.find?_nil, is q1, is q2, is q3, decide_eq_false n1, decide_eq_false n2, decide_eq_false n3]
    rw [this]
    rfl
  · rw [ns]
    unfold sgnV at h
    by_cases h1 : l = [43]
    · rw [if_pos h1] at h
      cases h
      have : [e1, e2, e3].find? (·.key.isStr (tx l)) = some e1 := by
        simp only [List.find?_cons, is q1, decide_eq_true h1.symm]
      rw [this]
      exact ⟨_, rfl, r1⟩
    · rw [if_neg h1] at h
      by_cases h2 : l = [45]
      · rw [if_pos h2] at h
        cases h
        have : [e1, e2, e3].find? (·.key.isStr (tx l)) = some e2 := by
          simp only [List.find?_cons, is q1, is q2, decide_eq_false (fun z => h1 z.symm : ¬ [43] = l), decide_eq_true h2.symm]
        rw [this]
        exact ⟨_, rfl, r2⟩
      · rw [if_neg h2] at h
        by_cases h3 : l = [46]
        · rw [if_pos h3] at h
          cases h
          have : [e1, e2, e3].find? (·.key.isStr (tx l)) = some e3 := by
            simp only [List.find?_cons, is q1, is q2, is q3, decide_eq_false (fun z => h1 z.symm : ¬ [43] = l), decide_eq_false (fun z => h2 z.symm : ¬ [45] = l), decide_eq_true h3.symm]
          rw [this]
          exact ⟨_, rfl, r3⟩
        · rw [if_neg h3] at h
          cases h

theorem all_mk {l : PySem.W.OpenLaw} {w : World} {K : PySem.W.Frag} {h : Heap} {mg : Str → Option Value} {fa C CM dS f1 f2 f3 f4 f5 f6 f7 f8 f9 f10 f11 f12 f13 f14 f15 f16 f17 f18 f19 f20 f21 f22 f23 f24 : Addr} (X : K.In h) (G : h.Ns mainGlobals mg) (hfa : mg "law" = some (.ref fa))
    {od1 an1 od2 an2 od3 an3 od4 an4 od5 an5 od6 an6 od7 an7 od8 an8 od9 an9 od10 an10 od11 an11 od12 an12 od13 an13 od14 an14 od15 an15 od16 an16 od17 an17 od18 an18 od19 an19 od20 an20 od21 an21 od22 an22 od23 an23 od24 an24 : Option Addr} {sl1 sl2 sl3 sl4 sl5 sl6 sl7 sl8 sl9 sl10 sl11 sl12 sl13 sl14 sl15 sl16 sl17 sl18 sl19 sl20 sl21 sl22 sl23 sl24 : Array (Option Value)} {oc1 kV1 dc1 pm1 cd1 ct1 oc2 kV2 dc2 pm2 cd2 ct2 oc3 kV3 dc3 pm3 cd3 ct3 oc4 kV4 dc4 pm4 cd4 ct4 oc5 kV5 dc5 pm5 cd5 ct5 oc6 kV6 dc6 pm6 cd6 ct6 oc7 kV7 dc7 pm7 cd7 ct7 oc8 kV8 dc8 pm8 cd8 ct8 oc9 kV9 dc9 pm9 cd9 ct9 oc10 kV10 dc10 pm10 cd10 ct10 oc11 kV11 dc11 pm11 cd11 ct11 oc12 kV12 dc12 pm12 cd12 ct12 oc13 kV13 dc13 pm13 cd13 ct13 oc14 kV14 dc14 pm14 cd14 ct14 oc15 kV15 dc15 pm15 cd15 ct15 oc16 kV16 dc16 pm16 cd16 ct16 oc17 kV17 dc17 pm17 cd17 ct17 oc18 kV18 dc18 pm18 cd18 ct18 oc19 kV19 dc19 pm19 cd19 ct19 oc20 kV20 dc20 pm20 cd20 ct20 oc21 kV21 dc21 pm21 cd21 ct21 oc22 kV22 dc22 pm22 cd22 ct22 oc23 kV23 dc23 pm23 cd23 ct23 oc24 kV24 dc24 pm24 cd24 ct24 : Value} {yMOST_WORD yMOST_DEPTH yMOST_DIGITS yLETTERS yDIGITS : Tok} {es : Array DictEntry} {n : Nat}
    (aC : PySem.W.nsIn K mainGlobals "DataReader" = some (some (.ref C)))
    (aM : PySem.W.nsIn K mainGlobals "Malformed" = some (some (.ref CM)))
    (aS : PySem.W.nsIn K mainGlobals "SIGNS" = some (some (.ref dS)))
    (a1 : PySem.W.nsIn K mainGlobals "is_whole" = some (some (.ref f1)))
    (l1 : K.lookup f1 = some ⟨oc1, od1, .func (PySem.W.fnOf "is_whole" "is_whole" (defArgs s_is_whole) (defBody s_is_whole) (defScope s_is_whole) .none kV1 dc1 pm1 an1 cd1 ct1), sl1⟩)
    (c1 : PySem.W.codeIn K cd1 "is_whole" = true)
    (k1 : PySem.W.keepIn K (.ref f1) = true)
    (a2 : PySem.W.nsIn K mainGlobals "is_word" = some (some (.ref f2)))
    (l2 : K.lookup f2 = some ⟨oc2, od2, .func (PySem.W.fnOf "is_word" "is_word" (defArgs s_is_word) (defBody s_is_word) (defScope s_is_word) .none kV2 dc2 pm2 an2 cd2 ct2), sl2⟩)
    (c2 : PySem.W.codeIn K cd2 "is_word" = true)
    (k2 : PySem.W.keepIn K (.ref f2) = true)
    (a3 : PySem.W.nsIn K mainGlobals "is_short" = some (some (.ref f3)))
    (l3 : K.lookup f3 = some ⟨oc3, od3, .func (PySem.W.fnOf "is_short" "is_short" (defArgs s_is_short) (defBody s_is_short) (defScope s_is_short) .none kV3 dc3 pm3 an3 cd3 ct3), sl3⟩)
    (c3 : PySem.W.codeIn K cd3 "is_short" = true)
    (k3 : PySem.W.keepIn K (.ref f3) = true)
    (a4 : PySem.W.nsIn K mainGlobals "atom_text" = some (some (.ref f4)))
    (l4 : K.lookup f4 = some ⟨oc4, od4, .func (PySem.W.fnOf "atom_text" "atom_text" (defArgs s_atom_text) (defBody s_atom_text) (defScope s_atom_text) .none kV4 dc4 pm4 an4 cd4 ct4), sl4⟩)
    (c4 : PySem.W.codeIn K cd4 "atom_text" = true)
    (k4 : PySem.W.keepIn K (.ref f4) = true)
    (a5 : PySem.W.nsIn K mainGlobals "write_data" = some (some (.ref f5)))
    (l5 : K.lookup f5 = some ⟨oc5, od5, .func (PySem.W.fnOf "write_data" "write_data" (defArgs s_write_data) (defBody s_write_data) (defScope s_write_data) .none kV5 dc5 pm5 an5 cd5 ct5), sl5⟩)
    (c5 : PySem.W.codeIn K cd5 "write_data" = true)
    (k5 : PySem.W.keepIn K (.ref f5) = true)
    (a6 : PySem.W.nsIn K mainGlobals "read_whole" = some (some (.ref f6)))
    (l6 : K.lookup f6 = some ⟨oc6, od6, .func (PySem.W.fnOf "read_whole" "read_whole" (defArgs s_read_whole) (defBody s_read_whole) (defScope s_read_whole) .none kV6 dc6 pm6 an6 cd6 ct6), sl6⟩)
    (c6 : PySem.W.codeIn K cd6 "read_whole" = true)
    (k6 : PySem.W.keepIn K (.ref f6) = true)
    (a7 : PySem.W.nsIn K mainGlobals "read_atom" = some (some (.ref f7)))
    (l7 : K.lookup f7 = some ⟨oc7, od7, .func (PySem.W.fnOf "read_atom" "read_atom" (defArgs s_read_atom) (defBody s_read_atom) (defScope s_read_atom) .none kV7 dc7 pm7 an7 cd7 ct7), sl7⟩)
    (c7 : PySem.W.codeIn K cd7 "read_atom" = true)
    (k7 : PySem.W.keepIn K (.ref f7) = true)
    (a8 : PySem.W.nsIn K mainGlobals "pieces_of" = some (some (.ref f8)))
    (l8 : K.lookup f8 = some ⟨oc8, od8, .func (PySem.W.fnOf "pieces_of" "pieces_of" (defArgs s_pieces_of) (defBody s_pieces_of) (defScope s_pieces_of) .none kV8 dc8 pm8 an8 cd8 ct8), sl8⟩)
    (c8 : PySem.W.codeIn K cd8 "pieces_of" = true)
    (k8 : PySem.W.keepIn K (.ref f8) = true)
    (a9 : PySem.W.nsIn K mainGlobals "read_data" = some (some (.ref f9)))
    (l9 : K.lookup f9 = some ⟨oc9, od9, .func (PySem.W.fnOf "read_data" "read_data" (defArgs s_read_data) (defBody s_read_data) (defScope s_read_data) .none kV9 dc9 pm9 an9 cd9 ct9), sl9⟩)
    (c9 : PySem.W.codeIn K cd9 "read_data" = true)
    (k9 : PySem.W.keepIn K (.ref f9) = true)
    (a10 : PySem.W.nsIn K mainGlobals "_law_draw" = some (some (.ref f10)))
    (l10 : K.lookup f10 = some ⟨oc10, od10, .func (PySem.W.fnOf "_law_draw" "_law_draw" (defArgs s__law_draw) (defBody s__law_draw) (defScope s__law_draw) .none kV10 dc10 pm10 an10 cd10 ct10), sl10⟩)
    (c10 : PySem.W.codeIn K cd10 "_law_draw" = true)
    (k10 : PySem.W.keepIn K (.ref f10) = true)
    (a11 : PySem.W.nsIn K mainGlobals "_law_take" = some (some (.ref f11)))
    (l11 : K.lookup f11 = some ⟨oc11, od11, .func (PySem.W.fnOf "_law_take" "_law_take" (defArgs s__law_take) (defBody s__law_take) (defScope s__law_take) .none kV11 dc11 pm11 an11 cd11 ct11), sl11⟩)
    (c11 : PySem.W.codeIn K cd11 "_law_take" = true)
    (k11 : PySem.W.keepIn K (.ref f11) = true)
    (a12 : PySem.W.nsIn K mainGlobals "_law_data" = some (some (.ref f12)))
    (l12 : K.lookup f12 = some ⟨oc12, od12, .func (PySem.W.fnOf "_law_data" "_law_data" (defArgs s__law_data) (defBody s__law_data) (defScope s__law_data) .none kV12 dc12 pm12 an12 cd12 ct12), sl12⟩)
    (c12 : PySem.W.codeIn K cd12 "_law_data" = true)
    (k12 : PySem.W.keepIn K (.ref f12) = true)
    (a13 : PySem.W.nsIn K mainGlobals "_law_word" = some (some (.ref f13)))
    (l13 : K.lookup f13 = some ⟨oc13, od13, .func (PySem.W.fnOf "_law_word" "_law_word" (defArgs s__law_word) (defBody s__law_word) (defScope s__law_word) .none kV13 dc13 pm13 an13 cd13 ct13), sl13⟩)
    (c13 : PySem.W.codeIn K cd13 "_law_word" = true)
    (k13 : PySem.W.keepIn K (.ref f13) = true)
    (a14 : PySem.W.nsIn K mainGlobals "_law_written" = some (some (.ref f14)))
    (l14 : K.lookup f14 = some ⟨oc14, od14, .func (PySem.W.fnOf "_law_written" "_law_written" (defArgs s__law_written) (defBody s__law_written) (defScope s__law_written) .none kV14 dc14 pm14 an14 cd14 ct14), sl14⟩)
    (c14 : PySem.W.codeIn K cd14 "_law_written" = true)
    (k14 : PySem.W.keepIn K (.ref f14) = true)
    (a15 : PySem.W.nsIn K mainGlobals "_law_number" = some (some (.ref f15)))
    (l15 : K.lookup f15 = some ⟨oc15, od15, .func (PySem.W.fnOf "_law_number" "_law_number" (defArgs s__law_number) (defBody s__law_number) (defScope s__law_number) .none kV15 dc15 pm15 an15 cd15 ct15), sl15⟩)
    (c15 : PySem.W.codeIn K cd15 "_law_number" = true)
    (k15 : PySem.W.keepIn K (.ref f15) = true)
    (a16 : PySem.W.nsIn K mainGlobals "_law_read" = some (some (.ref f16)))
    (l16 : K.lookup f16 = some ⟨oc16, od16, .func (PySem.W.fnOf "_law_read" "_law_read" (defArgs s__law_read) (defBody s__law_read) (defScope s__law_read) .none kV16 dc16 pm16 an16 cd16 ct16), sl16⟩)
    (c16 : PySem.W.codeIn K cd16 "_law_read" = true)
    (k16 : PySem.W.keepIn K (.ref f16) = true)
    (a17 : PySem.W.nsIn K mainGlobals "_law_told" = some (some (.ref f17)))
    (l17 : K.lookup f17 = some ⟨oc17, od17, .func (PySem.W.fnOf "_law_told" "_law_told" (defArgs s__law_told) (defBody s__law_told) (defScope s__law_told) .none kV17 dc17 pm17 an17 cd17 ct17), sl17⟩)
    (c17 : PySem.W.codeIn K cd17 "_law_told" = true)
    (k17 : PySem.W.keepIn K (.ref f17) = true)
    (a18 : PySem.W.nsIn K mainGlobals "law" = some (some (.ref f18)))
    (l18 : K.lookup f18 = some ⟨oc18, od18, .func (PySem.W.fnOf "law" "law" (defArgs s_law) (defBody s_law) (defScope s_law) .none kV18 dc18 pm18 an18 cd18 ct18), sl18⟩)
    (c18 : PySem.W.codeIn K cd18 "law" = true)
    (k18 : PySem.W.keepIn K (.ref f18) = true)
    (a19 : PySem.W.findIn K (.ref C) "__init__" = some (some (.ref f19)))
    (i19 : PySem.W.isFn K (.ref f19) = true)
    (l19 : K.lookup f19 = some ⟨oc19, od19, .func (PySem.W.fnOf "__init__" "DataReader.__init__" (defArgs s_DataReader___init__) (defBody s_DataReader___init__) (defScope s_DataReader___init__) .none kV19 dc19 pm19 an19 cd19 ct19), sl19⟩)
    (c19 : PySem.W.codeIn K cd19 "DataReader.__init__" = true)
    (k19 : PySem.W.keepIn K (.ref f19) = true)
    (a20 : PySem.W.findIn K (.ref C) "item" = some (some (.ref f20)))
    (i20 : PySem.W.isFn K (.ref f20) = true)
    (l20 : K.lookup f20 = some ⟨oc20, od20, .func (PySem.W.fnOf "item" "DataReader.item" (defArgs s_DataReader_item) (defBody s_DataReader_item) (defScope s_DataReader_item) .none kV20 dc20 pm20 an20 cd20 ct20), sl20⟩)
    (c20 : PySem.W.codeIn K cd20 "DataReader.item" = true)
    (k20 : PySem.W.keepIn K (.ref f20) = true)
    (a21 : PySem.W.findIn K (.ref C) "open_one" = some (some (.ref f21)))
    (i21 : PySem.W.isFn K (.ref f21) = true)
    (l21 : K.lookup f21 = some ⟨oc21, od21, .func (PySem.W.fnOf "open_one" "DataReader.open_one" (defArgs s_DataReader_open_one) (defBody s_DataReader_open_one) (defScope s_DataReader_open_one) .none kV21 dc21 pm21 an21 cd21 ct21), sl21⟩)
    (c21 : PySem.W.codeIn K cd21 "DataReader.open_one" = true)
    (k21 : PySem.W.keepIn K (.ref f21) = true)
    (a22 : PySem.W.findIn K (.ref C) "close_one" = some (some (.ref f22)))
    (i22 : PySem.W.isFn K (.ref f22) = true)
    (l22 : K.lookup f22 = some ⟨oc22, od22, .func (PySem.W.fnOf "close_one" "DataReader.close_one" (defArgs s_DataReader_close_one) (defBody s_DataReader_close_one) (defScope s_DataReader_close_one) .none kV22 dc22 pm22 an22 cd22 ct22), sl22⟩)
    (c22 : PySem.W.codeIn K cd22 "DataReader.close_one" = true)
    (k22 : PySem.W.keepIn K (.ref f22) = true)
    (a23 : PySem.W.findIn K (.ref C) "comma" = some (some (.ref f23)))
    (i23 : PySem.W.isFn K (.ref f23) = true)
    (l23 : K.lookup f23 = some ⟨oc23, od23, .func (PySem.W.fnOf "comma" "DataReader.comma" (defArgs s_DataReader_comma) (defBody s_DataReader_comma) (defScope s_DataReader_comma) .none kV23 dc23 pm23 an23 cd23 ct23), sl23⟩)
    (c23 : PySem.W.codeIn K cd23 "DataReader.comma" = true)
    (k23 : PySem.W.keepIn K (.ref f23) = true)
    (a24 : PySem.W.findIn K (.ref C) "take" = some (some (.ref f24)))
    (i24 : PySem.W.isFn K (.ref f24) = true)
    (l24 : K.lookup f24 = some ⟨oc24, od24, .func (PySem.W.fnOf "take" "DataReader.take" (defArgs s_DataReader_take) (defBody s_DataReader_take) (defScope s_DataReader_take) .none kV24 dc24 pm24 an24 cd24 ct24), sl24⟩)
    (c24 : PySem.W.codeIn K cd24 "DataReader.take" = true)
    (k24 : PySem.W.keepIn K (.ref f24) = true)
    (pgC : PySem.W.plainGet K C Str.empty = true)
    (hdC : PySem.W.hasDictIn K C = true)
    (poC : PySem.W.plainOver K C = true)
    (saC : PySem.W.findIn K (.ref C) "__setattr__" = some (some (.builtin "object.__setattr__")))
    (mkC : PySem.W.makesIn K C = true)
    (kcC : PySem.W.keepIn K (.ref C) = true)
    (n1 : PySem.W.findIn K (.ref C) "tuples" = some none)
    (n2 : PySem.W.findIn K (.ref C) "ready" = some none)
    (n3 : PySem.W.findIn K (.ref C) "told" = some none)
    (xM : PySem.W.excIn K CM [.type "ValueError", .type "Exception", .type "BaseException", .type "object"] "ValueError.__new__" = true)
    (kM : PySem.W.keepIn K (.ref CM) = true)
    (bM : PySem.W.subIn K (.ref CM) (.type "BaseException") = some true)
    (tM : PySem.W.typeIn K (.ref CM) = some (.type "type"))
    (hM : PySem.W.hasDictIn K CM = true)
    (sM : PySem.W.subIn K (.ref CM) (.ref CM) = some true)
    (z_isinstance : PySem.W.nsIn K mainGlobals "isinstance" = some none)
    (z_int : PySem.W.nsIn K mainGlobals "int" = some none)
    (z_bool : PySem.W.nsIn K mainGlobals "bool" = some none)
    (z_str : PySem.W.nsIn K mainGlobals "str" = some none)
    (z_tuple : PySem.W.nsIn K mainGlobals "tuple" = some none)
    (z_len : PySem.W.nsIn K mainGlobals "len" = some none)
    (z_all : PySem.W.nsIn K mainGlobals "all" = some none)
    (z_any : PySem.W.nsIn K mainGlobals "any" = some none)
    (z_abs : PySem.W.nsIn K mainGlobals "abs" = some none)
    (z_range : PySem.W.nsIn K mainGlobals "range" = some none)
    (z_repr : PySem.W.nsIn K mainGlobals "repr" = some none)
    (z_enumerate : PySem.W.nsIn K mainGlobals "enumerate" = some none)
    (y_MOST_WORD : PySem.W.nsIn K mainGlobals "MOST_WORD" = some (some (.int 12 yMOST_WORD)))
    (y_MOST_DEPTH : PySem.W.nsIn K mainGlobals "MOST_DEPTH" = some (some (.int 1000 yMOST_DEPTH)))
    (y_MOST_DIGITS : PySem.W.nsIn K mainGlobals "MOST_DIGITS" = some (some (.int 4000 yMOST_DIGITS)))
    (y_LETTERS : PySem.W.nsIn K mainGlobals "LETTERS" = some (some (.str "abcdefghijklmnopqrstuvwxyz" yLETTERS)))
    (y_DIGITS : PySem.W.nsIn K mainGlobals "DIGITS" = some (some (.str "0123456789" yDIGITS)))
    (dAt : K.lookup dS = some ⟨.type "dict", none, .dict es n, #[]⟩)
    (dLit : PySem.W.KeysLit w.params es.toList)
    (dLow : (dS == sysModules) = false)
    (dKV : es.toList.map kvOf = [(some (tx [43]), some (.bl true)), (some (tx [45]), some (.bl false)), (some (tx [46]), some (.str (tx [])))]) :
    ∃ fd : FuncData, (∀ (s : Shared) (v : Value), BindsTo s fd ⟨[v], []⟩ [("script", v)]) ∧ ∀ base : Heap, K.In base → base.Ns mainGlobals mg → base.NoDigits → RunG l.prog w K mg base CX0 125 fa fd ["script"] (spLaw K) := by
  have e := hfa.symm.trans (PySem.W.mg_of X G a18)
  cases e
  have xm : ExcAt K mg "Malformed" CM := ⟨xM, PySem.W.mg_of X G aM, kM, bM, tM, PySem.W.exm_ref bM hM tM sM⟩
  have T : Txt K mg CM := { x_Malformed := xm, b_isinstance := PySem.W.mg_none_of X G z_isinstance, b_int := PySem.W.mg_none_of X G z_int, b_bool := PySem.W.mg_none_of X G z_bool, b_str := PySem.W.mg_none_of X G z_str, b_tuple := PySem.W.mg_none_of X G z_tuple, b_len := PySem.W.mg_none_of X G z_len, b_all := PySem.W.mg_none_of X G z_all, b_any := PySem.W.mg_none_of X G z_any, b_abs := PySem.W.mg_none_of X G z_abs, b_range := PySem.W.mg_none_of X G z_range, b_repr := PySem.W.mg_none_of X G z_repr, b_enumerate := PySem.W.mg_none_of X G z_enumerate, g_MOST_WORD := ⟨_, PySem.W.mg_of X G y_MOST_WORD, ⟨_, rfl⟩⟩, g_MOST_DEPTH := ⟨_, PySem.W.mg_of X G y_MOST_DEPTH, ⟨_, rfl⟩⟩, g_MOST_DIGITS := ⟨_, PySem.W.mg_of X G y_MOST_DIGITS, ⟨_, rfl⟩⟩, g_LETTERS := ⟨_, PySem.W.mg_of X G y_LETTERS, ⟨_, rfl⟩⟩, g_DIGITS := ⟨_, PySem.W.mg_of X G y_DIGITS, ⟨_, rfl⟩⟩ }
  have S : Signs K w mg dS := signs_mk (PySem.W.mg_of X G aS) dAt dLit dLow dKV
  have RT : RdT K C := ⟨⟨pgC, hdC, poC, saC⟩, n1, n2, n3⟩
  have F1 := fun_mk (st := s_is_whole) l1 c1 k1
  have b1 := F1.binds (ps := ["value"]) fun _ _ _ _ _ _ us hl => match us, hl with | [_], _ => rfl
  have D_is_whole : DefAt K mg "is_whole" s_is_whole f1 _ ["value"] := ⟨F1, PySem.W.mg_of X G a1, b1⟩
  have F2 := fun_mk (st := s_is_word) l2 c2 k2
  have b2 := F2.binds (ps := ["value"]) fun _ _ _ _ _ _ us hl => match us, hl with | [_], _ => rfl
  have D_is_word : DefAt K mg "is_word" s_is_word f2 _ ["value"] := ⟨F2, PySem.W.mg_of X G a2, b2⟩
  have F3 := fun_mk (st := s_is_short) l3 c3 k3
  have b3 := F3.binds (ps := ["value"]) fun _ _ _ _ _ _ us hl => match us, hl with | [_], _ => rfl
  have D_is_short : DefAt K mg "is_short" s_is_short f3 _ ["value"] := ⟨F3, PySem.W.mg_of X G a3, b3⟩
  have F4 := fun_mk (st := s_atom_text) l4 c4 k4
  have b4 := F4.binds (ps := ["value"]) fun _ _ _ _ _ _ us hl => match us, hl with | [_], _ => rfl
  have D_atom_text : DefAt K mg "atom_text" s_atom_text f4 _ ["value"] := ⟨F4, PySem.W.mg_of X G a4, b4⟩
  have F5 := fun_mk (st := s_write_data) l5 c5 k5
  have b5 := F5.binds (ps := ["data"]) fun _ _ _ _ _ _ us hl => match us, hl with | [_], _ => rfl
  have D_write_data : DefAt K mg "write_data" s_write_data f5 _ ["data"] := ⟨F5, PySem.W.mg_of X G a5, b5⟩
  have F6 := fun_mk (st := s_read_whole) l6 c6 k6
  have b6 := F6.binds (ps := ["text"]) fun _ _ _ _ _ _ us hl => match us, hl with | [_], _ => rfl
  have D_read_whole : DefAt K mg "read_whole" s_read_whole f6 _ ["text"] := ⟨F6, PySem.W.mg_of X G a6, b6⟩
  have F7 := fun_mk (st := s_read_atom) l7 c7 k7
  have b7 := F7.binds (ps := ["piece"]) fun _ _ _ _ _ _ us hl => match us, hl with | [_], _ => rfl
  have D_read_atom : DefAt K mg "read_atom" s_read_atom f7 _ ["piece"] := ⟨F7, PySem.W.mg_of X G a7, b7⟩
  have F8 := fun_mk (st := s_pieces_of) l8 c8 k8
  have b8 := F8.binds (ps := ["text"]) fun _ _ _ _ _ _ us hl => match us, hl with | [_], _ => rfl
  have D_pieces_of : DefAt K mg "pieces_of" s_pieces_of f8 _ ["text"] := ⟨F8, PySem.W.mg_of X G a8, b8⟩
  have F9 := fun_mk (st := s_read_data) l9 c9 k9
  have b9 := F9.binds (ps := ["text"]) fun _ _ _ _ _ _ us hl => match us, hl with | [_], _ => rfl
  have D_read_data : DefAt K mg "read_data" s_read_data f9 _ ["text"] := ⟨F9, PySem.W.mg_of X G a9, b9⟩
  have F10 := fun_mk (st := s__law_draw) l10 c10 k10
  have b10 := F10.binds (ps := ["script"]) fun _ _ _ _ _ _ us hl => match us, hl with | [_], _ => rfl
  have D__law_draw : DefAt K mg "_law_draw" s__law_draw f10 _ ["script"] := ⟨F10, PySem.W.mg_of X G a10, b10⟩
  have F11 := fun_mk (st := s__law_take) l11 c11 k11
  have b11 := F11.binds (ps := ["draw", "many"]) fun _ _ _ _ _ _ us hl => match us, hl with | [_, _], _ => rfl
  have D__law_take : DefAt K mg "_law_take" s__law_take f11 _ ["draw", "many"] := ⟨F11, PySem.W.mg_of X G a11, b11⟩
  have F12 := fun_mk (st := s__law_data) l12 c12 k12
  have b12 := F12.binds (ps := ["draw", "deep"]) fun _ _ _ _ _ _ us hl => match us, hl with | [_, _], _ => rfl
  have D__law_data : DefAt K mg "_law_data" s__law_data f12 _ ["draw", "deep"] := ⟨F12, PySem.W.mg_of X G a12, b12⟩
  have F13 := fun_mk (st := s__law_word) l13 c13 k13
  have b13 := F13.binds (ps := ["value"]) fun _ _ _ _ _ _ us hl => match us, hl with | [_], _ => rfl
  have D__law_word : DefAt K mg "_law_word" s__law_word f13 _ ["value"] := ⟨F13, PySem.W.mg_of X G a13, b13⟩
  have F14 := fun_mk (st := s__law_written) l14 c14 k14
  have b14 := F14.binds (ps := ["data"]) fun _ _ _ _ _ _ us hl => match us, hl with | [_], _ => rfl
  have D__law_written : DefAt K mg "_law_written" s__law_written f14 _ ["data"] := ⟨F14, PySem.W.mg_of X G a14, b14⟩
  have F15 := fun_mk (st := s__law_number) l15 c15 k15
  have b15 := F15.binds (ps := ["text"]) fun _ _ _ _ _ _ us hl => match us, hl with | [_], _ => rfl
  have D__law_number : DefAt K mg "_law_number" s__law_number f15 _ ["text"] := ⟨F15, PySem.W.mg_of X G a15, b15⟩
  have F16 := fun_mk (st := s__law_read) l16 c16 k16
  have b16 := F16.binds (ps := ["text"]) fun _ _ _ _ _ _ us hl => match us, hl with | [_], _ => rfl
  have D__law_read : DefAt K mg "_law_read" s__law_read f16 _ ["text"] := ⟨F16, PySem.W.mg_of X G a16, b16⟩
  have F17 := fun_mk (st := s__law_told) l17 c17 k17
  have b17 := F17.binds (ps := ["which", "value"]) fun _ _ _ _ _ _ us hl => match us, hl with | [_, _], _ => rfl
  have D__law_told : DefAt K mg "_law_told" s__law_told f17 _ ["which", "value"] := ⟨F17, PySem.W.mg_of X G a17, b17⟩
  have F18 := fun_mk (st := s_law) l18 c18 k18
  have F19 := fun_mk (st := s_DataReader___init__) l19 c19 k19
  have b19 := F19.binds (ps := ["self"]) fun _ _ _ _ _ _ us hl => match us, hl with | [_], _ => rfl
  have D_DataReader : ClassAt K mg "DataReader" "DataReader.__init__" C s_DataReader___init__ f19 _ ["self"] := ⟨F19, ⟨mkC, a19, i19, kcC⟩, PySem.W.mg_of X G aC, b19⟩
  have F20 := fun_mk (st := s_DataReader_item) l20 c20 k20
  have b20 := F20.binds (ps := ["self", "value"]) fun _ _ _ _ _ _ us hl => match us, hl with | [_, _], _ => rfl
  have D_DataReader_item : MethAt K C "item" "DataReader.item" s_DataReader_item f20 _ ["self", "value"] := ⟨F20, ⟨a20, i20, k20⟩, b20⟩
  have F21 := fun_mk (st := s_DataReader_open_one) l21 c21 k21
  have b21 := F21.binds (ps := ["self"]) fun _ _ _ _ _ _ us hl => match us, hl with | [_], _ => rfl
  have D_DataReader_open_one : MethAt K C "open_one" "DataReader.open_one" s_DataReader_open_one f21 _ ["self"] := ⟨F21, ⟨a21, i21, k21⟩, b21⟩
  have F22 := fun_mk (st := s_DataReader_close_one) l22 c22 k22
  have b22 := F22.binds (ps := ["self"]) fun _ _ _ _ _ _ us hl => match us, hl with | [_], _ => rfl
  have D_DataReader_close_one : MethAt K C "close_one" "DataReader.close_one" s_DataReader_close_one f22 _ ["self"] := ⟨F22, ⟨a22, i22, k22⟩, b22⟩
  have F23 := fun_mk (st := s_DataReader_comma) l23 c23 k23
  have b23 := F23.binds (ps := ["self"]) fun _ _ _ _ _ _ us hl => match us, hl with | [_], _ => rfl
  have D_DataReader_comma : MethAt K C "comma" "DataReader.comma" s_DataReader_comma f23 _ ["self"] := ⟨F23, ⟨a23, i23, k23⟩, b23⟩
  have F24 := fun_mk (st := s_DataReader_take) l24 c24 k24
  have b24 := F24.binds (ps := ["self", "piece"]) fun _ _ _ _ _ _ us hl => match us, hl with | [_, _], _ => rfl
  have D_DataReader_take : MethAt K C "take" "DataReader.take" s_DataReader_take f24 _ ["self", "piece"] := ⟨F24, ⟨a24, i24, k24⟩, b24⟩
  refine ⟨PySem.W.fnOf "law" "law" (defArgs s_law) (defBody s_law) (defScope s_law) .none kV18 dc18 pm18 an18 cd18 ct18, fun s v => .of_eq rfl, fun base _ _ nd => ?_⟩
  have G_write_data := ok_write_data (P := l.prog) (w := w) D_write_data T nd D_atom_text D_is_whole D_is_word D_is_short
  have G_read_atom := ok_read_atom (P := l.prog) (w := w) D_read_atom T S nd D_is_word D_read_whole
  have G_read_data := ok_read_data (P := l.prog) (w := w) D_read_data T RT D_DataReader_item D_DataReader_open_one D_DataReader_close_one D_DataReader_comma D_read_atom G_read_atom D_DataReader_take D_pieces_of D_DataReader
  have G_told := ok_law_told (P := l.prog) (w := w) D__law_told T D_write_data D_read_data G_write_data G_read_data
  have G_read := ok_law_read (P := l.prog) (w := w) D__law_read T nd D__law_word D__law_number
  have G_written := ok_law_written (P := l.prog) (w := w) D__law_written T nd D__law_word 122
  have G_data := ok_law_data (P := l.prog) (w := w) D__law_data T nd D__law_take 5
  have G_take := ok_law_take (P := l.prog) (w := w) D__law_take T nd
  have G_draw := ok_law_draw (P := l.prog) (w := w) D__law_draw T nd
  exact run_law F18 T nd ⟨D__law_draw, G_draw, D__law_take, G_take, D__law_data, G_data, D__law_written, G_written, D__law_read, G_read, D__law_told, G_told⟩
end K53

open PySem PySem.W PyProof.Rows
set_option maxRecDepth 100000 in
set_option maxHeartbeats 0 in
theorem PySem.Challenge.cw_forksalike_k53_whole_plain_data_holds : PySem.Challenge.rw_forksalike_k53_whole_plain_data.Holds := by
  w_on; o_law; k_head; (case hw => w_witness2)
  k_fill
  refine KX.walkG (l := PySem.Challenge.rw_forksalike_k53_whole_plain_data) (n := 63) (k := 125) (x := "script") (sp := fun w => K53.spLaw (_)) rfl (by decide) rfl ⟨rfl, by decide, by decide⟩ (fun w h Y => PySem.W.kIn_of Y) ?F (fun _ _ a ns hl _ hS => ⟨a, ns, rfl, hS, hl, fun _ => rfl⟩)
  case F =>
    intro w mg fa h KX G hmg
    refine' K53.all_mk KX G hmg ?aC ?aM ?aS ?a1 ?l1 ?c1 ?k1 ?a2 ?l2 ?c2 ?k2 ?a3 ?l3 ?c3 ?k3 ?a4 ?l4 ?c4 ?k4 ?a5 ?l5 ?c5 ?k5 ?a6 ?l6 ?c6 ?k6 ?a7 ?l7 ?c7 ?k7 ?a8 ?l8 ?c8 ?k8 ?a9 ?l9 ?c9 ?k9 ?a10 ?l10 ?c10 ?k10 ?a11 ?l11 ?c11 ?k11 ?a12 ?l12 ?c12 ?k12 ?a13 ?l13 ?c13 ?k13 ?a14 ?l14 ?c14 ?k14 ?a15 ?l15 ?c15 ?k15 ?a16 ?l16 ?c16 ?k16 ?a17 ?l17 ?c17 ?k17 ?a18 ?l18 ?c18 ?k18 ?a19 ?i19 ?l19 ?c19 ?k19 ?a20 ?i20 ?l20 ?c20 ?k20 ?a21 ?i21 ?l21 ?c21 ?k21 ?a22 ?i22 ?l22 ?c22 ?k22 ?a23 ?i23 ?l23 ?c23 ?k23 ?a24 ?i24 ?l24 ?c24 ?k24 ?pgC ?hdC ?poC ?saC ?mkC ?kcC ?n1 ?n2 ?n3 ?xM ?kM ?bM ?tM ?hM ?sM ?z_isinstance ?z_int ?z_bool ?z_str ?z_tuple ?z_len ?z_all ?z_any ?z_abs ?z_range ?z_repr ?z_enumerate ?y_MOST_WORD ?y_MOST_DEPTH ?y_MOST_DIGITS ?y_LETTERS ?y_DIGITS ?dAt ?dLit ?dLow ?dKV
    (case aC => k_is)
    (case aM => k_is)
    (case aS => k_is)
    (case a1 => k_is)
    (case l1 => k_is)
    (case c1 => k_is)
    (case k1 => k_is)
    (case a2 => k_is)
    (case l2 => k_is)
    (case c2 => k_is)
    (case k2 => k_is)
    (case a3 => k_is)
    (case l3 => k_is)
    (case c3 => k_is)
    (case k3 => k_is)
    (case a4 => k_is)
    (case l4 => k_is)
    (case c4 => k_is)
    (case k4 => k_is)
    (case a5 => k_is)
    (case l5 => k_is)
    (case c5 => k_is)
    (case k5 => k_is)
    (case a6 => k_is)
    (case l6 => k_is)
    (case c6 => k_is)
    (case k6 => k_is)
    (case a7 => k_is)
    (case l7 => k_is)
    (case c7 => k_is)
    (case k7 => k_is)
    (case a8 => k_is)
    (case l8 => k_is)
    (case c8 => k_is)
    (case k8 => k_is)
    (case a9 => k_is)
    (case l9 => k_is)
    (case c9 => k_is)
    (case k9 => k_is)
    (case a10 => k_is)
    (case l10 => k_is)
    (case c10 => k_is)
    (case k10 => k_is)
    (case a11 => k_is)
    (case l11 => k_is)
    (case c11 => k_is)
    (case k11 => k_is)
    (case a12 => k_is)
    (case l12 => k_is)
    (case c12 => k_is)
    (case k12 => k_is)
    (case a13 => k_is)
    (case l13 => k_is)
    (case c13 => k_is)
    (case k13 => k_is)
    (case a14 => k_is)
    (case l14 => k_is)
    (case c14 => k_is)
    (case k14 => k_is)
    (case a15 => k_is)
    (case l15 => k_is)
    (case c15 => k_is)
    (case k15 => k_is)
    (case a16 => k_is)
    (case l16 => k_is)
    (case c16 => k_is)
    (case k16 => k_is)
    (case a17 => k_is)
    (case l17 => k_is)
    (case c17 => k_is)
    (case k17 => k_is)
    (case a18 => k_is)
    (case l18 => k_is)
    (case c18 => k_is)
    (case k18 => k_is)
    (case a19 => k_is)
    (case i19 => k_is)
    (case l19 => k_is)
    (case c19 => k_is)
    (case k19 => k_is)
    (case a20 => k_is)
    (case i20 => k_is)
    (case l20 => k_is)
    (case c20 => k_is)
    (case k20 => k_is)
    (case a21 => k_is)
    (case i21 => k_is)
    (case l21 => k_is)
    (case c21 => k_is)
    (case k21 => k_is)
    (case a22 => k_is)
    (case i22 => k_is)
    (case l22 => k_is)
    (case c22 => k_is)
    (case k22 => k_is)
    (case a23 => k_is)
    (case i23 => k_is)
    (case l23 => k_is)
    (case c23 => k_is)
    (case k23 => k_is)
    (case a24 => k_is)
    (case i24 => k_is)
    (case l24 => k_is)
    (case c24 => k_is)
    (case k24 => k_is)
    (case pgC => k_is)
    (case hdC => k_is)
    (case poC => k_is)
    (case saC => k_is)
    (case mkC => k_is)
    (case kcC => k_is)
    (case n1 => k_is)
    (case n2 => k_is)
    (case n3 => k_is)
    (case xM => k_exc)
    (case kM => k_is)
    (case bM => k_is)
    (case tM => k_is)
    (case hM => k_is)
    (case sM => k_is)
    (case z_isinstance => k_is)
    (case z_int => k_is)
    (case z_bool => k_is)
    (case z_str => k_is)
    (case z_tuple => k_is)
    (case z_len => k_is)
    (case z_all => k_is)
    (case z_any => k_is)
    (case z_abs => k_is)
    (case z_range => k_is)
    (case z_repr => k_is)
    (case z_enumerate => k_is)
    (case y_MOST_WORD => k_is)
    (case y_MOST_DEPTH => k_is)
    (case y_MOST_DIGITS => k_is)
    (case y_LETTERS => k_is)
    (case y_DIGITS => k_is)
    (case dAt => k_is)
    (case dLit => k_keys)
    (case dLow => rfl)
    (case dKV => rfl)

