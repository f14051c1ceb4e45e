import PyProof.Rows.All
import Wide.All
import OpenK.AllK
import Wide.FinOn
import PySem.Challenge.RW_forksalike_k66_whole_texts_of_diaries
import HandS.ForMost
import HandS.ForExc
import HandS.IsInst
import HandS.Deep
import HandS.More
import HandS.RaiseMore
import HandS.Wide
import HandS.Flow
import HandS.NoneIn
import HandS.StrMore
import HandS.RaiseFrom
import HandS.SuiteRaise
import HandS.TryMany
import HandS.Small
import HandS.Evl
import KE.IntTextLaws
import KE.KIntText
import HandS.Walk
import PyProof.Draws
import PyProof.EnumMake
import HandS.Style
import KE.KExcHand
import KE.KExcMore
import HandS.WordsExc
import HandS.ExcValue
import KE.IntTextText
import KE.DataEq
import KE.SortData
import HandS.TupAny
import HandS.TupMul
import HandS.CallSlots
import HandS.Defaults
import HandS.OwnEq
import HandS.Zip
import KE.KDictZip
import PyProof.ListNew
import HandS.ExcIs
set_option Elab.async false
set_option linter.all false
set_option maxRecDepth 100000
set_option maxHeartbeats 4000000
set_option exponentiation.threshold 5000
/-! own rules: long numbers as texts, repr of data -/
namespace KX
open PySem PySem.Spec PyProof.Rows L2 PySem.NumText PySem.Calls

/-! ### int(text) up to 4300 digits -/
theorem long_text {M : Model} {A : Around} {E : Value → Shared → Prop} {s : Shared} {Q : Value → Shared → Prop} {v : Value} {text : List Nat} {n : Int} (hd : s.heap.NoDigits)
    (hr0 : (text.takeWhile (· != 0)).length ≤ 640 → (int_private% "readNumeral") 0 10 (text.takeWhile (· != 0)) = (int_private% "Numeral.value") n)
    (hr1 : ¬ (text.takeWhile (· != 0)).length ≤ 640 → (int_private% "readNumeral") 4300 10 (text.takeWhile (· != 0)) = (int_private% "Numeral.value") n)
    (ha : ((text.takeWhile (· != 0)).length == text.length) = true) (h : Q (.int n s.toks) { s with toks := s.toks + 1 }) :
    wpAny M A ((int_private% "intFromText") v text 10) Q E s := by
  obtain ⟨hp, g, d, tk, os⟩ := s
  obtain ⟨mc, hns, hnone⟩ := hd
  by_cases hs : (text.takeWhile (· != 0)).length ≤ 640
  · exact PySem.W.KIN.wp_text hs (hr0 hs) ha h
  · have hr := hr1 hs
    clear hr0 hr1
    have hlim : ∀ {E' : Value → Shared → Prop} {Q' : Nat → Shared → Prop}, Q' 4300 ⟨hp, g, d, tk, os⟩ → wpAny M A Builtin.intMaxStrDigits Q' E' ⟨hp, g, d, tk, os⟩ := fun hq => by
      unfold Builtin.intMaxStrDigits
      refine wpAny_bind (wpAny_nsGet hns ?_)
      rw [hnone]
      exact wpAny_pure hq
    repeat (any_goals (first
      | assumption
      | (with_reducible refine wpAny_ite_false (decide_eq_false hs) ?_)
      | (with_reducible refine wpAny_ite_true (decide_eq_true ha) ?_)
      | (with_reducible refine wpAny_bind (hlim ?_))
      | (with_reducible refine hlim ?_)
      | wp_step))
    all_goals (try rw [hr])
    all_goals (try dsimp only)
    repeat (any_goals (first
      | assumption
      | (with_reducible refine wpAny_ite_true (decide_eq_true ha) ?_)
      | wp_step))
    all_goals first | exact h | skip

theorem long_new {x : PySem.Str} {u : Tok} {n : Int} (hl : x.length ≤ 4300) (hn : PySem.intText? x = some n) :
    Meets (Builtin.«int.__new__» ⟨[.type "int", .str x u], []⟩) (fun _ R s => s.heap.NoDigits ∧ R (.ok (.ret (.int n s.toks))) { s with toks := s.toks + 1 }) :=
  Meets.of_wp fun prog w A R s hq => by
    obtain ⟨hp, g, d, tk, os⟩ := s
    obtain ⟨hd, h⟩ := hq
    have f1 := PySem.F.conv_sub_int
    have f2 := PySem.F.madeHere_int
    have f3 := PySem.W.KIN.str_int
    have f4 := PySem.W.KIN.str_idx
    have f5 := PySem.W.KIN.str_trunc
    have f6 : typeOf (.str x u) = pure (.type "str") := rfl
    have hsz : x.length ≤ sizeLine := Nat.le_trans hl (by decide)
    have hr : ((numSeenOf x).length ≤ 640 → (int_private% "readNumeral") 0 10 (numSeenOf x) = (int_private% "Numeral.value") n) ∧
        (¬ (numSeenOf x).length ≤ 640 → (int_private% "readNumeral") 4300 10 (numSeenOf x) = (int_private% "Numeral.value") n) ∧ ((numSeenOf x).length == (numTextOf x).length) = true := by
      have two : ∀ l : Nat, (∃ m, intText? x = some m ∧ ((numSeenOf x).length == (numTextOf x).length) = true ∧ (int_private% "readNumeral") l 10 (numSeenOf x) = (int_private% "Numeral.value") m) ∨
          intText? x = none → ((int_private% "readNumeral") l 10 (numSeenOf x) = (int_private% "Numeral.value") n ∧ ((numSeenOf x).length == (numTextOf x).length) = true) := fun l hh => by
        rcases hh with ⟨m, h1, h2, h3⟩ | h1
        · rw [hn] at h1
          injection h1 with h1
          subst h1
          exact ⟨h3, h2⟩
        · rw [hn] at h1
          cases h1
      by_cases hs : (numSeenOf x).length ≤ 640
      · have q := two 0 ((read0 x hs).imp id fun z => z.1)
        exact ⟨fun _ => q.1, fun z => absurd hs z, q.2⟩
      · have q := two 4300 ((read4300 x hsz).imp id fun z => z.1)
        exact ⟨fun z => absurd z hs, fun _ => q.1, q.2⟩
    have hk := PySem.W.KIN.Hid.mk (And.intro hd hr)
    clear hr hl hn hd hsz
    repeat (any_goals (first
      | assumption
      | ((with_reducible show wpAny _ _ ((int_private% "intFromText") _ _ _) _ _ _); refine long_text hk.out.1 hk.out.2.1 hk.out.2.2.1 hk.out.2.2.2 ?_)
      | wp_step))
    all_goals first | exact ⟨_, rfl, h⟩ | skip

section
variable {prog : Program} {w : World} {A : Around} {E : Value → Shared → Prop} {s : Shared} {Q : Value → Shared → Prop} {x : PySem.Str} {t : Tok} {n : Int}
theorem long_int (hn : PySem.intText? x = some n) (hl : x.length ≤ 4300) (hd : s.heap.NoDigits) (h : Q (.int n s.toks) { s with toks := s.toks + 1 }) : wpAny (model prog w) A (call (.type "int") [.str x t]) Q E s :=
  call_int_1 (long_new hl hn) ⟨hd, rfl, h⟩
end
end KX

namespace KX
open PySem PySem.Spec PyProof.Rows L2

section
variable {X : Cx}
/-- str(x) of an int below 10^4300, a bool, a text -/
def rStr : List V → Hp → VK → Prop := fun xs H Q => (∃ i : Int, xs = [.int i] ∧ i.natAbs < 10 ^ 4300 ∧ Q (.str (toString i)) H) ∨ (∃ b : Bool, xs = [.bl b] ∧ Q (.str (if b then "True" else "False")) H) ∨ ∃ a, xs = [.str a] ∧ Q (.str a) H
theorem kx_str (hc : X.calm = true) (nd : X.base.NoDigits) : CallR X (.type "str") rStr := by
  intro pins s σ H xs us Q I r h
  rcases h with ⟨i, rfl, hz, q⟩ | ⟨b, rfl, q⟩ | ⟨a, rfl, q⟩
  · obtain ⟨u, rfl, t, rfl⟩ := vals1 r
    exact str_of_int_or (I.ok.hd hc) (nd.keeps I.bk) (fun _ => ⟨.str _, H, I.tok _, ⟨_, rfl⟩, q⟩) fun hge => absurd hz (Nat.not_lt.mpr hge)
  · obtain ⟨u, rfl, rb⟩ := vals1 r
    cases rb
    exact PySem.P.str_of_bool ⟨.str _, H, I.tok _, ⟨_, rfl⟩, q⟩
  · obtain ⟨u, rfl, t, rfl⟩ := vals1 r
    exact PySem.P.str_of_str ⟨.str _, H, I, ⟨_, rfl⟩, q⟩
/-- int(x) of an int, a bool, a text of at most 4300 signs -/
def rInt : List V → Hp → VK → Prop := fun xs H Q => (∃ i, xs = [.int i] ∧ Q (.int i) H) ∨ (∃ k, xs = [.bl k] ∧ Q (.int (if k then 1 else 0)) H) ∨ ∃ a n, xs = [.str a] ∧ PySem.intText? a = some n ∧ a.length ≤ 4300 ∧ Q (.int n) H
theorem kx_int (nd : X.base.NoDigits) : CallR X (.type "int") rInt := by
  intro pins s σ H xs us Q I r h
  rcases h with h | h | ⟨a, n, rfl, hn, hl, q⟩
  · exact call_int1 pins s σ H xs us Q I r (.inl h)
  · exact call_int1 pins s σ H xs us Q I r (.inr h)
  · obtain ⟨u, rfl, t, rfl⟩ := vals1 r
    exact long_int hn hl (nd.keeps I.bk) ⟨.int n, H, I.tok _, ⟨_, rfl⟩, q⟩
/-- repr(x) of a list or a tuple of data, and of None; where no other repr is under way -/
def rRepr (K : PySem.W.Frag) : List V → Hp → VK → Prop := fun xs H Q => (xs = [.non] ∧ Q (.str "None") H) ∨
  ∃ a d, xs = [.ref a] ∧ Dp K H (.ref a) d ∧ d.showable = true ∧ d.hasDict = false ∧ d.depth + 1 ≤ 400 ∧ d.shown.length ≤ sizeLine ∧ Q (.str d.shown) H
theorem kx_repr (hu : X.A.units + 400 < cLine) (hg : X.A.guards = some []) : CallR X (.builtin "repr") (rRepr X.K) := by
  intro pins s σ H xs us Q I r h
  rcases h with ⟨rfl, q⟩ | ⟨a, d, rfl, hd, hs, hnd, hdp, hsz, q⟩
  · obtain ⟨u, rfl, rb⟩ := vals1 r
    cases rb
    exact PySem.P.repr_of_none ⟨.str _, H, I.tok _, ⟨_, rfl⟩, q⟩
  · obtain ⟨u, rfl, rb⟩ := vals1 r
    cases rb
    obtain ⟨as, rr⟩ := Dp.reads I d _ _ hd rfl
    exact repr_of_reads' rr hs (PyData.noDict_hsm hnd) hg (by omega) (fun _ _ e => e) (fun h' u tk hk => ⟨.str _, H, I.kept hk, ⟨_, rfl⟩, q⟩) hsz
end
end KX

namespace KX
open PySem PySem.Spec PyProof.Rows L2

/-- what the law's own def does, called at the outermost place: nothing's repr is under way there -/
def RunG (P : Program) (w : World) (K : PySem.W.Frag) (mg : Str → Option Value) (base : Heap) (CX : CXT) (k : Nat) (f : Addr) (fd : FuncData) (ps : List Str) (sp : Sp) : Prop :=
  ∀ (A : Around) (outer : List Env) (s : Shared) (H : Hp) (args : Args) (us : List Value) (vs : List V) (Q : VK) (E : XK),
    Room k A → A.guards = some [] → Env0 P w K mg base A outer s H → BindsTo s fd args (ps.zip us) → Vals vs us → sp vs H Q E →
    codeAny (model P w) A (.call (.ref f) args) (CR CX outer P w H s Q E) s

section
variable {P : Program} {w : World} {K : PySem.W.Frag} {mg : Str → Option Value} {base : Heap}
theorem runG {x qual : Str} {st : Stmt} {f : Addr} {fd : FuncData} {N ps : List Str} {k : Nat} {sp : Sp} (F : Fun K x qual st f fd) (S : FnScope N ps (defScope st))
    (len : ∀ vs H Q E, sp vs H Q E → vs.length = ps.length)
    (hbody : ∀ (cdv : Value) (A : Around) (outer : List Env) (s : Shared) (H : Hp) (vs : List V) (Q : VK) (E : XK),
      Room k (A.deeper (envOfC qual (defScope st) s.heap.objs.size f cdv)) → A.guards = some [] → sp vs H Q E →
      ∃ t, PSs (cxOf CX0 P w K mg base N qual (defScope st) f cdv A outer s H E).nox (defBody st) t ∧ t { nx := fun _ H' => Q .non H', rt := Q } (start N vs) H) :
    RunG P w K mg base CX0 (k + 1) f fd ps sp := by
  obtain ⟨oc, od, kV, doc, pm, an, cdv, ct, osl, rfl, lk, hcd⟩ := F.ex
  intro A outer s H args us vs Q E hr hgu e0 hb r hsp
  have hl := len _ _ _ _ hsp
  have up : ∀ b o, base.get? b = some o → s.heap.get? b = some o := fun b o e => (e0.bs b o e).1
  have hK : K.In s.heap := e0.mod.kin.keeps up
  have hkd : ∀ y ∈ ps.zip us, (defScope st).names.lookup y.1 = some .local ∨
      ((defScope st).names.lookup y.1 = some .cell ∧ ((cellsFrom (s.heap.objs.size + 1) (defScope st).names []).lookup y.1).isSome = true) := by
    rintro ⟨n, v⟩ hy
    cases S.par n (List.of_mem_zip hy).1 with
    | inl q => exact .inl q
    | inr q => exact .inr ⟨q, PySem.W.cellsFrom_some _ _ _ (.inl q)⟩
  refine codeAny_call_function hr.depth (hK _ _ lk) rfl S.co S.gen rfl (PySem.W.codeRec_of hK hcd) (hb _ _ _ _ ?_)
  refine wpAny_newFunctionEnv_cells S.kind hkd ?_
  rintro env rfl s1 x
  refine ⟨(e0.mod.nolimit.keeps up).keeps x.toInCall.keep, codeAny_func ?_⟩
  obtain ⟨t, ht0, hq⟩ := hbody cdv A outer s H vs Q E (hr.deeper _) hgu hsp
  have ht := ht0.nox
  have I := inv_start (CX := CX0) (P := P) (w := w) (K := K) (mg := mg) (base := base) (qual := qual) (f := f) (cd := cdv) (outer := outer) (E := E) S hr.hd e0 hl r x
  refine wpAny_mono (ht.run [] s1 (start N vs) H _ I hq) ?_ (fun _ _ z => z)
  intro fl s' hs
  cases fl with
  | next =>
    obtain ⟨σ', H', J, q⟩ := hs
    exact ⟨V.non, H', J.os, J.bare, J.base, J.hok, rfl, q⟩
  | ret u =>
    obtain ⟨v, σ', H', J, rv, q⟩ := hs
    exact ⟨v, H', J.os, J.bare, J.base, J.hok, rv, q⟩
  | brk =>
    obtain ⟨_, _, _, q⟩ := hs
    cases q
  | cont =>
    obtain ⟨_, _, _, q⟩ := hs
    cases q

/-- the law's call, from its promise; F may use that no limit on digits is set in base -/
theorem callG {mb : Str → Option Value} {k : Nat} {fa a : Addr} {fd : FuncData} {x : Str} {sp : Sp} {s₁ : Shared} {vs : List Value} {ns : List Int}
    (KX : K.In s₁.heap) (hns : s₁.heap.Ns mainGlobals mg) (hb : s₁.heap.Ns builtinsNs mb) (hbb : ∀ x : Str, x ≠ "__name__" → mb x = bootBuiltins x)
    (hlim : s₁.heap.NoLimit) (hdig : s₁.heap.NoDigits) (hg : s₁.gens = #[])
    (ha : s₁.heap.get? a = some { cls := .type "list", data := .seq vs.toArray }) (hi : IntsAre vs ns) (hl : ns.length ≤ sizeLine) (hr : Room k callerA)
    (F : ∀ base : Heap, K.In base → base.Ns mainGlobals mg → base.NoDigits → RunG P w K mg base CX0 k fa fd [x] sp)
    (hbind : ∀ (s : Shared) (u : Value), BindsTo s fd ⟨[u], []⟩ [(x, u)])
    (hsp : ∀ H : Hp, Only H → SqL K H a (ns.map V.int) → sp [.ref a] H (fun v _ => v = .bl true) fun _ _ _ => False) :
    codeAny (model P w) callerA (.call (.ref fa) ⟨[.ref a], []⟩)
      (fun r s' => r = .ok (.ret (.bool true)) ∧ OldK s₁.heap s'.heap ∧ s'.os = s₁.os ∧ AllBare s'.gens) s₁ := by
  have rv := vals_ints hi
  have lenV := hi.length
  have core : ∀ H : Hp, Only H → SqL K H a (ns.map V.int) → HOk P w H s₁.heap → (∀ b, H b ≠ none → b = a) → (H a ≠ none → K.lookup a = none) →
      codeAny (model P w) callerA (.call (.ref fa) ⟨[.ref a], []⟩)
        (fun r s' => r = .ok (.ret (.bool true)) ∧ OldK s₁.heap s'.heap ∧ s'.os = s₁.os ∧ AllBare s'.gens) s₁ := by
    intro H hO hS hok hA hKa
    have keep : ∀ {b : Addr} {o : Obj}, s₁.heap.get? b = some o → H b = none → (hidT s₁.heap H).get? b = some o := fun e n => hidT_get e n
    have nodict : ∀ {b : Addr} {o : Obj} {es : Array DictEntry} {ep : Nat}, s₁.heap.get? b = some o → o.data = .dict es ep → H b = none := by
      intro b o es ep e d
      cases q : H b with
      | none => rfl
      | some u =>
        obtain rfl : b = a := hA b (by rw [q]; simp)
        rw [ha] at e
        cases e
        exact nomatch (show Data.seq vs.toArray _ = Data.dict es ep from d)
    have nsK : ∀ {b : Addr} {m : Str → Option Value}, s₁.heap.Ns b m → (hidT s₁.heap H).Ns b m := fun {b m} ⟨o, es, ep, e, d, r⟩ => ⟨o, es, ep, keep e (nodict e d), d, r⟩
    have hKb : K.In (hidT s₁.heap H) := by
      intro b o e
      refine keep (KX b o e) ?_
      cases q : H b with
      | none => rfl
      | some u =>
        obtain rfl : b = a := hA b (by rw [q]; simp)
        rw [hKa (by rw [q]; simp)] at e
        cases e
    have hM : Mod K mg (hidT s₁.heap H) := ⟨hKb, nsK hns, ⟨mb, nsK hb, hbb⟩, by obtain ⟨mc, h1, h2⟩ := hlim; exact ⟨mc, nsK h1, h2⟩⟩
    have hD : (hidT s₁.heap H).NoDigits := by obtain ⟨mc, h1, h2⟩ := hdig; exact ⟨mc, nsK h1, h2⟩
    have e0 : Env0 P w K mg (hidT s₁.heap H) callerA [] s₁ H :=
      { frames := rfl, mod := hM, bs := fun b o e => of_hidT e, bsz := Nat.le_of_eq (hidT_size _ _), funs := trivial, frf := fun b hb => absurd (show b ∈ ([] : List Addr) from hb) (by simp), hok := hok, bare := .of_eq hg }
    refine codeAny_mono (F _ hKb (nsK hns) hD callerA [] s₁ H ⟨[.ref a], []⟩ [.ref a] [.ref a] _ _ hr rfl e0 (hbind s₁ (.ref a)) (.cons rfl .nil) (hsp H hO hS)) ?_
    intro r s' h
    match r, h with
    | .error e, h => exact False.elim h
    | .ok (.ret u), h =>
      obtain ⟨v, H', os, bare, un, hok', r', q⟩ := h
      obtain rfl : v = .bl true := q
      obtain rfl : u = Value.bool true := r'
      refine ⟨rfl, OldK.of_keep ?_, os, bare⟩
      intro b o e
      cases q : H b with
      | none => exact un.keep b o e q (by simp [frs]) (by simp)
      | some u =>
        rcases hO b with z | ⟨ob, xs, z⟩
        · rw [q] at z
          cases z
        · obtain ⟨e1, _⟩ := hok b _ z
          obtain ⟨e2, _⟩ := hok' b _ (un.frzs b ob _ z)
          rw [e] at e1
          cases e1
          exact e2
  cases hk : K.lookup a with
  | some o =>
    have e := KX a o hk
    rw [ha] at e
    cases e
    have none_ : ∀ b : Addr, (fun _ => none : Hp) b = none := fun _ => rfl
    exact core (fun _ => none) (fun _ => .inl rfl) (.inr ⟨_, vs.toArray, _, hk, rfl, rfl, rfl, by rw [List.size_toArray, lenV]; exact hl, by simpa using rv⟩)
      (fun b u z => nomatch (show (none : Option HO) = some u from z)) (fun b z => absurd rfl z) (fun z => absurd rfl z)
  | none =>
    let H0 : Hp := fun b => if b = a then some (.frz { cls := .type "list", data := .seq vs.toArray } (.lst (ns.map V.int))) else none
    have yes : H0 a = some (.frz { cls := .type "list", data := .seq vs.toArray } (.lst (ns.map V.int))) := if_pos rfl
    have no : ∀ b, b ≠ a → H0 b = none := fun b hb => if_neg hb
    refine core H0 (fun b => ?_) (.inl (.inr ⟨_, yes⟩)) (fun b u z => ?_) (fun b z => ?_) fun _ => hk
    · by_cases hb : b = a
      · exact .inr ⟨_, _, by rw [hb]; exact yes⟩
      · exact .inl (no b hb)
    · by_cases hb : b = a
      · subst hb
        rw [yes] at z
        cases z
        exact ⟨ha, by rw [List.length_map]; exact hl, vs, _, rv, ha⟩
      · rw [no b hb] at z
        cases z
    · by_cases hb : b = a
      · exact hb
      · exact absurd (no b hb) z
end

/-- the goal that k_head leaves, from the law's promise -/
theorem walkG {l : PySem.W.OpenLaw} {n k : Nat} {q : Program} {loose : List Str} {XP : (Str → Option Value) → Heap → Prop} {YP : World → Heap → Prop} {d : DefRec} {K : Params → PySem.W.Frag} {sp : World → Sp} {x : Str}
    (hn : l.most = some n) (hn2 : n ≤ sizeLine) (hdf : d.params.defaults = []) (hr : Room k callerA)
    (hY : ∀ (w : World) (h : Heap), YP w h → (K w.params).In h)
    (F : ∀ (w : World) (mg : Str → Option Value) (fa : Addr) (h : Heap), (K w.params).In h → h.Ns mainGlobals mg → mg d.name = some (.ref fa) →
      ∃ fd : FuncData, (∀ (s : Shared) (u : Value), BindsTo s fd ⟨[u], []⟩ [(x, u)]) ∧
        ∀ base : Heap, (K w.params).In base → base.Ns mainGlobals mg → base.NoDigits → RunG l.prog w (K w.params) mg base CX0 k fa fd [x] (sp w))
    (hsp : ∀ (w : World) (H : Hp) (a : Addr) (ns : List Int), ns.length ≤ n → Only H → SqL (K w.params) H a (ns.map V.int) → sp w [.ref a] H (fun v _ => v = .bl true) fun _ _ _ => False) :
    PySem.W.WalkO q loose XP YP l.row.toRowW d [] (fun f vs => PySem.call f vs) := by
  refine Att.attach_call hn hdf ?_
  intro w s₀ s₁ mg mb fa o pm cd doc a vs ns G Y ho hd hcd hmg hobj hints hlen hg
  have hK := hY w _ Y
  obtain ⟨fd, hb, hF⟩ := F w mg fa _ hK G.T.g hmg
  exact callG hK G.T.g G.T.b G.T.builtins G.T.nolimit G.T.nodigits hg hobj hints (Nat.le_trans hlen hn2) hr hF hb fun H hO hS => hsp w H a ns hlen hO hS
end KX

namespace KX
open PySem PySem.Spec PyProof.Rows L2

/-! ### texts as lists of codes -/
def tx (l : List Nat) : Str := ⟨l.toArray⟩
theorem tx_list (l : List Nat) : (tx l).cps.toList = l := by simp [tx]
theorem tx_len (l : List Nat) : (tx l).length = l.length := by
  show l.toArray.size = l.length
  simp
theorem tx_of (s : Str) : tx s.cps.toList = s := by
  cases s
  simp [tx]
theorem tx_inj {a b : List Nat} (h : tx a = tx b) : a = b := by
  have := congrArg (fun s : Str => s.cps.toList) h
  simpa [tx_list] using this
theorem tx_app (a b : List Nat) : tx a ++ tx b = tx (a ++ b) := by
  show (⟨a.toArray ++ b.toArray⟩ : Str) = ⟨(a ++ b).toArray⟩
  simp
theorem tx_dec (a b : List Nat) : decide (V.str (tx a) = V.str (tx b)) = decide (a = b) := by
  by_cases h : a = b
  · subst h; simp
  · rw [decide_eq_false h, decide_eq_false]
    intro e
    exact h (tx_inj (V.str.inj e))

/-! ### operators, by what stands there -/
section
variable {X : Cx}
def rI2 (C : Int → Int → Prop) (g : Int → Int → V) : R2 := rI C g
theorem k_str_mul : OpR X (binaryOp .Mult) (fun x y H Q => ∃ (l : List Nat) (n : Nat), x = .str (tx l) ∧ y = .int n ∧ 2 ≤ n ∧ l ≠ [] ∧ l.length * n ≤ 100000 ∧ Q (.str (tx (List.replicate n l).flatten)) H) := by
  intro pins s σ H x y v u Q I rx ry h
  obtain ⟨l, n, rfl, rfl, h2, hne, hsz, q⟩ := h
  obtain ⟨t, rfl⟩ := rx
  obtain ⟨t', rfl⟩ := ry
  have hl : (tx l).length = l.length := tx_len l
  have hpos : 0 < l.length := List.length_pos_iff.mpr hne
  have hn1 : n ≤ l.length * n := Nat.le_mul_of_pos_left n hpos
  have hl1 : l.length ≤ l.length * n := Nat.le_mul_of_pos_right l.length (by omega)
  have e0 : ¬ ((n : Int) < 1) := by omega
  have e1 : (((n : Int) == 1) || (tx l).length == 0) = false := by
    rw [hl]
    have a : ((n : Int) == 1) = false := beq_eq_false_iff_ne.mpr (by omega)
    have b : (l.length == 0) = false := beq_eq_false_iff_ne.mpr (by omega)
    rw [a, b]; rfl
  refine PySem.P.mul_str (x := tx l) (n := (n : Int)) ?_ (fun _ _ => ?_) (fun _ _ => ?_) ?_
  · have a : ¬ ((n : Int) < -(2 ^ 63 : Int)) := by omega
    have b : ¬ ((n : Int) ≥ 2 ^ 63) := by omega
    rw [decide_eq_false a, decide_eq_false b]; rfl
  · rw [hl]
    intro hgt
    have h3 : (2 ^ 63 - 1 : Int) / (n : Int) < (l.length : Int) := hgt
    have h4 : (2 ^ 63 - 1 : Int) < (l.length : Int) * (n : Int) := by
      have := Int.lt_mul_of_ediv_lt (by omega) h3
      exact this
    have h5 : ((l.length * n : Nat) : Int) ≤ 100000 := by omega
    rw [Int.natCast_mul] at h5
    omega
  · rw [hl]
    show decide _ = false
    have e : ((n : Int).toNat) = n := Int.toNat_natCast n
    rw [e]
    refine decide_eq_false ?_
    have := sizeLine_eq
    omega
  · rw [if_neg e0, if_neg (by rw [e1]; exact Bool.false_ne_true)]
    have ef : (⟨(List.replicate (n : Int).toNat (tx l).cps).foldl (· ++ ·) #[]⟩ : Str) = tx (List.replicate n l).flatten := by
      have e : ((n : Int).toNat) = n := Int.toNat_natCast n
      rw [e]
      have gen : ∀ (m : Nat) (acc : Array Nat), (List.replicate m (tx l).cps).foldl (· ++ ·) acc = acc ++ ((List.replicate m l).flatten).toArray := by
        intro m
        induction m with
        | zero => intro acc; simp
        | succ m ih =>
          intro acc
          rw [List.replicate_succ, List.foldl_cons, ih]
          simp [List.replicate_succ, tx, Array.append_assoc]
      rw [gen]
      simp [tx]
    rw [ef]
    refine ⟨?_, ⟨.str _, H, I.tok _, ⟨_, rfl⟩, q⟩⟩
    have h6 : ((List.replicate n l).flatten).length = n * l.length := by rw [List.length_flatten, List.map_replicate, List.sum_replicate_nat]
    have := sizeLine_eq
    rw [tx_len, h6, Nat.mul_comm]
    omega
/-- data by value; one of the two is not deep -/
def rEqM (K : PySem.W.Frag) : R2 := fun x y H Q => ∃ d e, Dp K H x d ∧ Dp K H y e ∧ d.canLay0 = true ∧ e.canLay0 = true ∧ min d.depth e.depth ≤ 64 ∧ Q (.bl (PyData.eqv d e)) H
def rNeM (K : PySem.W.Frag) : R2 := fun x y H Q => ∃ d e, Dp K H x d ∧ Dp K H y e ∧ d.canLay0 = true ∧ e.canLay0 = true ∧ min d.depth e.depth ≤ 64 ∧ Q (.bl (!PyData.eqv d e)) H
theorem op_eqM (hu : X.A.units + 64 < cLine) : OpR X (compareOp .Eq) (rEqM X.K) := by
  intro pins s σ H x y v u Q I rx ry h
  obtain ⟨d, e, hd, he, sd, se, hm, q⟩ := h
  obtain ⟨as, r1⟩ := Dp.reads I d x v hd rx
  obtain ⟨bs, r2⟩ := Dp.reads I e y u he ry
  exact SeqAt.compareEq_reads r1 r2 sd se (by omega) ⟨.bl _, H, I, rfl, q⟩
theorem op_neM (hu : X.A.units + 64 < cLine) : OpR X (compareOp .NotEq) (rNeM X.K) := by
  intro pins s σ H x y v u Q I rx ry h
  obtain ⟨d, e, hd, he, sd, se, hm, q⟩ := h
  obtain ⟨as, r1⟩ := Dp.reads I d x v hd rx
  obtain ⟨bs, r2⟩ := Dp.reads I e y u he ry
  exact SeqAt.compareNe_reads r1 r2 sd se (by omega) ⟨.bl _, H, I, rfl, q⟩
def rEqU (K : PySem.W.Frag) : R2 := fun x y H Q => rEq x y H Q ∨ rEqM K x y H Q
def rNeU (K : PySem.W.Frag) : R2 := fun x y H Q => rNe x y H Q ∨ rNeM K x y H Q
theorem k_eq (hu : X.A.units + 65 < cLine) : OpR X (compareOp .Eq) (rEqU X.K) := OpR.or op_eq (op_eqM (by omega))
theorem k_ne (hu : X.A.units + 65 < cLine) : OpR X (compareOp .NotEq) (rNeU X.K) := OpR.or op_ne (op_neM (by omega))
def rLtU : R2 := fun x y H Q => rI0 (fun i j => .bl (decide (i < j))) x y H Q ∨ ∃ i j, x = .str i ∧ y = .str j ∧ Q (.bl (decide (i.cps.toList < j.cps.toList))) H
theorem k_lt : OpR X (compareOp .Lt) rLtU := OpR.or op_lt op_lt_str
def rLeU : R2 := fun x y H Q => rI0 (fun i j => .bl (decide (i ≤ j))) x y H Q ∨ ∃ i j, x = .str i ∧ y = .str j ∧ Q (.bl (!decide (j.cps.toList < i.cps.toList))) H
theorem k_le : OpR X (compareOp .LtE) rLeU := OpR.or op_le op_le_str
def rGtU : R2 := fun x y H Q => rI0 (fun i j => .bl (decide (j < i))) x y H Q ∨ ∃ i j, x = .str i ∧ y = .str j ∧ Q (.bl (decide (j.cps.toList < i.cps.toList))) H
theorem k_gt : OpR X (compareOp .Gt) rGtU := OpR.or op_gt op_gt_str
def rGeU : R2 := fun x y H Q => rI0 (fun i j => .bl (decide (j ≤ i))) x y H Q ∨ ∃ i j, x = .str i ∧ y = .str j ∧ Q (.bl (!decide (i.cps.toList < j.cps.toList))) H
theorem k_ge : OpR X (compareOp .GtE) rGeU := OpR.or op_ge op_ge_str
def rInSign : R2 := fun x y H Q => ∃ (c : Nat) (z : Str), x = .str ⟨#[c]⟩ ∧ y = .str z ∧ Q (.bl (decide (c ∈ z.cps.toList))) H
def rNotInSign : R2 := fun x y H Q => ∃ (c : Nat) (z : Str), x = .str ⟨#[c]⟩ ∧ y = .str z ∧ Q (.bl (!decide (c ∈ z.cps.toList))) H
def rInU (K : PySem.W.Frag) : R2 := fun x y H Q => rInSign x y H Q ∨ rInD K x y H Q
def rNotInU (K : PySem.W.Frag) : R2 := fun x y H Q => rNotInSign x y H Q ∨ rNotInD K x y H Q
theorem k_in (hu : X.A.units + 65 < cLine) : OpR X (compareOp .In) (rInU X.K) := OpR.or op_in_sign (op_inD hu)
theorem k_notin (hu : X.A.units + 65 < cLine) : OpR X (compareOp .NotIn) (rNotInU X.K) := OpR.or op_notIn_sign (op_notInD hu)
def rAddI : R2 := rI0 fun i j => .int (i + j)
def rAddS : R2 := fun x y H Q => ∃ i j, x = .str i ∧ y = .str j ∧ i.length + j.length ≤ sizeLine ∧ Q (.str (i ++ j)) H
def rAddU (K : PySem.W.Frag) : R2 := fun x y H Q => rAddI x y H Q ∨ rAddS x y H Q ∨ rCat x y H Q ∨ rCatT K x y H Q
theorem k_add : OpR X (binaryOp .Add) (rAddU X.K) := OpR.or op_add (OpR.or op_add_str (OpR.or op_cat op_catT))
def rMulI : R2 := rI CMul fun i j => .int (i * j)
def rMulW : R2 := rI CMulW fun i j => .int (i * j)
def rMulS : R2 := fun x y H Q => ∃ (l : List Nat) (n : Nat), x = .str (tx l) ∧ y = .int n ∧ 2 ≤ n ∧ l ≠ [] ∧ l.length * n ≤ 100000 ∧ Q (.str (tx (List.replicate n l).flatten)) H
def rMulU : R2 := fun x y H Q => rMulI x y H Q ∨ rMulW x y H Q ∨ rMulS x y H Q ∨ rRep x y H Q
theorem k_mul : OpR X (binaryOp .Mult) rMulU := OpR.or op_mul (OpR.or op_mulW (OpR.or k_str_mul op_rep))
def rIMulU : R2 := fun x y H Q => rMulI x y H Q ∨ rMulW x y H Q
theorem k_imulW : OpR X (inplaceOp .Mult) rMulW := opI fun _ _ _ _ _ _ _ hc q => imul_int q hc.ok
theorem k_imul : OpR X (inplaceOp .Mult) rIMulU := OpR.or iop_mul k_imulW
theorem pip_of {op : Operator} {r : R2} (h : OpR X (inplaceOp op) r) : PIp X op r := h
theorem k_sl : SlR X (fun x lo hi H Q => rSlS x lo hi H Q ∨ rSlL X.K x lo hi H Q) := SlR.or sl_str sl_list

/-! ### names -/
theorem k_glob {x : Str} {v : V} {pos : Pos} (hg : Gl X x) (hm : ∃ u, X.mg x = some u ∧ RelV v u) (hd : (x == ("__debug__" : Str)) = false := by decide) : PE X (.Name x pos) (tC v) := by
  obtain ⟨u, h1, h2⟩ := hm
  exact pe_glob hg h1 h2 hd
end
theorem bb_len : bootBuiltins "len" = some (.builtin "len") := by decide +kernel
theorem bb_abs : bootBuiltins "abs" = some (.builtin "abs") := by decide +kernel
theorem bb_all : bootBuiltins "all" = some (.builtin "all") := by decide +kernel
theorem bb_any : bootBuiltins "any" = some (.builtin "any") := by decide +kernel
theorem bb_repr : bootBuiltins "repr" = some (.builtin "repr") := by decide +kernel
theorem bb_isinstance : bootBuiltins "isinstance" = some (.builtin "isinstance") := by decide +kernel
theorem bb_int : bootBuiltins "int" = some (.type "int") := by decide +kernel
theorem bb_bool : bootBuiltins "bool" = some (.type "bool") := by decide +kernel
theorem bb_str : bootBuiltins "str" = some (.type "str") := by decide +kernel
theorem bb_tuple : bootBuiltins "tuple" = some (.type "tuple") := by decide +kernel
theorem bb_list : bootBuiltins "list" = some (.type "list") := by decide +kernel

/-! ### a def of the text, as a name -/
structure DefAt (K : PySem.W.Frag) (mg : Str → Option Value) (x : Str) (st : Stmt) (f : Addr) (fd : FuncData) (ps : List Str) : Prop where
  fn : Fun K x x st f fd
  g : mg x = some (.ref f)
  b : Binds K fd ps []
theorem DefAt.kp {K : PySem.W.Frag} {mg : Str → Option Value} {x : Str} {st : Stmt} {f : Addr} {fd : FuncData} {ps : List Str} (D : DefAt K mg x st f fd ps) : PySem.W.keepIn K (.ref f) = true := D.fn.kp
structure MethAt (K : PySem.W.Frag) (C : Addr) (x qual : Str) (st : Stmt) (f : Addr) (fd : FuncData) (ps : List Str) : Prop where
  fn : Fun K x qual st f fd
  m : Meth K C x f
  b : Binds K fd ps []
structure ClassAt (K : PySem.W.Frag) (mg : Str → Option Value) (x qual : Str) (C : Addr) (st : Stmt) (f : Addr) (fd : FuncData) (ps : List Str) : Prop where
  fn : Fun K "__init__" qual st f fd
  mkr : Mk K C f
  gC : mg x = some (.ref C)
  b : Binds K fd ps []
/-- an own exception class over ValueError, without an own __init__ -/
structure ExcAt (K : PySem.W.Frag) (mg : Str → Option Value) (x : Str) (C : Addr) : Prop where
  q : PySem.W.excIn K C [.type "ValueError", .type "Exception", .type "BaseException", .type "object"] "ValueError.__new__" = true
  gC : mg x = some (.ref C)
  kC : PySem.W.keepIn K (.ref C) = true
  sb : PySem.W.subIn K (.ref C) (.type "BaseException") = some true
  ty : PySem.W.typeIn K (.ref C) = some (.type "type")
  self : PySem.W.exmOne K (.ref C) (.ref C) = some true
section
variable {X : Cx} {C : Addr}
theorem pm_own {x m : Str} {j : Nat} {p p2 pos : Pos} (T : ExcAt X.K X.mg x C) (hg : Gl X x) (hdb : (x == ("__debug__" : Str)) = false := by decide) :
    PMk X (.Call (.Name x p) [.Constant (.str m) j p2] [] pos) (fun _ H Q => Q (.ref C) none H) := pmk_own PySem.F.excBase_ValueError T.q T.gC T.kC (raises_own T.sb T.ty) hg hdb
end
end KX

namespace KX
open PySem PySem.Spec PyProof.Rows L2

/-! ### data: what type, and what stays -/
def tyD : PyData → String
  | .none => "NoneType" | .bool _ => "bool" | .int _ => "int" | .str _ => "str" | .list _ => "list" | .tuple _ => "tuple" | .dict _ => "dict"
theorem ty_of {K : PySem.W.Frag} {H : Hp} {v : V} {d : PyData} (h : Dp K H v d) : TyX K H v (.type (tyD d)) := by
  cases h with
  | non => exact .base .non
  | bl b => exact .base (.bl b)
  | int i => exact .base (.int i)
  | str x => exact .base (.str x)
  | lst hs _ =>
    rcases hs with (e | ⟨o, e⟩) | ⟨o, its, n, e, c, _⟩
    · exact .base (.lst e)
    · exact .base (.frz e)
    · exact .kList e c
  | tup hs _ =>
    rcases hs with (e | ⟨o, e⟩) | ⟨o, its, n, e, c, _⟩
    · exact .base (.tup e)
    · exact .fTuple e
    · exact .kTuple e c
theorem is_of {K : PySem.W.Frag} {H : Hp} {v : V} {d : PyData} {T : String} {b : Bool} {Q : VK} (h : Dp K H v d) (e : kitB (tyD d) T = some b) (q : Q (.bl b) H) : rIsi K [v, .ty T] H Q :=
  ⟨v, .ty T, _, .type T, b, rfl, .ty T, ty_of h, kit_ty e, q⟩
def isStrD : PyData → Bool | .str _ => true | _ => false
def isBoolD : PyData → Bool | .bool _ => true | _ => false
def isIntD : PyData → Bool | .bool _ => true | .int _ => true | _ => false
def isTupD : PyData → Bool | .tuple _ => true | _ => false
theorem is_str {K : PySem.W.Frag} {H : Hp} {v : V} {d : PyData} {Q : VK} (h : Dp K H v d) (q : Q (.bl (isStrD d)) H) : rIsi K [v, .ty "str"] H Q := by
  cases d with
  | none => exact is_of h (show kitB "NoneType" "str" = some false by decide +kernel) q
  | bool _ => exact is_of h (show kitB "bool" "str" = some false by decide +kernel) q
  | int _ => exact is_of h (show kitB "int" "str" = some false by decide +kernel) q
  | str _ => exact is_of h (show kitB "str" "str" = some true by decide +kernel) q
  | list _ => exact is_of h (show kitB "list" "str" = some false by decide +kernel) q
  | tuple _ => exact is_of h (show kitB "tuple" "str" = some false by decide +kernel) q
  | dict _ => exact is_of h (show kitB "dict" "str" = some false by decide +kernel) q
theorem is_bool {K : PySem.W.Frag} {H : Hp} {v : V} {d : PyData} {Q : VK} (h : Dp K H v d) (q : Q (.bl (isBoolD d)) H) : rIsi K [v, .ty "bool"] H Q := by
  cases d with
  | none => exact is_of h (show kitB "NoneType" "bool" = some false by decide +kernel) q
  | bool _ => exact is_of h (show kitB "bool" "bool" = some true by decide +kernel) q
  | int _ => exact is_of h (show kitB "int" "bool" = some false by decide +kernel) q
  | str _ => exact is_of h (show kitB "str" "bool" = some false by decide +kernel) q
  | list _ => exact is_of h (show kitB "list" "bool" = some false by decide +kernel) q
  | tuple _ => exact is_of h (show kitB "tuple" "bool" = some false by decide +kernel) q
  | dict _ => exact is_of h (show kitB "dict" "bool" = some false by decide +kernel) q
theorem is_int {K : PySem.W.Frag} {H : Hp} {v : V} {d : PyData} {Q : VK} (h : Dp K H v d) (q : Q (.bl (isIntD d)) H) : rIsi K [v, .ty "int"] H Q := by
  cases d with
  | none => exact is_of h (show kitB "NoneType" "int" = some false by decide +kernel) q
  | bool _ => exact is_of h (show kitB "bool" "int" = some true by decide +kernel) q
  | int _ => exact is_of h (show kitB "int" "int" = some true by decide +kernel) q
  | str _ => exact is_of h (show kitB "str" "int" = some false by decide +kernel) q
  | list _ => exact is_of h (show kitB "list" "int" = some false by decide +kernel) q
  | tuple _ => exact is_of h (show kitB "tuple" "int" = some false by decide +kernel) q
  | dict _ => exact is_of h (show kitB "dict" "int" = some false by decide +kernel) q
theorem is_tup {K : PySem.W.Frag} {H : Hp} {v : V} {d : PyData} {Q : VK} (h : Dp K H v d) (q : Q (.bl (isTupD d)) H) : rIsi K [v, .ty "tuple"] H Q := by
  cases d with
  | none => exact is_of h (show kitB "NoneType" "tuple" = some false by decide +kernel) q
  | bool _ => exact is_of h (show kitB "bool" "tuple" = some false by decide +kernel) q
  | int _ => exact is_of h (show kitB "int" "tuple" = some false by decide +kernel) q
  | str _ => exact is_of h (show kitB "str" "tuple" = some false by decide +kernel) q
  | list _ => exact is_of h (show kitB "list" "tuple" = some false by decide +kernel) q
  | tuple _ => exact is_of h (show kitB "tuple" "tuple" = some true by decide +kernel) q
  | dict _ => exact is_of h (show kitB "dict" "tuple" = some false by decide +kernel) q
/-- everything that stood stands -/
abbrev Ex := Evl.Ex
mutual
theorem dp_ex {K : PySem.W.Frag} {H H' : Hp} (e : Ex H H') : ∀ {d : PyData} {v : V}, Dp K H v d → Dp K H' v d
  | .none, _, h => by cases h; exact .non
  | .bool b, _, h => by cases h; exact .bl b
  | .int i, _, h => by cases h; exact .int i
  | .str x, _, h => by cases h; exact .str x
  | .list ds, _, h => by
    cases h with
    | lst hs ha => exact .lst (Evl.ex_l e hs) (dpa_ex e ha)
  | .tuple ds, _, h => by
    cases h with
    | tup hs ha => exact .tup (Evl.ex_t e hs) (dpa_ex e ha)
  | .dict _, _, h => by cases h
theorem dpa_ex {K : PySem.W.Frag} {H H' : Hp} (e : Ex H H') : ∀ {ds : List PyData} {vs : List V}, DpAll K H vs ds → DpAll K H' vs ds
  | [], _, h => by cases h; exact .nil
  | d :: ds, _, h => by
    cases h with
    | cons h1 h2 => exact .cons (dp_ex e h1) (dpa_ex e h2)
end
/-- tuples and what is locked stand; all else may change -/
def Kt (H H' : Hp) : Prop := (∀ a xs, H a = some (.tup xs) → H' a = some (.tup xs)) ∧ ∀ a o u, H a = some (.frz o u) → H' a = some (.frz o u)
theorem Kt.of_ex {H H' : Hp} (e : Ex H H') : Kt H H' := ⟨fun a xs h => e a _ h, fun a o u h => e a _ h⟩
theorem Kt.refl (H : Hp) : Kt H H := ⟨fun _ _ h => h, fun _ _ _ h => h⟩
theorem Kt.trans {H H1 H2 : Hp} (a : Kt H H1) (b : Kt H1 H2) : Kt H H2 := ⟨fun x xs h => b.1 x xs (a.1 x xs h), fun x o u h => b.2 x o u (a.2 x o u h)⟩
theorem Kt.upd {H : Hp} {p : Addr} {o o' : HO} (h : H p = some o) (m : Mut (some o)) : Kt H (upd H p o') := by
  refine ⟨fun a xs e => ?_, fun a ob u e => ?_⟩
  · rw [upd_ne (by rintro rfl; rw [h] at e; cases e; exact m)]
    exact e
  · rw [upd_ne (by rintro rfl; rw [h] at e; cases e; exact m)]
    exact e
theorem Kt.new {H : Hp} {p : Addr} {o : HO} (h : H p = none) : Kt H (L2.upd H p o) := Kt.of_ex (Evl.Ex.new h)
/-- what holds but at p -/
theorem Kt.but {H H' : Hp} {p : Addr} {o : HO} (h : H p = some o) (m : Mut (some o)) (k : ∀ b u, b ≠ p → H b = some u → H' b = some u) : Kt H H' := by
  refine ⟨fun a xs e => k a _ (by rintro rfl; rw [h] at e; cases e; exact m) e, fun a ob u e => k a _ (by rintro rfl; rw [h] at e; cases e; exact m) e⟩
mutual
/-- no list, no dict within -/
def flatD : PyData → Bool
  | .list _ | .dict _ => false
  | .tuple ds => flatDs ds
  | _ => true
def flatDs : List PyData → Bool
  | [] => true
  | d :: ds => flatD d && flatDs ds
end
theorem Kt.t {K : PySem.W.Frag} {H H' : Hp} (e : Kt H H') {a : Addr} {xs : List V} (h : SqT K H a xs) : SqT K H' a xs := by
  rcases h with (h | ⟨o, h⟩) | h
  · exact .inl (.inl (e.1 _ _ h))
  · exact .inl (.inr ⟨o, e.2 _ _ _ h⟩)
  · exact .inr h
mutual
theorem dp_kt {K : PySem.W.Frag} {H H' : Hp} (e : Kt H H') : ∀ {d : PyData} {v : V}, flatD d = true → Dp K H v d → Dp K H' v d
  | .none, _, _, h => by cases h; exact .non
  | .bool b, _, _, h => by cases h; exact .bl b
  | .int i, _, _, h => by cases h; exact .int i
  | .str x, _, _, h => by cases h; exact .str x
  | .list ds, _, f, h => by simp [flatD] at f
  | .tuple ds, _, f, h => by
    cases h with
    | tup hs ha => exact .tup (e.t hs) (dpa_kt e (by simpa [flatD] using f) ha)
  | .dict _, _, _, h => by cases h
theorem dpa_kt {K : PySem.W.Frag} {H H' : Hp} (e : Kt H H') : ∀ {ds : List PyData} {vs : List V}, flatDs ds = true → DpAll K H vs ds → DpAll K H' vs ds
  | [], _, _, h => by cases h; exact .nil
  | d :: ds, _, f, h => by
    cases h with
    | cons h1 h2 =>
      simp only [flatDs, Bool.and_eq_true] at f
      exact .cons (dp_kt e f.1 h1) (dpa_kt e f.2 h2)
end
theorem dpa_len {K : PySem.W.Frag} {H : Hp} : ∀ {ds : List PyData} {vs : List V}, DpAll K H vs ds → vs.length = ds.length
  | [], _, h => by cases h; rfl
  | d :: ds, _, h => by
    cases h with
    | cons h1 h2 => simp only [List.length_cons]; rw [dpa_len h2]
theorem dpa_get {K : PySem.W.Frag} {H : Hp} : ∀ {ds : List PyData} {vs : List V} {i : Nat} {d : PyData}, DpAll K H vs ds → ds[i]? = some d → ∃ v, vs[i]? = some v ∧ Dp K H v d
  | [], _, i, d, h, e => by simp at e
  | d0 :: ds, _, i, d, h, e => by
    cases h with
    | cons h1 h2 =>
      cases i with
      | zero =>
        simp at e
        subst e
        exact ⟨_, rfl, h1⟩
      | succ i =>
        obtain ⟨v, a, b⟩ := dpa_get h2 (by simpa using e)
        exact ⟨v, by simpa using a, b⟩
theorem dpa_app {K : PySem.W.Frag} {H : Hp} : ∀ {ds es : List PyData} {vs ws : List V}, DpAll K H vs ds → DpAll K H ws es → DpAll K H (vs ++ ws) (ds ++ es)
  | [], es, _, ws, h, h' => by cases h; exact h'
  | d :: ds, es, _, ws, h, h' => by
    cases h with
    | cons h1 h2 => exact .cons h1 (dpa_app h2 h')

/-! ### ends of tests -/
theorem ifT {b : Bool} {A B : Prop} (h : b = true → A) (h' : b = false → B) : if b = true then A else B := by
  cases b with
  | true => rw [if_pos rfl]; exact h rfl
  | false => rw [if_neg Bool.false_ne_true]; exact h' rfl
section
variable {X : Cx}
/-- what a def that raises lets out -/
theorem tkE {P : Program} {w : World} {K : PySem.W.Frag} {mg : Str → Option Value} {base : Heap} {N : List Str} {qual : Str} {scope : Scope} {f : Addr} {cd : Value} {A : Around} {outer : List Env} {s : Shared} {H : Hp} {E : XK} :
    Takes (cxOf (L2.CX P w) P w K mg base N qual scope f cd A outer s H E) (fun cls d _ H => E cls d H) := takes_of rfl rfl rfl rfl
theorem passT {P : Program} {w : World} {K : PySem.W.Frag} {mg : Str → Option Value} {base : Heap} {N : List Str} {qual : Str} {scope : Scope} {f : Addr} {cd : Value} {A : Around} {outer : List Env} {s : Shared} {H : Hp} {E : XK} :
    Passes (L2.CX P w) (cxOf (L2.CX P w) P w K mg base N qual scope f cd A outer s H E) E := passes_call tkE (fun _ _ _ _ h => h)
end
end KX

namespace KX
open PySem PySem.Spec PyProof.Rows L2
theorem u65 {k : Nat} {A : Around} (r : Room k A) : A.units + 65 < cLine := by
  have := r.un
  omega
/-- a test by truth -/
def tTru (K : PySem.W.Frag) (ta : TE) : TT := fun σ H Q => ta σ H fun x H' => ∃ k, TruV K x H' k ∧ Q k H'
theorem pt_tru {X : Cx} {a : Expr} {ta : TE} (ha : PE X a ta) (he : ∀ whole, isTrue a X.env whole = (do let v ← whole; standAt a.pos; holding [v] (truthy v)) := by intro _; rfl) : PT X a (tTru X.K ta) := pt_truth ha he
/-- raise of an own exception with a text -/
def tRs (C : Addr) (W : WX) : TS := fun _ σ H => W (.ref C) none σ H
theorem ps_rs {X : Cx} {W : WX} {C : Addr} {x m : Str} {j : Nat} {p p2 pos pos2 : Pos} (hc : X.calm = true) (tk : Takes X W) (T : ExcAt X.K X.mg x C) (hg : Gl X x := by rfl) (hdb : (x == ("__debug__" : Str)) = false := by decide) :
    PS X (.Raise (some (.Call (.Name x p) [.Constant (.str m) j p2] [] pos)) none pos2) (tRs C W) := ps_raise hc tk (pm_own T hg hdb)

section
variable {K : PySem.W.Frag} {σ : L2.St} {H : Hp} {Q : VK} {ta tb tc te : TE} {t : TA} {D : Ends} {E : XK}
theorem q_var {i : Nat} {v : V} (h : σ[i]? = some (some v)) (q : Q v H) : tVar i σ H Q := ⟨v, h, q⟩
theorem q_c {v : V} (q : Q v H) : tC v σ H Q := q
theorem q_op {r : R2} (h : ta σ H fun x H1 => tb σ H1 fun y H2 => r x y H2 Q) : tOp r ta tb σ H Q := h
theorem q_un {r : V → Hp → VK → Prop} (h : ta σ H fun x H1 => r x H1 Q) : tUn r ta σ H Q := h
theorem q_neg {i : Int} (q : Q (.int (-i)) H) : rU (fun i => .int (-i)) (.int i) H Q := ⟨i, rfl, q⟩
theorem q_cb {r : List V → Hp → VK → Prop} (h : t σ H fun vs H1 => r vs H1 Q) : tCB r t σ H Q := h
theorem q_nil {R : List V → Hp → Prop} (q : R [] H) : tNil σ H R := q
theorem q_cons {tr : TA} {R : List V → Hp → Prop} (h : te σ H fun x H1 => tr σ H1 fun xs H2 => R (x :: xs) H2) : tCons te tr σ H R := h
theorem q_tup (h : t σ H fun xs H1 => xs.length ≤ sizeLine ∧ ∀ p, H1 p = none → Q (.ref p) (upd H1 p (.tup xs))) : tTup t σ H Q := h
theorem q_lst (h : t σ H fun xs H1 => xs.length ≤ sizeLine ∧ ∀ p, H1 p = none → Q (.ref p) (upd H1 p (.lst xs))) : tLst t σ H Q := h
theorem q_if {tt : TT} (h : tt σ H fun c H1 => if c = true then ta σ H1 Q else tb σ H1 Q) : tIf tt ta tb σ H Q := h
theorem q_andT (h : ta σ H fun x H1 => ∃ k, TruV K x H1 k ∧ if k = true then tb σ H1 Q else Q x H1) : tAndT K ta tb σ H Q := h
theorem q_orT (h : ta σ H fun x H1 => ∃ k, TruV K x H1 k ∧ if k = true then Q x H1 else tb σ H1 Q) : tOrT K ta tb σ H Q := h
theorem q_notT (h : ta σ H fun x H1 => ∃ k, TruV K x H1 k ∧ Q (.bl (!k)) H1) : tNotT K ta σ H Q := h
theorem q_chain {r r' : R2} (h : ta σ H fun x H1 => tb σ H1 fun y H2 => r x y H2 fun z H3 => ∃ k, z = .bl k ∧ (if k = true then tc σ H3 fun w' H4 => r' y w' H4 Q else Q (.bl false) H3)) : tChain r r' ta tb tc σ H Q := h
theorem q_call {sp : Sp} {dvs : List V} (h : t σ H fun vs H1 => sp (vs ++ dvs) H1 Q E) : tCall sp dvs E t σ H Q := h
theorem q_callS {sp : Sp} {ES : L2.St → XK} (h : t σ H fun vs H1 => sp vs H1 Q (ES σ)) : tCallS sp ES t σ H Q := h
theorem q_fld {f : Str} (h : ta σ H fun x H1 => ∃ a C dx fs v, x = .ref a ∧ H1 a = some (.ins C dx fs) ∧ Cls K C ∧ NoAttr K C f ∧ fs.lookup f = some v ∧ Q v H1) : tFld K ta f σ H Q := h
theorem q_bm {T : String} {r : V → List V → Hp → VK → Prop} (h : ta σ H fun x H1 => tyV K T x H1 ∧ t σ H1 fun xs H2 => r x xs H2 Q) : tBM K T r ta t σ H Q := h
theorem q_bm0 {T : String} {r : V → List V → Hp → VK → Prop} (h : ta σ H fun x H1 => tyV K T x H1 ∧ r x [] H1 Q) : tBM0 K T r ta σ H Q := h
theorem q_sl {r : V → Option Int → Option Int → Hp → VK → Prop} {tl th : TO} (h : te σ H fun x H1 => tl σ H1 fun l H2 => th σ H2 fun u H3 => r x l u H3 Q) : tSl r te tl th σ H Q := h
theorem q_nopart {R : Option Int → Hp → Prop} (q : R none H) : tNoPart σ H R := q
theorem q_part {R : Option Int → Hp → Prop} (h : te σ H fun x H1 => ∃ i, x = .int i ∧ R (some i) H1) : tPart te σ H R := h
theorem q_meth {C : Addr} {m : Str} {sp : Sp} {dvs : List V} (h : ta σ H fun x H1 => ∃ a dx fs, x = .ref a ∧ H1 a = some (.ins C dx fs) ∧ fs.lookup m = none ∧ t σ H1 fun vs H2 => sp (x :: (vs ++ dvs)) H2 Q E) : tMeth C m sp dvs E ta t σ H Q := h
theorem q_make {C : Addr} {sp : Sp} {dvs : List V} (h : t σ H fun vs H1 => ∀ x dx, H1 x = none → H1 dx = none → dx ≠ x → sp (.ref x :: (vs ++ dvs)) (upd (upd H1 dx (.own x)) x (.ins C dx [])) (fun v H2 => v = .non ∧ Q (.ref x) H2) E) : tMake C sp dvs E t σ H Q := h
-- tests
variable {R : Bool → Hp → Prop} {tt uu : TT}
theorem q_test (h : te σ H fun x H' => ∃ k, x = .bl k ∧ R k H') : tTest te σ H R := h
theorem q_tB (h : te σ H fun x H' => ∃ k, x = .bl k ∧ R k H') : tB te σ H R := h
theorem q_tru (h : te σ H fun x H' => ∃ k, TruV K x H' k ∧ R k H') : tTru K te σ H R := h
theorem q_and (h : tt σ H fun c H1 => if c = true then uu σ H1 R else R false H1) : tAnd tt uu σ H R := h
theorem q_or (h : tt σ H fun c H1 => if c = true then R true H1 else uu σ H1 R) : tOr tt uu σ H R := h
theorem q_not (h : tt σ H fun c H1 => R (!c) H1) : tNot tt σ H R := h
theorem q_blk {k : Bool} {R : Bool → Prop} (q : R k) : ∃ c, V.bl k = V.bl c ∧ R c := ⟨k, rfl, q⟩
theorem q_tv {k : Bool} {R : Bool → Prop} (q : R k) : ∃ c, TruV K (V.bl k) H c ∧ R c := ⟨k, rfl, q⟩
-- statements
variable {s1 s2 : TS} {g : TG}
theorem q_seq (h : s1 { D with nx := s2 D } σ H) : tSeq s1 s2 D σ H := h
theorem q_ifs (h : tt σ H fun b H1 => if b = true then s1 D σ H1 else s2 D σ H1) : tIfS tt s1 s2 D σ H := h
theorem q_asg (h : te σ H fun x H1 => g x σ H1 D.nx) : tAsg te g D σ H := h
theorem q_gname {i : Nat} {v : V} {R : L2.St → Hp → Prop} (q : R (σ.set i (some v)) H) : gName i v σ H R := q
theorem q_gsub {to ti : TE} {r : TSet} {v : V} {R : L2.St → Hp → Prop} (h : to σ H fun o H1 => ti σ H1 fun i H2 => r o i v H2 fun H3 => R σ H3) : gSub to ti r v σ H R := h
theorem q_ret (h : te σ H D.rt) : tRet te D σ H := h
theorem q_retN (h : D.rt .non H) : tRetN D σ H := h
theorem q_drop (h : te σ H fun _ H1 => D.nx σ H1) : tDrop te D σ H := h
theorem q_next (h : D.nx σ H) : tNext D σ H := h
theorem q_par {i j : Nat} (h : t σ H fun vs H1 => ∃ v w, vs = [v, w] ∧ D.nx ((σ.set i (some v)).set j (some w)) H1) : tPar i j t D σ H := h
theorem q_sfld {f : Str} (h : tb σ H fun y H1 => ta σ H1 fun x H2 => ∃ a C dx fs, x = .ref a ∧ H2 a = some (.ins C dx fs) ∧ Cls K C ∧ NoAttr K C f ∧ fs.length < 1000 ∧ D.nx σ (upd H2 a (.ins C dx (putF f y fs)))) : sFld K ta tb f D σ H := h
theorem q_rs {C : Addr} {W : WX} (h : W (.ref C) none σ H) : tRs C W D σ H := h
theorem q_aug {i : Nat} {ti : TIp} {x : V} (hx : σ[i]? = some (some x)) (h : te σ H fun y H1 => ti x y H1 fun z H2 => D.nx (σ.set i (some z)) H2) : tAug i te ti D σ H := ⟨x, hx, h⟩
-- operators at known values
theorem q_len {x : V} {n : Nat} {r : VK} (h : LenV K x H n) (q : r (.int n) H) : (fun xs H Q => ∃ x n, xs = [x] ∧ LenV K x H n ∧ Q (V.int n) H) [x] H r := ⟨x, n, rfl, h, q⟩
theorem q_addI {i j : Int} (q : Q (.int (i + j)) H) : rAddU K (.int i) (.int j) H Q := .inl ⟨i, j, rfl, rfl, q⟩
theorem q_addS {a b : List Nat} (hz : a.length + b.length ≤ sizeLine) (q : Q (.str (tx (a ++ b))) H) : rAddU K (.str (tx a)) (.str (tx b)) H Q :=
  .inr (.inl ⟨tx a, tx b, rfl, rfl, by rw [tx_len, tx_len]; exact hz, by rw [tx_app]; exact q⟩)
theorem q_subI {i j : Int} (q : Q (.int (i - j)) H) : rI0 (fun i j => V.int (i - j)) (.int i) (.int j) H Q := ⟨i, j, rfl, rfl, q⟩
theorem q_eqS {x y : V} (hs : scal x y = true) (q : Q (.bl (decide (x = y))) H) : rEqU K x y H Q := .inl ⟨hs, q⟩
theorem q_neS {x y : V} (hs : scal x y = true) (q : Q (.bl (!decide (x = y))) H) : rNeU K x y H Q := .inl ⟨hs, q⟩
theorem q_eqI {i j : Int} (q : Q (.bl (decide (i = j))) H) : rEqU K (.int i) (.int j) H Q := .inl ⟨rfl, by
  have e : decide (V.int i = V.int j) = decide (i = j) := by
    rw [decide_eq_decide]
    exact ⟨fun z => V.int.inj z, fun z => by rw [z]⟩
  rw [e]
  exact q⟩
theorem q_neI {i j : Int} (q : Q (.bl (!decide (i = j))) H) : rNeU K (.int i) (.int j) H Q := .inl ⟨rfl, by
  have e : decide (V.int i = V.int j) = decide (i = j) := by
    rw [decide_eq_decide]
    exact ⟨fun z => V.int.inj z, fun z => by rw [z]⟩
  rw [e]
  exact q⟩
theorem q_eqT {a b : List Nat} (q : Q (.bl (decide (a = b))) H) : rEqU K (.str (tx a)) (.str (tx b)) H Q := .inl ⟨rfl, by rw [tx_dec]; exact q⟩
theorem q_neT {a b : List Nat} (q : Q (.bl (!decide (a = b))) H) : rNeU K (.str (tx a)) (.str (tx b)) H Q := .inl ⟨rfl, by rw [tx_dec]; exact q⟩
end

/-! ### loops -/
section
variable {K : PySem.W.Frag} {σ : L2.St} {H : Hp} {D : Ends} {tl : TE} {g : TG} {tb : TS}
theorem q_forL (h : tl σ H fun x H1 => ∃ (a : Addr) (xs : List V) (Pv : Nat → L2.St → Hp → Prop), x = .ref a ∧ SqL K H1 a xs ∧ Pv 0 σ H1 ∧ (∀ i σ H, i ≤ xs.length → Pv i σ H → SqL K H a xs) ∧
    (∀ i x σ H, xs[i]? = some x → Pv i σ H → g x σ H fun σ2 H2 => tb { D with nx := Pv (i + 1), ct := Pv (i + 1), bk := D.nx } σ2 H2) ∧ ∀ σ H, Pv xs.length σ H → D.nx σ H)
    (mono : ∀ (R R' : VK), (∀ x H, R x H → R' x H) → tl σ H R → tl σ H R') : tFor (iList K tl) g tb D σ H :=
  mono _ _ (fun x H1 ⟨a, xs, Pv, e, hs, h0, hl, ht, hd⟩ => ⟨a, e, ⟨xs, hs⟩, for_list Pv h0 hl ht hd⟩) h
/-- a list that stands -/
theorem q_forLv {i : Nat} {a : Addr} {xs : List V} (e : σ[i]? = some (some (.ref a))) (hs : SqL K H a xs) (Pv : Nat → L2.St → Hp → Prop) (h0 : Pv 0 σ H) (hl : ∀ i σ H, i ≤ xs.length → Pv i σ H → SqL K H a xs)
    (ht : ∀ i x σ H, xs[i]? = some x → Pv i σ H → g x σ H fun σ2 H2 => tb { D with nx := Pv (i + 1), ct := Pv (i + 1), bk := D.nx } σ2 H2) (hd : ∀ σ H, Pv xs.length σ H → D.nx σ H) : tFor (iList K (tVar i)) g tb D σ H :=
  ⟨_, e, a, rfl, ⟨xs, hs⟩, for_list Pv h0 hl ht hd⟩
end
end KX

namespace KX
open PySem PySem.Spec PyProof.Rows L2
/-! the same rules with the written part named, so that a reading never speaks of the context -/
section
variable {X : Cx} {K : PySem.W.Frag} {a b e o : Expr} {ta tb te to : TE} {es rest : List Expr} {pos apos cpos : Pos} {t : TA}
theorem w_or (ha : PE X a ta) (hb : PE X (.BoolOp .Or (b :: rest) pos) tb) (hK : X.K = K := by rfl) : PE X (.BoolOp .Or (a :: b :: rest) pos) (tOrT K ta tb) := by subst hK; exact pe_orT ha hb
theorem w_and (ha : PE X a ta) (hb : PE X (.BoolOp .And (b :: rest) pos) tb) (hK : X.K = K := by rfl) : PE X (.BoolOp .And (a :: b :: rest) pos) (tAndT K ta tb) := by subst hK; exact pe_andT ha hb
theorem w_not (ha : PE X a ta) (hK : X.K = K := by rfl) : PE X (.UnaryOp .Not a pos) (tNotT K ta) := by subst hK; exact pe_notT ha
theorem w_tru (ha : PE X a ta) (hK : X.K = K := by rfl) (he : ∀ whole, isTrue a X.env whole = (do let v ← whole; standAt a.pos; holding [v] (truthy v)) := by intro _; rfl) : PT X a (tTru K ta) := by subst hK; exact pt_tru ha he
theorem w_isi (hK : X.K = K := by rfl) : CallR X (.builtin "isinstance") (rIsi K) := by subst hK; exact call_isi
theorem w_isiT (hK : X.K = K := by rfl) : CallR X (.builtin "isinstance") (rIsiT K) := by subst hK; exact call_isiT
def rLenU (K : PySem.W.Frag) : List V → Hp → VK → Prop := fun xs H Q => ∃ x n, xs = [x] ∧ LenV K x H n ∧ Q (.int (n : Nat)) H
theorem w_len (hK : X.K = K := by rfl) : CallR X (.builtin "len") (rLenU K) := by subst hK; exact call_len
theorem w_all (hc : X.calm = true) (hK : X.K = K := by rfl) : CallR X (.builtin "all") (rAll K) := by subst hK; exact cr_all hc
theorem w_any (hc : X.calm = true) (hK : X.K = K := by rfl) : CallR X (.builtin "any") (rAny K) := by subst hK; exact cr_any hc
def rAbs : List V → Hp → VK → Prop := fun xs H Q => ∃ i : Int, xs = [.int i] ∧ Q (.int (if i < 0 then -i else i)) H
theorem w_abs : CallR X (.builtin "abs") rAbs := call_abs
def rTupleU (K : PySem.W.Frag) : List V → Hp → VK → Prop := fun xs H Q => ∃ p ys, xs = [.ref p] ∧ ((SqL K H p ys ∧ ∀ l, H l = none → Q (.ref l) (upd H l (.tup ys))) ∨ (SqT K H p ys ∧ Q (.ref p) H))
theorem w_tuple (hK : X.K = K := by rfl) : CallR X (.type "tuple") (rTupleU K) := by subst hK; exact call_tuple_of
def rListU (K : PySem.W.Frag) : List V → Hp → VK → Prop := fun xs H Q => ∃ p ys, xs = [.ref p] ∧ (SqL K H p ys ∨ SqT K H p ys) ∧ ∀ l, H l = none → Q (.ref l) (upd H l (.lst ys))
theorem w_list (hK : X.K = K := by rfl) : CallR X (.type "list") (rListU K) := by subst hK; exact call_list_of
theorem w_repr (hu : X.A.units + 400 < cLine) (hg : X.A.guards = some []) (hK : X.K = K := by rfl) : CallR X (.builtin "repr") (rRepr K) := by subst hK; exact kx_repr (by omega) hg
theorem w_ix (hK : X.K = K := by rfl) : IxR X (rIx K) := by subst hK; exact ix_seq
def rSlU (K : PySem.W.Frag) : V → Option Int → Option Int → Hp → VK → Prop := fun x lo hi H Q => rSlS x lo hi H Q ∨ rSlL K x lo hi H Q
theorem w_sl (hK : X.K = K := by rfl) : SlR X (rSlU K) := by subst hK; exact k_sl
def rJoin (K : PySem.W.Frag) : V → List V → Hp → VK → Prop := fun x xs H Q => ∃ a p, ∃ ys : List Str, x = .str a ∧ xs = [.ref p] ∧ (SqL K H p (ys.map V.str) ∨ SqT K H p (ys.map V.str)) ∧ (ys.map (·.length)).sum + ys.length * a.length ≤ 16777216 ∧ Q (.str (Txt.join a ys)) H
theorem w_join (hK : X.K = K := by rfl) : MtR X "str.join" (rJoin K) := by subst hK; exact mt_join
theorem w_eq (hu : X.A.units + 65 < cLine) (hK : X.K = K := by rfl) : OpR X (compareOp .Eq) (rEqU K) := by subst hK; exact k_eq hu
theorem w_ne (hu : X.A.units + 65 < cLine) (hK : X.K = K := by rfl) : OpR X (compareOp .NotEq) (rNeU K) := by subst hK; exact k_ne hu
theorem w_in (hu : X.A.units + 65 < cLine) (hK : X.K = K := by rfl) : OpR X (compareOp .In) (rInU K) := by subst hK; exact k_in hu
theorem w_notin (hu : X.A.units + 65 < cLine) (hK : X.K = K := by rfl) : OpR X (compareOp .NotIn) (rNotInU K) := by subst hK; exact k_notin hu
theorem w_add (hK : X.K = K := by rfl) : OpR X (binaryOp .Add) (rAddU K) := by subst hK; exact k_add
theorem wk_bm {T : String} {r : V → List V → Hp → VK → Prop} (h : PE X e (tBM X.K T r to t)) (hK : X.K = K := by rfl) : PE X e (tBM K T r to t) := by subst hK; exact h
theorem w_bm0 {T id : String} {name : Str} {r : V → List V → Hp → VK → Prop} (pa : PlainAttrs T) (slot : Slot T name id) (hty : typeOf (.builtin id) = pure (.type "method_descriptor")) (hm : MtR X id r) (ho : PE X o to) (hK : X.K = K := by rfl)
    (hbase : attributeBase o name X.env (eval o X.env) = eval o X.env := by rfl) (hline : (apos.endLine == cpos.line) = true := by rfl) : PE X (.Call (.Attribute o name apos) [] [] cpos) (tBM0 K T r to) := by
  subst hK
  exact pe_bm0 pa slot hty hm ho hbase hline
theorem w_fld {f : Str} (hl : PE X e te) (hK : X.K = K := by rfl) (hb : attributeBase e f X.env (eval e X.env) = eval e X.env := by rfl) : PE X (.Attribute e f pos) (tFld K te f) := by subst hK; exact pe_fld hl hb
theorem w_sfld {f : Str} {pos' : Pos} {value : Expr} {tv : TE} (ho : PE X o to) (hv : PE X value tv) (hK : X.K = K := by rfl) (hs : swapsWith value (some (.Attribute o f pos')) pos.line X.env = pure false := by rfl) :
    PS X (.Assign [.Attribute o f pos'] value pos) (sFld K to tv f) := by subst hK; exact ps_fld ho hv hs
theorem w_ilist {tg l : Expr} {tl : TE} (hl : PE X l tl) (hK : X.K = K := by rfl) : PI X tg l (iList K tl) := by subst hK; exact pi_list hl
theorem w_itup {tg l : Expr} {tl : TE} (hl : PE X l tl) (hK : X.K = K := by rfl) : PI X tg l (iTup K tl) := by subst hK; exact pi_tup hl
theorem w_gtup {es : List Expr} {k : Nat} {t : TGs} {n : Nat} (hc : X.calm = true) (h : PGs X es t) (hK : X.K = K := by rfl)
    (hn : (assignEach es X.env).length = n := by rfl) (hst : (assignEach es X.env).findIdx? (·.1) = none := by rfl) : PG X (.Tuple es k pos) (gTup K n t) := by subst hK; exact pg_tup hc h hn hst
end
end KX

namespace KX
open PySem PySem.Spec PyProof.Rows L2
section
variable {K : PySem.W.Frag} {σ : L2.St} {H : Hp} {Q : VK} {D : Ends}
theorem sml {n : Nat} (h : Nat.ble n 1000 = true) : n ≤ sizeLine := Nat.le_trans (Nat.le_of_ble_eq_true h) (by decide)
theorem ifF {b : Bool} {A B : Prop} (h : b = false) (q : B) : if b = true then A else B := by subst h; exact iteF q
theorem ifY {b : Bool} {A B : Prop} (h : b = true) (q : A) : if b = true then A else B := by subst h; rw [if_pos rfl]; exact q
theorem q_ltI {i j : Int} (q : Q (.bl (decide (i < j))) H) : rLtU (.int i) (.int j) H Q := .inl ⟨i, j, rfl, rfl, q⟩
theorem q_leI {i j : Int} (q : Q (.bl (decide (i ≤ j))) H) : rLeU (.int i) (.int j) H Q := .inl ⟨i, j, rfl, rfl, q⟩
theorem q_gtI {i j : Int} (q : Q (.bl (decide (j < i))) H) : rGtU (.int i) (.int j) H Q := .inl ⟨i, j, rfl, rfl, q⟩
theorem q_geI {i j : Int} (q : Q (.bl (decide (j ≤ i))) H) : rGeU (.int i) (.int j) H Q := .inl ⟨i, j, rfl, rfl, q⟩
theorem q_leT {a b : List Nat} (q : Q (.bl (!decide (b < a))) H) : rLeU (.str (tx a)) (.str (tx b)) H Q := .inr ⟨tx a, tx b, rfl, rfl, by rw [tx_list, tx_list]; exact q⟩
theorem q_lenS {a : List Nat} (hz : a.length ≤ sizeLine) (q : Q (.int (a.length : Nat)) H) : rLenU K [.str (tx a)] H Q := ⟨.str (tx a), a.length, rfl, ⟨by rw [tx_len]; exact hz, (tx_len a).symm⟩, q⟩
theorem q_lenL {p : Addr} {xs : List V} (h : SqL K H p xs) (q : Q (.int (xs.length : Nat)) H) : rLenU K [.ref p] H Q := ⟨.ref p, xs.length, rfl, .inl ⟨xs, h, rfl⟩, q⟩
theorem q_lenT {p : Addr} {xs : List V} (h : SqT K H p xs) (q : Q (.int (xs.length : Nat)) H) : rLenU K [.ref p] H Q := ⟨.ref p, xs.length, rfl, .inr ⟨xs, h, rfl⟩, q⟩
theorem q_ixS {a : List Nat} {i : Nat} {c : Nat} (hz : a.length ≤ sizeLine) (e : a[i]? = some c) (q : Q (.str (tx [c])) H) : rIx K (.str (tx a)) (.int (i : Nat)) H Q :=
  .inr (.inr ⟨tx a, (i : Nat), c, rfl, rfl, by rw [tx_len]; exact hz, by rw [tx_list]; exact atI_nat e, q⟩)
theorem q_ixL {p : Addr} {xs : List V} {i : Nat} {v : V} (h : SqL K H p xs) (e : xs[i]? = some v) (q : Q v H) : rIx K (.ref p) (.int (i : Nat)) H Q := .inl ⟨p, xs, (i : Nat), v, rfl, rfl, h, atI_nat e, q⟩
theorem q_ixT {p : Addr} {xs : List V} {i : Nat} {v : V} (h : SqT K H p xs) (e : xs[i]? = some v) (q : Q v H) : rIx K (.ref p) (.int (i : Nat)) H Q := .inr (.inl ⟨p, xs, (i : Nat), v, rfl, rfl, h, atI_nat e, q⟩)
theorem q_inS {c : Nat} {z : Str} {b : Bool} (e : decide (c ∈ z.cps.toList) = b) (q : Q (.bl b) H) : rInU K (.str (tx [c])) (.str z) H Q := .inl ⟨c, z, rfl, rfl, by rw [e]; exact q⟩
theorem q_ninS {c : Nat} {z : Str} {b : Bool} (e : decide (c ∈ z.cps.toList) = b) (q : Q (.bl (!b)) H) : rNotInU K (.str (tx [c])) (.str z) H Q := .inl ⟨c, z, rfl, rfl, by rw [e]; exact q⟩
theorem q_all {p : Addr} {bs : List Bool} (h : H p = some (.lst (bs.map V.bl))) (q : Q (.bl (bs.all id)) H) : rAll K [.ref p] H Q := ⟨p, bs, rfl, SqL.of h, q⟩
theorem q_any {p : Addr} {bs : List Bool} (h : H p = some (.lst (bs.map V.bl))) (q : Q (.bl (bs.any id)) H) : rAny K [.ref p] H Q := ⟨p, bs, rfl, SqL.of h, q⟩
theorem q_abs {i : Int} (q : Q (.int (if i < 0 then -i else i)) H) : rAbs [.int i] H Q := ⟨i, rfl, q⟩
theorem q_intI {i : Int} (q : Q (.int i) H) : rInt [.int i] H Q := .inl ⟨i, rfl, q⟩
theorem q_mod {i j : Int} (h : 0 < j) (q : Q (.int (i % j)) H) : rI (fun _ j => 0 < j) (fun i j => V.int (i % j)) (.int i) (.int j) H Q := ⟨i, j, rfl, rfl, h, q⟩
theorem q_fdiv {i j : Int} (h : 0 < j) (h2 : j < 1073741824) (q : Q (.int (i / j)) H) : rI CDiv (fun i j => V.int (i / j)) (.int i) (.int j) H Q := ⟨i, j, rfl, rfl, ⟨h, h2⟩, q⟩
theorem q_mulI {i j : Int} (h : CMul i j) (q : Q (.int (i * j)) H) : rMulU (.int i) (.int j) H Q := .inl ⟨i, j, rfl, rfl, h, q⟩
theorem q_pow {i j : Int} (h : CPow i j) (q : Q (.int (i ^ j.toNat)) H) : rI CPow (fun i j => V.int (i ^ j.toNat)) (.int i) (.int j) H Q := ⟨i, j, rfl, rfl, h, q⟩
theorem q_app {l : Addr} {xs : List V} {y : V} (h : H l = some (.lst xs)) (hz : xs.length < sizeLine) (q : Q .non (upd H l (.lst (xs ++ [y])))) : rAppend (.ref l) [y] H Q := ⟨l, xs, y, rfl, rfl, h, hz, q⟩
theorem q_pop {l : Addr} {xs : List V} {y : V} (h : H l = some (.lst xs)) (e : xs[xs.length - 1]? = some y) (q : Q y (upd H l (.lst xs.dropLast))) : rPop (.ref l) [] H Q := ⟨l, xs, y, rfl, rfl, h, e, q⟩
theorem ty_lst {l : Addr} {xs : List V} (h : H l = some (.lst xs)) : tyV K "list" (.ref l) H := .inl ⟨rfl, xs, SqL.of h⟩
theorem ty_str {x : Str} : tyV K "str" (.str x) H := rfl
theorem q_slS {a : List Nat} {lo hi : Option Int} (hz : a.length ≤ sizeLine) (q : Q (.str (tx ((a.drop (HT.sIx a.length 0 lo)).take (HT.sIx a.length a.length hi - HT.sIx a.length 0 lo)))) H) : rSlU K (.str (tx a)) lo hi H Q := by
  refine .inl ⟨tx a, rfl, by rw [tx_len]; exact hz, ?_⟩
  have e : cutS (tx a) lo hi = tx ((a.drop (HT.sIx a.length 0 lo)).take (HT.sIx a.length a.length hi - HT.sIx a.length 0 lo)) := by
    refine (tx_of _).symm.trans (congrArg tx ?_)
    unfold cutS
    simp [tx, Array.toList_extract, List.extract_eq_take_drop]
    first | rfl | skip
  rw [e]
  exact q
end
section
variable {K : PySem.W.Frag} {σ : L2.St} {H : Hp} {Q : VK} {ta tb tc : TE} {tt uu : TT} {R : Bool → Hp → Prop}
/-- what evaluates without a change of the heap -/
abbrev Pu (te : TE) (σ : L2.St) (H : Hp) (v : V) : Prop := ∀ R : VK, R v H → te σ H R
abbrev Pt (tt : TT) (σ : L2.St) (H : Hp) (b : Bool) : Prop := ∀ R : Bool → Hp → Prop, R b H → tt σ H R
theorem q_chainLt {i j k : Int} (ha : Pu ta σ H (.int i)) (hb : Pu tb σ H (.int j)) (hc : Pu tc σ H (.int k)) (q : Q (.bl (decide (i < j) && decide (j < k))) H) : tChain rLtU rLtU ta tb tc σ H Q := by
  refine ha _ (hb _ (q_ltI ⟨_, rfl, ifT (fun h => hc _ (q_ltI ?_)) (fun h => ?_)⟩))
  · rw [h, Bool.true_and] at q
    exact q
  · rw [h, Bool.false_and] at q
    exact q
theorem q_chainLe {i j k : Int} (ha : Pu ta σ H (.int i)) (hb : Pu tb σ H (.int j)) (hc : Pu tc σ H (.int k)) (q : Q (.bl (decide (i ≤ j) && decide (j ≤ k))) H) : tChain rLeU rLeU ta tb tc σ H Q := by
  refine ha _ (hb _ (q_leI ⟨_, rfl, ifT (fun h => hc _ (q_leI ?_)) (fun h => ?_)⟩))
  · rw [h, Bool.true_and] at q
    exact q
  · rw [h, Bool.false_and] at q
    exact q
theorem q_chainT {i j k : List Nat} (ha : Pu ta σ H (.str (tx i))) (hb : Pu tb σ H (.str (tx j))) (hc : Pu tc σ H (.str (tx k))) (q : Q (.bl (!decide (j < i) && !decide (k < j))) H) : tChain rLeU rLeU ta tb tc σ H Q := by
  refine ha _ (hb _ (q_leT ⟨_, rfl, ifT (fun h => hc _ (q_leT ?_)) (fun h => ?_)⟩))
  · rw [h, Bool.true_and] at q
    exact q
  · rw [h, Bool.false_and] at q
    exact q
theorem q_andB {a b : Bool} (ha : Pt tt σ H a) (hb : a = true → Pt uu σ H b) (q : R (a && b) H) : tAnd tt uu σ H R := by
  refine ha _ (ifT (fun h => hb h _ ?_) (fun h => ?_))
  · rw [h, Bool.true_and] at q
    exact q
  · rw [h, Bool.false_and] at q
    exact q
theorem q_orB {a b : Bool} (ha : Pt tt σ H a) (hb : a = false → Pt uu σ H b) (q : R (a || b) H) : tOr tt uu σ H R := by
  refine ha _ (ifT (fun h => ?_) (fun h => hb h _ ?_))
  · rw [h, Bool.true_or] at q
    exact q
  · rw [h, Bool.false_or] at q
    exact q
theorem q_andV {a b : Bool} (ha : Pu ta σ H (.bl a)) (hb : a = true → Pu tb σ H (.bl b)) (q : Q (.bl (a && b)) H) : tAndT K ta tb σ H Q := by
  refine ha _ ⟨a, rfl, ifT (fun h => hb h _ ?_) (fun h => ?_)⟩
  · rw [h, Bool.true_and] at q
    exact q
  · rw [h] at q ⊢
    exact q
theorem q_orV {a b : Bool} (ha : Pu ta σ H (.bl a)) (hb : a = false → Pu tb σ H (.bl b)) (q : Q (.bl (a || b)) H) : tOrT K ta tb σ H Q := by
  refine ha _ ⟨a, rfl, ifT (fun h => ?_) (fun h => hb h _ ?_)⟩
  · rw [h] at q ⊢
    exact q
  · rw [h, Bool.false_or] at q
    exact q
theorem q_eqNS {i : Int} {a : List Nat} (q : Q (.bl false) H) : rEqU K (.int i) (.str (tx a)) H Q := .inl ⟨rfl, q⟩
theorem q_neNS {i : Int} {a : List Nat} (q : Q (.bl true) H) : rNeU K (.int i) (.str (tx a)) H Q := .inl ⟨rfl, q⟩
end
section
variable {K : PySem.W.Frag} {H : Hp} {Q : VK}
theorem q_pi {i : Int} {R : Int → Prop} (q : R i) : ∃ j, V.int i = V.int j ∧ R j := ⟨i, rfl, q⟩
theorem q_slTo {a : List Nat} (k : Nat) (hz : a.length ≤ sizeLine) (q : Q (.str (tx (a.take k))) H) : rSlU K (.str (tx a)) none (some (k : Int)) H Q := by
  refine q_slS hz ?_
  rw [HT.sIx_nat, HT.sIx_none, List.drop_zero, Nat.sub_zero]
  have e : a.take (min k a.length) = a.take k := by
    by_cases h : k ≤ a.length
    · rw [Nat.min_eq_left h]
    · rw [Nat.min_eq_right (by omega), List.take_length, List.take_of_length_le (by omega)]
  rw [e]
  exact q
theorem q_slFrom {a : List Nat} (k : Nat) (hz : a.length ≤ sizeLine) (q : Q (.str (tx (a.drop k))) H) : rSlU K (.str (tx a)) (some (k : Int)) none H Q := by
  refine q_slS hz ?_
  rw [HT.sIx_nat, HT.sIx_none]
  have e : (a.drop (min k a.length)).take (a.length - min k a.length) = a.drop k := by
    by_cases h : k ≤ a.length
    · rw [Nat.min_eq_left h, List.take_of_length_le (by rw [List.length_drop]; omega)]
    · rw [Nat.min_eq_right (by omega), List.drop_length, List.drop_of_length_le (by omega)]
      simp
  rw [e]
  exact q
theorem q_slMid {a : List Nat} (i j : Nat) (hz : a.length ≤ sizeLine) (hj : j ≤ a.length) (q : Q (.str (tx ((a.drop i).take (j - i)))) H) : rSlU K (.str (tx a)) (some (i : Int)) (some (j : Int)) H Q := by
  refine q_slS hz ?_
  rw [HT.sIx_nat, HT.sIx_nat, Nat.min_eq_left hj]
  have e : (a.drop (min i a.length)).take (j - min i a.length) = (a.drop i).take (j - i) := by
    by_cases h : i ≤ a.length
    · rw [Nat.min_eq_left h]
    · rw [Nat.min_eq_right (by omega), List.drop_length, List.drop_of_length_le (by omega)]
      simp
  rw [e]
  exact q
theorem q_slL {p : Addr} {xs : List V} (k : Nat) (h : SqL K H p xs) (q : ∀ l, H l = none → Q (.ref l) (upd H l (.lst (xs.take k)))) : rSlU K (.ref p) none (some (k : Int)) H Q := by
  refine .inr ⟨p, xs, rfl, h, ?_⟩
  have e : cutV xs none (some (k : Int)) = xs.take k := by
    unfold cutV
    rw [HT.sIx_nat, HT.sIx_none, List.drop_zero, Nat.sub_zero]
    by_cases h : k ≤ xs.length
    · rw [Nat.min_eq_left h]
    · rw [Nat.min_eq_right (by omega), List.take_length, List.take_of_length_le (by omega)]
  rw [e]
  exact q
end
/-! ### loops and comprehensions, over what is walked -/
def ForO (J : It) (g : TG) (tb : TS) : TS := fun D σ H1 => ∃ W : Nat → Nat → L2.St → Hp → Prop, (∃ m, W 0 m σ H1) ∧ ∀ i m σ H, W i m σ H →
  (J.stop i H ∧ D.nx σ H) ∨ (J.go i H ∧ ∃ N : L2.St → Hp → Prop, (∀ σ' H', N σ' H' → ∃ m', m' < m ∧ W (i + 1) m' σ' H') ∧ ∀ x H', J.yld i H x H' → g x σ H' fun σ2 H2 => tb { D with nx := N, ct := N, bk := D.nx } σ2 H2)
def LcO (J : It) (g : TG) (tt : TT) (te : TE) (vs : List Nat) : TE := fun σ H1 Q => ∀ D, H1 D = none → ∃ W : Nat → Nat → Hp → Prop, (∃ m, W 0 m (upd H1 D (.lst []))) ∧ ∀ i m H, W i m H →
  (J.stop i H ∧ Q (.ref D) H) ∨ (J.go i H ∧ ∃ Nx : Hp → Prop, (∀ H', Nx H' → ∃ m', m' < m ∧ W (i + 1) m' H') ∧ ∀ x H', J.yld i H x H' → g x (wipe σ vs) H' fun σ2 H2 => wipe σ2 vs = wipe σ vs ∧ tt σ2 H2 fun b H3 =>
    if b = true then te σ2 H3 fun y H4 => ∃ acc, H4 D = some (.lst acc) ∧ acc.length < sizeLine ∧ Nx (upd H4 D (.lst (acc ++ [y]))) else Nx H3)
section
variable {K : PySem.W.Frag} {σ : L2.St} {H : Hp} {Q : VK} {D : Ends} {wi : TI} {tl te : TE} {g : TG} {tb : TS} {ta : TA} {tt : TT} {vs : List Nat} {R : It → Hp → Prop}
theorem q_for (h : wi σ H fun J H1 => ForO J g tb D σ H1) : tFor wi g tb D σ H := h
theorem q_lc (h : wi σ H fun J H1 => LcO J g tt te vs σ H1 Q) : tLc wi g tt te vs σ H Q := h
theorem q_iList (h : tl σ H fun x H1 => ∃ a, x = .ref a ∧ (∃ xs, SqL K H1 a xs) ∧ R (Itl K a) H1) : iList K tl σ H R := h
theorem q_iTup (h : tl σ H fun x H1 => ∃ a, x = .ref a ∧ (∃ xs, SqT K H1 a xs) ∧ R (Itt K a) H1) : iTup K tl σ H R := h
theorem q_iStr (h : tl σ H fun v H1 => ∃ x, v = .str x ∧ R (Its x) H1) : iStr tl σ H R := h
theorem q_iRng1 (h : ta σ H fun vs H1 => ∃ j : Int, vs = [.int j] ∧ -(2 ^ 62) ≤ j ∧ j < 2 ^ 62 ∧ R (Itr 0 j.toNat) H1) : iRng1 ta σ H R := h
theorem q_iRng2 (h : ta σ H fun vs H1 => ∃ i j : Int, vs = [.int i, .int j] ∧ (-(2 ^ 62) ≤ i ∧ i < 2 ^ 62 ∧ -(2 ^ 62) ≤ j ∧ j < 2 ^ 62) ∧ R (Itr i (j - i).toNat) H1) : iRng2 ta σ H R := h
theorem q_iRng3 (h : ta σ H fun vs H1 => ∃ (i j c : Int) (n : Nat), vs = [.int i, .int j, .int c] ∧ RgC i j c n ∧ R (Itc i c n) H1) : iRng3 ta σ H R := h
theorem q_gtup {n : Nat} {gs : TGs} {v : V} {R : L2.St → Hp → Prop} (h : ∃ a xs, v = .ref a ∧ SqT K H a xs ∧ xs.length = n ∧ gs xs σ H R) : gTup K n gs v σ H R := h
theorem q_gcons {g : TG} {gs : TGs} {v : V} {r : List V} {R : L2.St → Hp → Prop} (h : g v σ H fun σ' H' => gs r σ' H' R) : gCons g gs (v :: r) σ H R := ⟨v, r, rfl, h⟩
theorem q_gnil {R : L2.St → Hp → Prop} (h : R σ H) : gNil [] σ H R := ⟨rfl, h⟩
theorem q_yes {R : Bool → Hp → Prop} (q : R true H) : tYes σ H R := q
theorem q_while {c : TT} (Wv : Nat → L2.St → Hp → Prop) (m0 : Nat) (h0 : Wv m0 σ H) (hs : ∀ m σ H, Wv m σ H → c σ H fun b H1 => if b = true then ∃ N : L2.St → Hp → Prop, (∀ σ' H', N σ' H' → ∃ m', m' < m ∧ Wv m' σ' H') ∧ tb { D with nx := N, ct := N, bk := D.nx } σ H1 else D.nx σ H1) : tWhile c tb D σ H := ⟨Wv, ⟨m0, h0⟩, hs⟩
/-- a for, by Pv of the turn, the slots and the heap -/
theorem fo {J : It} {n : Nat} {G : Hp → Prop} {Y : Nat → Hp → V → Hp → Prop} (w : Walk J n G Y) (Pv : Nat → L2.St → Hp → Prop) (h0 : Pv 0 σ H) (hG : ∀ i σ H, i ≤ n → Pv i σ H → G H)
    (hs : ∀ i x σ H H', i < n → Pv i σ H → Y i H x H' → g x σ H' fun σ2 H2 => tb { D with nx := Pv (i + 1), ct := Pv (i + 1), bk := D.nx } σ2 H2) (hd : ∀ σ H, Pv n σ H → D.nx σ H) : ForO J g tb D σ H := for_it w Pv h0 hG hs hd
theorem fo_range {lo : Int} {n : Nat} (Pv : Nat → L2.St → Hp → Prop) (h0 : Pv 0 σ H) (hs : ∀ i σ H, i < n → Pv i σ H → g (.int (lo + (i : Nat))) σ H fun σ2 H2 => tb { D with nx := Pv (i + 1), ct := Pv (i + 1), bk := D.nx } σ2 H2)
    (hd : ∀ σ H, Pv n σ H → D.nx σ H) : ForO (Itr lo n) g tb D σ H := for_range Pv h0 hs hd
theorem fo_rangeC {lo c : Int} {n : Nat} (Pv : Nat → L2.St → Hp → Prop) (h0 : Pv 0 σ H) (hs : ∀ i σ H, i < n → Pv i σ H → g (.int (lo + (i : Nat) * c)) σ H fun σ2 H2 => tb { D with nx := Pv (i + 1), ct := Pv (i + 1), bk := D.nx } σ2 H2)
    (hd : ∀ σ H, Pv n σ H → D.nx σ H) : ForO (Itc lo c n) g tb D σ H := for_rangeC Pv h0 hs hd
theorem fo_list {a : Addr} {xs : List V} (Pv : Nat → L2.St → Hp → Prop) (h0 : Pv 0 σ H) (hl : ∀ i σ H, i ≤ xs.length → Pv i σ H → SqL K H a xs)
    (hs : ∀ i x σ H, xs[i]? = some x → Pv i σ H → g x σ H fun σ2 H2 => tb { D with nx := Pv (i + 1), ct := Pv (i + 1), bk := D.nx } σ2 H2) (hd : ∀ σ H, Pv xs.length σ H → D.nx σ H) : ForO (Itl K a) g tb D σ H := for_list Pv h0 hl hs hd
theorem fo_str {l : List Nat} (Pv : Nat → L2.St → Hp → Prop) (h0 : Pv 0 σ H)
    (hs : ∀ i c σ H, l[i]? = some c → Pv i σ H → g (.str (tx [c])) σ H fun σ2 H2 => tb { D with nx := Pv (i + 1), ct := Pv (i + 1), bk := D.nx } σ2 H2) (hd : ∀ σ H, Pv l.length σ H → D.nx σ H) : ForO (Its (tx l)) g tb D σ H := by
  have hn : (tx l).cps.size = l.length := tx_len l
  refine fo walk_str Pv h0 (fun _ _ _ _ _ => trivial) (fun i x σ H H' hi p y => ?_) (fun σ H p => hd σ H (by rw [← hn]; exact p))
  obtain ⟨rfl, c, e, rfl⟩ := y
  refine hs i c σ _ ?_ p
  rw [← tx_list l, ← Array.getElem?_toList] at *
  simpa [tx_list] using e
/-- a comprehension without a test whose elements are told by values -/
theorem lc_ev {J : It} {n : Nat} {Y : Nat → Hp → V → Hp → Prop} {G : Hp → Prop} {j : Nat} (w : Walk J n G Y) (hz : n ≤ 100000) (xs : Nat → V) (f : Nat → V) (hG : ∀ H', Ex H H' → G H') (hY : ∀ i H1 x H2, i < n → Y i H1 x H2 → H2 = H1 ∧ x = xs i)
    (hw : ∀ x, wipe ((wipe σ vs).set j (some x)) vs = wipe σ vs) (he : ∀ i, i < n → Evl.Ev te ((wipe σ vs).set j (some (xs i))) H (f i))
    (q : ∀ p H', H p = none → Ex H H' → H' p = some (.lst ((List.range n).map f)) → Q (.ref p) H') : LcO J (gName j) tYes te vs σ H Q := by
  intro D hD
  have fin := lc_it (tt := tYes) (te := te) (vs := vs) (σ := σ) (g := gName j) (H1 := H) (D := D) (Qd := fun H' => Q (.ref D) H') w (fun i H' => H D = none ∧ Ex H H' ∧ H' D = some (.lst ((List.range i).map f))) ⟨hD, Evl.Ex.new hD, upd_same⟩ (fun i H' _ p => hG H' p.2.1) (fun i x H1 H2 hi p y => ?_) (fun H' p => q D H' p.1 p.2.1 p.2.2)
  · exact fin
  · obtain ⟨rfl, rfl⟩ := hY i H1 x H2 hi y
    obtain ⟨p1, p2, p3⟩ := p
    refine ⟨hw _, ?_⟩
    refine q_yes ?_
    refine ifY rfl ?_
    refine he i hi _ p2 _ fun H4 e4 => ⟨_, e4 D _ p3, ?_, p1, Evl.Ex.mut (p2.trans e4) p1, ?_⟩
    · rw [List.length_map, List.length_range]
      exact Nat.lt_of_lt_of_le (Nat.lt_of_lt_of_le hi hz) (by decide)
    · rw [upd_same, List.range_succ, List.map_append]
      rfl
/-- .. over the signs of a text -/
theorem lc_str {l : List Nat} {j : Nat} (hz : l.length ≤ 100000) (f : Nat → V) (hw : ∀ x, wipe ((wipe σ vs).set j (some x)) vs = wipe σ vs) (he : ∀ c, c ∈ l → Evl.Ev te ((wipe σ vs).set j (some (.str (tx [c])))) H (f c))
    (q : ∀ p H', H p = none → Ex H H' → H' p = some (.lst (l.map f)) → Q (.ref p) H') : LcO (Its (tx l)) (gName j) tYes te vs σ H Q := by
  have hn : (tx l).cps.size = l.length := tx_len l
  have gd : ∀ i, i < l.length → l[i]? = some (l.getD i 0) := fun i hi => by rw [List.getD_eq_getElem?_getD, List.getElem?_eq_getElem hi]; rfl
  refine lc_ev walk_str (by rw [hn]; exact hz) (fun i => .str (tx [l.getD i 0])) (fun i => f (l.getD i 0)) (fun _ _ => trivial) (fun i H1 x H2 hi y => ?_) hw (fun i hi => ?_) (fun p H' h1 h2 h3 => q p H' h1 h2 ?_)
  · obtain ⟨rfl, c, e, rfl⟩ := y
    refine ⟨rfl, ?_⟩
    have e2 : l[i]? = some c := by
      have e3 : (tx l).cps.toList[i]? = some c := by rw [Array.getElem?_toList]; exact e
      rwa [tx_list] at e3
    have e4 := gd i (by rw [← hn]; exact hi)
    rw [e2] at e4
    cases e4
    rfl
  · exact he _ (List.mem_of_getElem? (gd i (by rw [← hn]; exact hi)))
  · rw [h3, hn]
    congr 2
    refine List.ext_getElem? fun i => ?_
    rw [List.getElem?_map, List.getElem?_map]
    by_cases hi : i < l.length
    · rw [List.getElem?_range hi, gd i hi]
      rfl
    · rw [List.getElem?_eq_none (by simpa using hi), List.getElem?_eq_none (by simpa using hi)]
      rfl
end
end KX

namespace KX
open PySem PySem.Spec PyProof.Rows L2
/-! ### for place, sign in enumerate(text) -/
def Itse (x : Str) : It where
  go := fun i _ => i < x.cps.size
  yld := fun i H v H' => ∃ (B : Addr) (c : Nat), v = .ref B ∧ H B = none ∧ H' = upd H B (.tup [.int (i : Nat), .str ⟨#[c]⟩]) ∧ x.cps[i]? = some c
  stop := fun i _ => x.cps.size ≤ i
/-- how it draws, whichever iterator it is -/
theorem sign_draws {prog : Program} {w : World} {A : Around} (hh : A.handled = none) (it : Addr) (x : Str) (t : Tok) :
    Draws prog w A it [it] x.cps.size (fun i v => ∃ c u, x.cps[i]? = some c ∧ v = .str ⟨#[c]⟩ u) (fun i h => h.IsStrIter it (strIterType x) x t i) := by
  unfold strIterType
  split
  · exact Draws.strAscii hh it x t
  · exact Draws.strWide hh it x t
theorem turn_enumS {P : Program} {w : World} {K : PySem.W.Frag} {elts : List Expr} {kk : Nat} {tpos : Pos} (x : Str) (t : Tok) (e it : Addr) :
    Turn P w K (.Tuple elts kk tpos) (Itse x) [e, it] e (fun i h => (∃ old, IsEnum h e it ((i : Nat) : Int) old) ∧ h.IsStrIter it (strIterType x) x t i ∧ e ≠ it) where
  mem := by simp
  obj := fun i h st b hb => by
    obtain ⟨⟨old, h1⟩, ⟨o, h2, h3, h4⟩, _⟩ := st
    have two : b = e ∨ b = it := by simpa using hb
    rcases two with rfl | rfl
    · exact ⟨_, h1, fun v q => nomatch q⟩
    · exact ⟨o, h2, fun v q => by rw [h4] at q; cases q⟩
  keep := fun i h h' st k => by
    obtain ⟨⟨old, h1⟩, ⟨o, h2, r⟩, hne⟩ := st
    exact ⟨⟨old, k e (by simp) _ h1⟩, ⟨o, k it (by simp) o h2, r⟩, hne⟩
  item := by
    intro X hP hw hK hc i pins s σ H E I hf st hg
    subst hP hw hK
    obtain ⟨⟨old, h1⟩, h2, hne⟩ := st
    have el : e < s.heap.objs.size := Heap.lt_size h1
    have il : it < s.heap.objs.size := by
      obtain ⟨_, q, _⟩ := h2
      exact Heap.lt_size q
    have below : ∀ b ∈ [e, it], b < s.heap.objs.size := fun b hb => by
      have two : b = e ∨ b = it := by simpa using hb
      rcases two with rfl | rfl
      · exact el
      · exact il
    have Dr := sign_draws (prog := X.prog) (w := X.w) (A := X.A.in1) (I.ok.hd hc) it x t
    refine wpAny_pyNext_enum_itemD Dr h1 h2 hg hne (by simpa using hne) ?_
    rintro v h' tk ⟨c, u, hcx, rfl⟩ ho hit' hT hsz hk
    refine ⟨_, rfl, wpAny_letOwnedTupleGo_enum (s := { s with heap := h', toks := tk + 1 }) ho fun h'' he' sb => ?_⟩
    have hT2 := (sb.2 _ (Nat.ne_of_gt el)).trans hT
    have new : ObjOk X.prog X.w (upd H s.heap.objs.size (.tup [.int (i : Nat), .str ⟨#[c]⟩])) h'' s.heap.objs.size (.tup [.int (i : Nat), .str ⟨#[c]⟩]) :=
      ⟨sml rfl, [.int i tk, .str ⟨#[c]⟩ u], .cons ⟨_, rfl⟩ (.cons ⟨_, rfl⟩ .nil), ⟨_, hT2, rfl, _, rfl⟩⟩
    have other : ∀ b ob, b ∉ [e, it] → s.heap.get? b = some ob → h''.get? b = some ob := fun b ob hb q => by
      have n1 : b ≠ e := fun z => hb (by simp [z])
      have n2 : b ≠ it := fun z => hb (by simp [z])
      exact (sb.2 b n1).trans (hk b ob n1 n2 q)
    have I1 := I.turnedNew (t' := tk + 1) (ch := [e, it]) other hf (Nat.le_refl _) new
    refine ⟨.ref s.heap.objs.size, _, I1, rfl, ⟨_, c, rfl, I.hok.fresh (Nat.le_refl _), rfl, hcx⟩, ⟨⟨.str ⟨#[c]⟩ u, ?_⟩, ?_, hne⟩, fun b hb => ?_⟩
    · have e1 : ((i + 1 : Nat) : Int) = (i : Int) + 1 := by omega
      rw [e1]
      exact he'
    · obtain ⟨o, q, r⟩ := hit'
      exact ⟨o, (sb.2 it (Ne.symm hne)).trans q, r⟩
    · rw [upd_ne (Nat.ne_of_lt (below b hb))]
      exact (hf b hb).1
  done := by
    intro X hP hw hK hc i pins s σ H E I hf st hg
    subst hP hw hK
    obtain ⟨⟨old, h1⟩, h2, hne⟩ := st
    obtain ⟨f0, f1, f2, f3, f4, f5⟩ := hf it (by simp)
    by_cases hi : i = x.cps.size
    · subst hi
      have Dr := sign_draws (prog := X.prog) (w := X.w) (A := X.A.in1) (I.ok.hd hc) it x t
      exact wpAny_pyNext_enum_endD Dr h1 h2 fun h' eb => ⟨rfl, I.turned (t' := s.toks) (fun b o hb q => eb b o hb q) f0 f1 f3 f4 f5⟩
    · exact wpAny_pyNext_enum_endD (n := i) (fp := [it]) (P := fun j v => False) (St := fun j h => j = i ∧ h.IsStrIter it (strIterType x) x t i)
        { live := fun j h st => let ⟨o, ho, _⟩ := st.2; ⟨o, ho⟩
          frame := fun j h h' st hk => ⟨st.1, let ⟨o, ho, r⟩ := st.2; ⟨o, hk it (by simp) o ho, r⟩⟩
          item := fun j s Q E hj st _ => absurd st.1 (by omega)
          done := fun s Q E st hE => by
            have hx : x.cps[i]? = none := Array.getElem?_eq_none hg
            have st2 := st.2
            unfold strIterType at st2
            split at st2
            · exact wpAny_nextOf_ascii_end (A := X.A.in1) (I.ok.hd hc) st2 hx hE
            · exact wpAny_nextOf_wide_end (A := X.A.in1) (I.ok.hd hc) st2 hx hE }
        h1 ⟨rfl, h2⟩ fun h' eb => ⟨rfl, I.turned (t' := s.toks) (fun b o hb q => eb b o hb q) f0 f1 f3 f4 f5⟩
  self := fun A i s Q E st h => by
    obtain ⟨⟨_, h1⟩, _⟩ := st
    exact wpAny_pyIter_enum h1 h
def iEnumS (ta : TA) : TI := fun σ H R => ta σ H fun vs H1 => ∃ x, vs = [.str x] ∧ R (Itse x) H1
theorem pi_enumS {X : Cx} {e : Expr} {ta : TA} {p pos tpos : Pos} {elts : List Expr} {kk : Nat} (hg : Gl X "enumerate") (hm : X.mg "enumerate" = none) (ha : PA X [e] ta) (hs : starEach [e] X.env = [(false, eval e X.env)] := by rfl) :
    PI X (.Tuple elts kk tpos) (.Call (.Name "enumerate" p) [e] [] pos) (iEnumS ta) := by
  refine ⟨fun pins s σ H R I h => ?_⟩
  refine Call_ (ld_blt I hg hm boot_enumerate (PyProof.Rows.callWith_type1 (thn (ha.run pos pins s σ H _ I h) ?_) hs rfl))
  rintro us s1 ⟨vs, H1, I1, r1, x, rfl, q⟩
  obtain ⟨u, rfl, t, rfl⟩ := vals1 r1
  refine call_enumerate_str fun h' he hit hsz hk => wpAny_pyIter_enum he ?_
  have I2 : Inv X pins σ H1 { s1 with heap := h' } := I1.kept (t' := s1.toks) hk
  refine ⟨s1.heap.objs.size + 1, [s1.heap.objs.size + 1, s1.heap.objs.size], _, _, H1, rfl, I2, turn_enumS x t (s1.heap.objs.size + 1) s1.heap.objs.size, ⟨⟨.none, he⟩, hit, Nat.succ_ne_self _⟩, fun b hb => ?_, q⟩
  have two : b = s1.heap.objs.size + 1 ∨ b = s1.heap.objs.size := by simpa using hb
  have hle : s1.heap.objs.size ≤ b := by
    rcases two with rfl | rfl
    · exact Nat.le_succ _
    · exact Nat.le_refl _
  exact I1.fpOk hle (I1.hok.fresh hle)
section
variable {σ : L2.St} {H : Hp} {D : Ends} {g : TG} {tb : TS} {ta : TA} {R : It → Hp → Prop}
theorem q_cat {K : PySem.W.Frag} {Q : VK} {l b : Addr} {xs zs : List V} (h1 : H l = some (.lst xs)) (h2 : H b = some (.lst zs)) (hz : xs.length + zs.length ≤ sizeLine) (q : ∀ p, H p = none → Q (.ref p) (upd H p (.lst (xs ++ zs)))) : rAddU K (.ref l) (.ref b) H Q :=
  .inr (.inr (.inl ⟨l, b, xs, zs, rfl, rfl, h1, h2, hz, q⟩))
theorem q_ixLast {K : PySem.W.Frag} {Q : VK} {p : Addr} {xs : List V} {v : V} (h : SqL K H p (xs ++ [v])) (q : Q v H) : rIx K (.ref p) (.int (-1)) H Q := .inl ⟨p, _, -1, v, rfl, rfl, h, atI_last xs v, q⟩
theorem q_iEnumS (h : ta σ H fun vs H1 => ∃ x, vs = [.str x] ∧ R (Itse x) H1) : iEnumS ta σ H R := h
theorem fo_enumS {l : List Nat} (Pv : Nat → L2.St → Hp → Prop) (h0 : Pv 0 σ H)
    (hs : ∀ i c σ H B, l[i]? = some c → H B = none → Pv i σ H → g (.ref B) σ (upd H B (.tup [.int (i : Nat), .str (tx [c])])) fun σ2 H2 => tb { D with nx := Pv (i + 1), ct := Pv (i + 1), bk := D.nx } σ2 H2)
    (hd : ∀ σ H, Pv l.length σ H → D.nx σ H) : ForO (Itse (tx l)) g tb D σ H := by
  have hn : (tx l).cps.size = l.length := tx_len l
  have w : Walk (Itse (tx l)) l.length (fun _ => True) (Itse (tx l)).yld :=
    ⟨fun i H hi _ => (show i < (tx l).cps.size by rw [hn]; exact hi), fun H _ => (show (tx l).cps.size ≤ l.length by rw [hn]; exact Nat.le_refl _), fun _ _ _ _ _ _ y => y⟩
  refine fo w Pv h0 (fun _ _ _ _ _ => trivial) (fun i x σ H H' hi p y => ?_) hd
  obtain ⟨B, c, rfl, hB, rfl, e⟩ := y
  have e3 : (tx l).cps.toList[i]? = some c := by rw [Array.getElem?_toList]; exact e
  rw [tx_list] at e3
  exact hs i c σ H B e3 hB p
end
end KX

namespace KX
open PySem PySem.Spec PyProof.Rows L2
section
variable {K : PySem.W.Frag} {σ : L2.St} {H : Hp} {Q : VK} {D : Ends} {s1 s2 : TS} {te : TE} {g : TG}
/-- what follows a statement, told once by I -/
theorem q_seqK (I : L2.St → Hp → Prop) (h2 : ∀ σ H, I σ H → s2 D σ H) (h1 : ∀ N : L2.St → Hp → Prop, (∀ σ H, I σ H → N σ H) → s1 { D with nx := N } σ H) : tSeq s1 s2 D σ H := h1 _ h2
theorem q_isN {ta : TE} (h : ta σ H fun x H1 => Q (.bl (decide (x = .non))) H1) : tIsN ta σ H Q := h
theorem q_notN {ta : TE} (h : ta σ H fun x H1 => Q (.bl (!decide (x = .non))) H1) : tNotN ta σ H Q := h
theorem q_par3 {i j l : Nat} {t : TA} (h : t σ H fun vs H1 => ∃ u v w, vs = [u, v, w] ∧ D.nx (((σ.set i (some u)).set j (some v)).set l (some w)) H1) : tPar3 i j l t D σ H := h
theorem q_setL {p : Addr} {xs : List V} {k : Nat} {v : V} {R : Hp → Prop} (h : H p = some (.lst xs)) (hk : k < xs.length) (q : R (upd H p (.lst (xs.set k v)))) : rSetL (.ref p) (.int (k : Nat)) v H R := by
  refine ⟨p, xs, (k : Nat), k, rfl, rfl, h, ?_, q⟩
  unfold ixN
  simp [hk]
/-- all stands but r -/
def But (r : Addr) (H H' : Hp) : Prop := ∀ a o, a ≠ r → H a = some o → H' a = some o
theorem But.refl (r : Addr) (H : Hp) : But r H H := fun _ _ _ h => h
theorem But.trans {r : Addr} {H H1 H2 : Hp} (a : But r H H1) (b : But r H1 H2) : But r H H2 := fun x o n h => b x o n (a x o n h)
theorem But.of_ex {r : Addr} {H H' : Hp} (e : Ex H H') : But r H H' := fun x o _ h => e x o h
theorem But.mut {r : Addr} {H : Hp} {o : HO} : But r H (upd H r o) := fun x u n h => by rw [upd_ne n]; exact h
theorem But.ex {r : Addr} {H0 H H' : Hp} (b : But r H H') (n : H0 r = none) (e : Ex H0 H) : Ex H0 H' := fun x o h => b x o (by rintro rfl; rw [n] at h; cases h) (e x o h)
theorem But.kt {r : Addr} {H H' : Hp} {xs : List V} (b : But r H H') (h : H r = some (.lst xs)) : Kt H H' := Kt.but h trivial fun x u n e => b x u n e
/-- a comprehension whose elements may change what stands; acc: what it has made so far -/
theorem lc_fold {J : It} {n j : Nat} {Y : Nat → Hp → V → Hp → Prop} {G : Hp → Prop} {vs : List Nat} (w : Walk J n G Y) (hz : n ≤ 100000) (Pv : Addr → Nat → List V → Hp → Prop)
    (h0 : ∀ D, H D = none → Pv D 0 [] (upd H D (.lst []))) (hG : ∀ D i acc H', i ≤ n → Pv D i acc H' → G H') (hw : ∀ x, wipe ((wipe σ vs).set j (some x)) vs = wipe σ vs)
    (hs : ∀ D i acc x H1 H2, H D = none → i < n → Pv D i acc H1 → H1 D = some (.lst acc) → Y i H1 x H2 → ∀ R : VK, (∀ y H4, H4 D = some (.lst acc) → Pv D (i + 1) (acc ++ [y]) (upd H4 D (.lst (acc ++ [y]))) → R y H4) → te ((wipe σ vs).set j (some x)) H2 R)
    (hd : ∀ D acc H', H D = none → Pv D n acc H' → H' D = some (.lst acc) → Q (.ref D) H') : LcO J (gName j) tYes te vs σ H Q := by
  intro D hD
  have fin := lc_it (tt := tYes) (te := te) (vs := vs) (σ := σ) (g := gName j) (H1 := H) (D := D) (Qd := fun H' => Q (.ref D) H') w (fun i H' => ∃ acc, Pv D i acc H' ∧ H' D = some (.lst acc) ∧ acc.length = i)
    ⟨[], h0 D hD, upd_same, rfl⟩ (fun i H' hi p => by obtain ⟨acc, p1, _⟩ := p; exact hG D i acc H' hi p1) (fun i x H1 H2 hi p y => ?_) (fun H' p => by obtain ⟨acc, p1, p2, _⟩ := p; exact hd D acc H' hD p1 p2)
  · exact fin
  · obtain ⟨acc, p1, p2, p3⟩ := p
    refine ⟨hw _, ?_⟩
    refine q_yes ?_
    refine ifY rfl ?_
    refine hs D i acc x H1 H2 hD hi p1 p2 y _ fun v H4 h4 p4 => ⟨acc, h4, ?_, acc ++ [v], p4, upd_same, ?_⟩
    · rw [p3]
      exact Nat.lt_of_lt_of_le (Nat.lt_of_lt_of_le hi hz) (by decide)
    · rw [List.length_append, p3]
      rfl
end
end KX

namespace KM
open PySem PySem.Spec PyProof.Rows L2
/-! a run has one end: so two things that are shown of it hold together -/
theorem runs_one {M : Model} {Γ : PySem.Ctx} {p : Pos} {t : Sem Fin} {fs : List Frame} {s : Shared} {e : End} {s' : Shared} (h : Runs M Γ p t fs s e s') : ∀ (e2 : End) (s2 : Shared), Runs M Γ p t fs s e2 s2 → e = e2 ∧ s' = s2 := by
  induction h with
  | done => intro e2 s2 h; cases h; exact ⟨rfl, rfl⟩
  | raise => intro e2 s2 h; cases h; exact ⟨rfl, rfl⟩
  | again _ _ ih => intro e2 s2 h; cases h; exact ih _ _ (by assumption)
  | rule _ ih => intro e2 s2 h; cases h; exact ih _ _ (by assumption)
  | «at» _ ih => intro e2 s2 h; cases h; exact ih _ _ (by assumption)
  | load e1 _ ih =>
    intro e2 s2 h
    cases h with
    | load e3 h3 =>
      rw [e1] at e3
      cases e3
      exact ih _ _ h3
  | update _ _ ih => intro e2 s2 h; cases h; exact ih _ _ (by assumption)
  | loadIfAlive _ ih => intro e2 s2 h; cases h; exact ih _ _ (by assumption)
  | point _ ih => intro e2 s2 h; cases h; exact ih _ _ (by assumption)
  | alloc _ ih => intro e2 s2 h; cases h; exact ih _ _ (by assumption)
  | fresh _ ih => intro e2 s2 h; cases h; exact ih _ _ (by assumption)
  | ask _ ih => intro e2 s2 h; cases h; exact ih _ _ (by assumption)
  | choose _ _ ih => intro e2 s2 h; cases h; exact ih _ _ (by assumption)
  | os _ ih => intro e2 s2 h; cases h; exact ih _ _ (by assumption)
  | handled _ ih => intro e2 s2 h; cases h; exact ih _ _ (by assumption)
  | genState e1 _ ih =>
    intro e2 s2 h
    cases h with
    | genState e3 h3 =>
      rw [e1] at e3
      cases e3
      exact ih _ _ h3
  | stack _ ih => intro e2 s2 h; cases h; exact ih _ _ (by assumption)
  | thread _ ih => intro e2 s2 h; cases h; exact ih _ _ (by assumption)
  | newGen _ ih => intro e2 s2 h; cases h; exact ih _ _ (by assumption)
  | call _ _ ih1 ih2 =>
    intro e2 s2 h
    cases h with
    | call h1 h2 =>
      obtain ⟨a, b⟩ := ih1 _ _ h1
      cases a
      subst b
      exact ih2 _ _ h2
    | callSusp h1 =>
      obtain ⟨a, b⟩ := ih1 _ _ h1
      cases a
  | callSusp _ ih1 =>
    intro e2 s2 h
    cases h with
    | call h1 h2 =>
      obtain ⟨a, b⟩ := ih1 _ _ h1
      cases a
    | callSusp h1 =>
      obtain ⟨a, b⟩ := ih1 _ _ h1
      cases a
      exact ⟨rfl, b⟩
  | yield => intro e2 s2 h; cases h; exact ⟨rfl, rfl⟩
  | resumeFresh g1 _ _ _ ih1 ih2 =>
    intro e2 s2 h
    cases h with
    | resumeFresh g2 h1 _ h2 =>
      rw [g1] at g2
      cases g2
      obtain ⟨a, b⟩ := ih1 _ _ h1
      subst a
      subst b
      exact ih2 _ _ h2
    | resumeSuspended g2 h1 _ h2 => rw [g1] at g2; cases g2
    | resumeJustStarted g2 z h1 => exact absurd rfl z
    | resumeRunning g2 h1 => rw [g1] at g2; cases g2
    | resumeFinished g2 h1 => rw [g1] at g2; cases g2
  | resumeSuspended g1 _ _ _ ih1 ih2 =>
    intro e2 s2 h
    cases h with
    | resumeFresh g2 h1 _ h2 => rw [g1] at g2; cases g2
    | resumeSuspended g2 h1 _ h2 =>
      rw [g1] at g2
      cases g2
      obtain ⟨a, b⟩ := ih1 _ _ h1
      subst a
      subst b
      exact ih2 _ _ h2
    | resumeJustStarted g2 z h1 => rw [g1] at g2; cases g2
    | resumeThrowFresh g2 h1 => rw [g1] at g2; cases g2
    | resumeRunning g2 h1 => rw [g1] at g2; cases g2
    | resumeFinished g2 h1 => rw [g1] at g2; cases g2
  | resumeJustStarted g1 z _ ih =>
    intro e2 s2 h
    cases h with
    | resumeFresh g2 h1 _ h2 => exact absurd rfl z
    | resumeSuspended g2 h1 _ h2 => rw [g1] at g2; cases g2
    | resumeJustStarted g2 z h1 => exact ih _ _ h1
    | resumeRunning g2 h1 => rw [g1] at g2; cases g2
    | resumeFinished g2 h1 => rw [g1] at g2; cases g2
  | resumeThrowFresh g1 _ ih =>
    intro e2 s2 h
    cases h with
    | resumeSuspended g2 h1 _ h2 => rw [g1] at g2; cases g2
    | resumeThrowFresh g2 h1 => exact ih _ _ h1
    | resumeRunning g2 h1 => rw [g1] at g2; cases g2
    | resumeFinished g2 h1 => rw [g1] at g2; cases g2
  | resumeRunning g1 _ ih =>
    intro e2 s2 h
    cases h with
    | resumeFresh g2 h1 _ h2 => rw [g1] at g2; cases g2
    | resumeSuspended g2 h1 _ h2 => rw [g1] at g2; cases g2
    | resumeJustStarted g2 z h1 => rw [g1] at g2; cases g2
    | resumeThrowFresh g2 h1 => rw [g1] at g2; cases g2
    | resumeRunning g2 h1 => exact ih _ _ h1
    | resumeFinished g2 h1 => rw [g1] at g2; cases g2
  | resumeFinished g1 _ ih =>
    intro e2 s2 h
    cases h with
    | resumeFresh g2 h1 _ h2 => rw [g1] at g2; cases g2
    | resumeSuspended g2 h1 _ h2 => rw [g1] at g2; cases g2
    | resumeJustStarted g2 z h1 => rw [g1] at g2; cases g2
    | resumeThrowFresh g2 h1 => rw [g1] at g2; cases g2
    | resumeRunning g2 h1 => rw [g1] at g2; cases g2
    | resumeFinished g2 h1 => exact ih _ _ h1
  | segRet _ _ ih1 ih2 =>
    intro e2 s2 h
    cases h with
    | segRet h1 h2 =>
      obtain ⟨a, b⟩ := ih1 _ _ h1
      cases a
      subst b
      exact ih2 _ _ h2
    | segSuspOut z h1 =>
      obtain ⟨a, b⟩ := ih1 _ _ h1
      cases a
    | segSuspGen z h1 _ h2 =>
      obtain ⟨a, b⟩ := ih1 _ _ h1
      cases a
  | segGen _ _ ih1 ih2 =>
    intro e2 s2 h
    cases h with
    | segGen h1 h2 =>
      obtain ⟨a, b⟩ := ih1 _ _ h1
      cases a
      subst b
      exact ih2 _ _ h2
    | segSuspOut z h1 =>
      obtain ⟨a, b⟩ := ih1 _ _ h1
      cases a
    | segSuspGen z h1 _ h2 =>
      obtain ⟨a, b⟩ := ih1 _ _ h1
      cases a
  | segSuspOut z _ ih1 =>
    intro e2 s2 h
    cases h with
    | segRet h1 h2 =>
      obtain ⟨a, b⟩ := ih1 _ _ h1
      cases a
    | segGen h1 h2 =>
      obtain ⟨a, b⟩ := ih1 _ _ h1
      cases a
    | segSuspOut z2 h1 =>
      obtain ⟨a, b⟩ := ih1 _ _ h1
      cases a
      exact ⟨rfl, b⟩
    | segSuspGen z2 h1 _ h2 =>
      rw [z] at z2
      cases z2
  | segSuspGen z _ _ _ ih1 ih2 =>
    intro e2 s2 h
    cases h with
    | segRet h1 h2 =>
      obtain ⟨a, b⟩ := ih1 _ _ h1
      cases a
    | segGen h1 h2 =>
      obtain ⟨a, b⟩ := ih1 _ _ h1
      cases a
    | segSuspOut z2 h1 =>
      rw [z] at z2
      cases z2
    | segSuspGen z2 h1 _ h2 =>
      rw [z] at z2
      cases z2
      obtain ⟨a, b⟩ := ih1 _ _ h1
      cases a
      subst b
      exact ih2 _ _ h2
theorem wakes_one {M : Model} {Γ : PySem.Ctx} {p : Pos} {g : Nat} {r : Resume} {s : Shared} {x y : GenResult} {s1 s2 : Shared} (h1 : Wakes M Γ p g r s x s1) (h2 : Wakes M Γ p g r s y s2) : x = y ∧ s1 = s2 := by
  unfold Wakes at h1 h2
  split at h1
  · exact h1.elim
  · rename_i e
    rw [e] at h2
    split at h1
    · obtain ⟨a1, b1, c1, _, d1, f1⟩ := h1
      obtain ⟨a2, b2, c2, _, d2, f2⟩ := h2
      obtain ⟨z1, z2⟩ := runs_one c1 _ _ c2
      subst z1
      subst z2
      exact ⟨d1.trans d2.symm, f1.trans f2.symm⟩
    · rename_i v z
      cases v <;> first | exact (z rfl).elim | exact ⟨h1.1.trans h2.1.symm, h1.2.trans h2.2.symm⟩
    · exact ⟨h1.1.trans h2.1.symm, h1.2.trans h2.2.symm⟩
  · rename_i e
    rw [e] at h2
    obtain ⟨a1, b1, c1, _, d1, f1⟩ := h1
    obtain ⟨a2, b2, c2, _, d2, f2⟩ := h2
    obtain ⟨z1, z2⟩ := runs_one c1 _ _ c2
    subst z1
    subst z2
    exact ⟨d1.trans d2.symm, f1.trans f2.symm⟩
  · rename_i e
    rw [e] at h2
    exact ⟨h1.1.trans h2.1.symm, h1.2.trans h2.2.symm⟩
  · rename_i e
    rw [e] at h2
    exact ⟨h1.1.trans h2.1.symm, h1.2.trans h2.2.symm⟩
theorem wp_two {α : Type} {M : Model} {Γ : PySem.Ctx} {Q1 Q2 : α → Pos → Shared → Prop} {E1 E2 : Value → Pos → Shared → Prop} (t : Sem α) : ∀ (p : Pos) (s : Shared), Sem.wp M Γ t Q1 E1 p s → Sem.wp M Γ t Q2 E2 p s →
    Sem.wp M Γ t (fun a p s => Q1 a p s ∧ Q2 a p s) (fun e p s => E1 e p s ∧ E2 e p s) p s := by
  induction t with
  | pure a => intro p s h1 h2; rw [Sem.wp] at h1 h2 ⊢; exact ⟨h1, h2⟩
  | raise e => intro p s h1 h2; rw [Sem.wp] at h1 h2 ⊢; exact ⟨h1, h2⟩
  | load a part k ih =>
    intro p s h1 h2
    rw [Sem.wp] at h1 h2 ⊢
    obtain ⟨o, e, h1⟩ := h1
    obtain ⟨o2, e2, h2⟩ := h2
    rw [e] at e2
    cases e2
    exact ⟨o, e, ih _ _ _ h1 h2⟩
  | update a part f k ih =>
    intro p s h1 h2
    rw [Sem.wp] at h1 h2 ⊢
    exact ⟨h1.1, ih _ _ _ h1.2 h2.2⟩
  | choose src n k ih =>
    intro p s h1 h2
    rw [Sem.wp] at h1 h2 ⊢
    exact ⟨h1.1, ih _ _ _ h1.2 h2.2⟩
  | call c h g l k ih =>
    intro p s h1 h2
    rw [Sem.wp] at h1 h2 ⊢
    obtain ⟨r, s1, e1, h1⟩ := h1
    obtain ⟨r2, s2, e2, h2⟩ := h2
    obtain ⟨z1, z2⟩ := runs_one e1 _ _ e2
    cases z1
    subst z2
    exact ⟨r, s1, e1, ih _ _ _ h1 h2⟩
  | genState g k ih =>
    intro p s h1 h2
    rw [Sem.wp] at h1 h2 ⊢
    obtain ⟨o, e, h1⟩ := h1
    obtain ⟨o2, e2, h2⟩ := h2
    rw [e] at e2
    cases e2
    exact ⟨o, e, ih _ _ _ h1 h2⟩
  | resume g r l k ih =>
    intro p s h1 h2
    rw [Sem.wp] at h1 h2 ⊢
    obtain ⟨r1, s1, e1, h1⟩ := h1
    obtain ⟨r2, s2, e2, h2⟩ := h2
    obtain ⟨z1, z2⟩ := wakes_one e1 e2
    subst z1
    subst z2
    exact ⟨r1, s1, e1, ih _ _ _ h1 h2⟩
  | unsupported => intro p s h1 h2; rw [Sem.wp] at h1; exact h1.elim
  | finish => intro p s h1 h2; rw [Sem.wp] at h1; exact h1.elim
  | register => intro p s h1 h2; rw [Sem.wp] at h1; exact h1.elim
  | yield => intro p s h1 h2; rw [Sem.wp] at h1; exact h1.elim
  | fork => intro p s h1 h2; rw [Sem.wp] at h1; exact h1.elim
  | await => intro p s h1 h2; rw [Sem.wp] at h1; exact h1.elim
  | rule _ _ ih => intro p s h1 h2; rw [Sem.wp] at h1 h2 ⊢; exact ih _ _ _ h1 h2
  | «at» _ _ ih => intro p s h1 h2; rw [Sem.wp] at h1 h2 ⊢; exact ih _ _ _ h1 h2
  | loadIfAlive _ _ ih => intro p s h1 h2; rw [Sem.wp] at h1 h2 ⊢; exact ih _ _ _ h1 h2
  | point _ _ ih => intro p s h1 h2; rw [Sem.wp] at h1 h2 ⊢; exact ih _ _ _ h1 h2
  | alloc _ _ ih => intro p s h1 h2; rw [Sem.wp] at h1 h2 ⊢; exact ih _ _ _ h1 h2
  | fresh _ ih => intro p s h1 h2; rw [Sem.wp] at h1 h2 ⊢; exact ih _ _ _ h1 h2
  | ask _ ih => intro p s h1 h2; rw [Sem.wp] at h1 h2 ⊢; exact ih _ _ _ h1 h2
  | os _ _ _ ih => intro p s h1 h2; rw [Sem.wp] at h1 h2 ⊢; exact ih _ _ _ h1 h2
  | handled _ _ ih => intro p s h1 h2; rw [Sem.wp] at h1 h2 ⊢; exact ih _ _ _ h1 h2
  | newGen _ _ ih => intro p s h1 h2; rw [Sem.wp] at h1 h2 ⊢; exact ih _ _ _ h1 h2
  | stack _ ih => intro p s h1 h2; rw [Sem.wp] at h1 h2 ⊢; exact ih _ _ _ h1 h2
  | thread _ ih => intro p s h1 h2; rw [Sem.wp] at h1 h2 ⊢; exact ih _ _ _ h1 h2
/-- two things shown of one tree -/
theorem any_two {α : Type} {M : Model} {A : Around} {t : Sem α} {Q1 Q2 : α → Shared → Prop} {E1 E2 : Value → Shared → Prop} {s : Shared} (h1 : wpAny M A t Q1 E1 s) (h2 : wpAny M A t Q2 E2 s) : wpAny M A t (fun a s => Q1 a s ∧ Q2 a s) (fun e s => E1 e s ∧ E2 e s) s :=
  fun Γ p hΓ => wp_two t p s (h1 Γ p hΓ) (h2 Γ p hΓ)
end KM

namespace KM
open PySem PySem.Spec PyProof.Rows L2 KX
/-! exceptions of one own class C that carry one text m; a promise tells the text in the class's place: E (.str m 0) none H -/
/-- the exception u was made of the text m -/
def Rec (t : Addr) (h : Heap) (u : Value) (m : Str) : Prop :=
  ∃ (a : Addr) (oe : Obj) (vs : Array Value) (c : Value) (k : Tok), u = .ref a ∧ h.get? a = some oe ∧ oe.data = .fields vs ∧ vs[0]? = some (.ref t) ∧ vs[2]? = some c ∧ h.TupAt t [.str m k]
/-- a wish that knows the text, for one that knows the class -/
def inC (C t : Addr) (m : Str) (E : XK) : XK := fun cls d H => cls = .ref C ∧ d = none ∧ H t = none ∧ E (.str m 0) none H
def inW (C t : Addr) (m : Str) (W : WX) : WX := fun cls d σ H => cls = .ref C ∧ d = none ∧ H t = none ∧ W (.str m 0) none σ H
def XM (C : Addr) (X : Cx) (W : WX) (u : Value) (s' : Shared) : Prop := ∃ m t, XE X (inW C t m W) u s' ∧ Rec t s'.heap u m ∧ t ∉ frs X.stack
def TakesM (C : Addr) (X : Cx) (W : WX) : Prop := ∀ u s', XM C X W u s' → X.xe u s'
/-- behind a call that let such an exception out -/
def CM (C : Addr) (P : Program) (w : World) : CXT := fun outer H s E u s' => ∃ m t, CX P w outer H s (inC C t m E) u s' ∧ Rec t s'.heap u m ∧ t ∉ frs outer
section
variable {X : Cx} {W : WX} {pins : List (Addr × Obj)} {σ : L2.St} {H : Hp} {s s' : Shared} {E : XK} {C : Addr}
theorem XM.of_call (I : Inv X pins σ H s) (hW : ∀ cls d H', E cls d H' → W cls d σ H') {u : Value} (c : CM C X.prog X.w X.stack H s E u s') : XM C X W u s' := by
  obtain ⟨m, t, c, r⟩ := c
  exact ⟨m, t, XE.of_call I (fun cls d H' h => ⟨h.1, h.2.1, h.2.2.1, hW _ _ _ h.2.2.2⟩) c, r⟩
theorem Rec.fly {B h : Heap} {l : List Env} {a t : Addr} {cls c : Value} {d : Option Addr} {m : Str} {k : Tok} (f : Heap.FlyingD B l a cls (.ref t) c d h) (y : h.TupAt t [.str m k]) : Rec t h (.ref a) m := by
  obtain ⟨oe, vs, h1, _, _, h2, h3, h4⟩ := PySem.W.FlyingD.record f
  exact ⟨a, oe, vs, c, k, rfl, h1, h2, h3, h4, y⟩
/-- it leaves the def -/
theorem XM.leave (hs : X.stack = X.env :: X.outer) (hf : X.env.frame = some X.env.locals) (hex : X.ex = []) {E₁ : Value → Shared → Prop} (hW : ∀ cls d σ H, W cls d σ H → E cls d H) {u : Value} (x : XM C X W u s') :
    wpAny (model X.prog X.w) X.A (leaving X.env u) (fun _ s2 => CM C X.prog X.w X.outer X.H_0 X.s_0 E u s2) E₁ s' := by
  obtain ⟨m, t, x, r, tn⟩ := x
  rw [hs] at tn
  have tn : t ∉ frs X.outer := fun z => tn (by
    obtain ⟨e, h1, h2⟩ := List.mem_filterMap.mp z
    exact List.mem_filterMap.mpr ⟨e, List.mem_cons_of_mem _ h1, h2⟩)
  have h1 := XE.leave (E := inC C t m E) (E₁ := E₁) hs hf hex (fun cls d σ H h => ⟨h.1, h.2.1, h.2.2.1, hW _ _ _ _ h.2.2.2⟩) x
  have h2 : wpAny (model X.prog X.w) X.A (leaving X.env u) (fun _ s2 => Rec t s2.heap u m) E₁ s' := by
    obtain ⟨a, B, sI, pn, σ, H, cls, d, rfl, I, _, _, sky, _⟩ := x
    obtain ⟨a', oe, vs, c, k, e, g1, g2, g3, g4, g5⟩ := r
    cases e
    have hfr : X.A.frames = some (X.env :: X.outer) := by rw [I.ok.frames, hs]
    rw [hs] at sky
    rcases sky with ⟨b1, b2, b3, oe', vs', b4, b5, b6, b7⟩ | f | f
    · rw [g1] at b4
      cases b4
      rw [g2] at b6
      cases b6
      exact PySem.W.exc_leaves_first hfr b3 hf g1 b1 b2 g2 b7 g3 g4 b5.2 b5.1 fun h' y k => Rec.fly y (g5.of_slots k)
    · obtain ⟨k1, k2, k3, oe', vs', T, oT, ts, q1, q2, q3, q4⟩ := f
      rw [g1] at q1
      cases q1
      rw [g2] at q3
      cases q3
      have f : Heap.FlyingD B (X.env :: X.outer) a cls (.ref t) c d s'.heap := ⟨k1, k2, k3, oe, vs, T, oT, ts, g1, ⟨q2.1, g3, g4, q2.2⟩, g2, q4⟩
      exact PySem.W.exc_leaves hfr hf f fun h' y k => Rec.fly y (g5.of_slots k)
    · have z := HandSPX.leaves_heldZ (M := model X.prog X.w) (A := X.A) (E := E₁) (Q := fun _ s2 => s'.heap.UpToSlots s2.heap) hf f fun h' _ k => k
      obtain ⟨k1, k2, k3, oe', vs', T, oT, ts, q1, q2, q3, q4⟩ := f
      rw [g1] at q1
      cases q1
      rw [g2] at q3
      cases q3
      have f : Heap.HeldD B (X.env :: X.outer) a cls (.ref t) c d X.env.locals s'.heap := ⟨k1, k2, k3, oe, vs, T, oT, ts, g1, ⟨q2.1, g3, g4, q2.2⟩, g2, q4⟩
      have y := PySem.W.exc_leaves_held (M := model X.prog X.w) (A := X.A) (E := E₁) (Q := fun _ s2 => Heap.FlyingD B X.outer a cls (.ref t) c d s2.heap) hf f fun h' y => y
      exact wpAny_mono (any_two z y) (fun _ s2 h => Rec.fly h.2 (g5.of_slots h.1)) fun _ _ h => h.1
  exact wpAny_mono (any_two h1 h2) (fun _ s2 h => ⟨m, t, h.1, h.2, tn⟩) fun _ _ h => h.1
theorem takesM_of (hs : X.stack = X.env :: X.outer) (hf : X.env.frame = some X.env.locals) (hex : X.ex = []) {E₁ : Value → Shared → Prop}
    (hx : X.xe = fun e s' => wpAny (model X.prog X.w) X.A (leaving X.env e) (fun _ s2 => CM C X.prog X.w X.outer X.H_0 X.s_0 E e s2) E₁ s') : TakesM C X (fun cls d _ H => E cls d H) := fun u s' x => by
  rw [hx]
  exact XM.leave (W := fun cls d _ H => E cls d H) (E := E) hs hf hex (fun _ _ _ _ h => h) x
theorem passM (tk : TakesM C X W) (hW : ∀ cls d σ H, E cls d H → W cls d σ H) : Passes (CM C X.prog X.w) X E := fun _ _ _ _ _ _ I c => tk _ _ (XM.of_call I (fun _ _ _ h => hW _ _ _ _ h) c)
theorem passAtM (tk : TakesM C X W) (σ : L2.St) : PassesAt (CM C X.prog X.w) X σ (WE W σ) := fun _ _ _ _ _ I c => tk _ _ (XM.of_call I (fun _ _ _ h => h) c)
/-- where the text is no matter -/
theorem takes_drop (tk : Takes X W) : TakesM C X (fun _ _ σ H => W (.ref C) none σ H) := fun u s' ⟨m, t, x, _⟩ => by
  refine tk u s' ?_
  obtain ⟨a, B, sI, pn, σ, H, cls, d, e, I, h1, h2, h3, h4, h5, h6, h7, h8, _, h9⟩ := x
  subst h7
  subst h8
  exact ⟨a, B, sI, pn, σ, H, _, none, e, I, h1, h2, h3, h4, h5, h6, h9⟩
end
section
variable {P : Program} {w : World} {K : PySem.W.Frag} {mg : Str → Option Value} {base : Heap} {C : Addr}
/-- a def that may raise so -/
theorem okM {x qual : Str} {st : Stmt} {f : Addr} {fd : FuncData} {N ps : List Str} {k : Nat} {sp : Sp} (F : Fun K x qual st f fd) (S : FnScope N ps (defScope st)) (len : ∀ vs H Q E, sp vs H Q E → vs.length = ps.length)
    (walk : ∀ (cdv : Value) (A : Around) (outer : List Env) (s : Shared) (H : Hp) (vs : List V) (Q : VK) (E : XK), Room k (A.deeper (envOfC qual (defScope st) s.heap.objs.size f cdv)) → sp vs H Q E →
      ∃ t, PSs (cxOf (CM C P w) P w K mg base N qual (defScope st) f cdv A outer s H E) (defBody st) t ∧ t { nx := fun _ H' => Q .non H', rt := Q } (L2.start N vs) H) : FnOk P w K mg base (CM C P w) (k + 1) f fd ps sp := by
  obtain ⟨oc, od, kV, doc, pm, an, cdv, ct, osl, rfl, lk, hcd⟩ := F.ex
  exact fn_of lk hcd S len (walk cdv)
variable {N : List Str} {qual : Str} {scope : Scope} {f : Addr} {cd : Value} {A : Around} {outer : List Env} {s : Shared} {H : Hp} {E : XK}
theorem tkM : TakesM C (cxOf (CM C P w) P w K mg base N qual scope f cd A outer s H E) (fun cls d _ H => E cls d H) := takesM_of rfl rfl rfl rfl
theorem passMd : Passes (CM C P w) (cxOf (CM C P w) P w K mg base N qual scope f cd A outer s H E) E := passM tkM (fun _ _ _ _ h => h)
end
/-! ### raise -/
def MkM (C : Addr) (X : Cx) (pins : List (Addr × Obj)) (σ : L2.St) (Q : XK) (u : Value) (s' : Shared) : Prop := ∃ m t, MkP X pins σ (inC C t m Q) u s' ∧ Rec t s'.heap u m ∧ t ∉ frs X.stack
def PMkM (C : Addr) (X : Cx) (e : Expr) (t : L2.St → Hp → XK → Prop) : Prop :=
  ∀ (pins : List (Addr × Obj)) (s : Shared) (σ : L2.St) (H : Hp) (Q : XK), Inv X pins σ H s → t σ H Q → wpAny (model X.prog X.w) X.A (eval e X.env) (MkM C X pins σ Q) X.xe s
def tRsM (t : L2.St → Hp → XK → Prop) (W : WX) : TS := fun _ σ H => t σ H fun cls d H' => W cls d σ H'
def tMk (te : TE) : L2.St → Hp → XK → Prop := fun σ H Q => te σ H fun v H1 => ∃ m, v = .str m ∧ Q (.str m 0) none H1
theorem ps_raiseM {C : Addr} {X : Cx} {W : WX} {e : Expr} {t : L2.St → Hp → XK → Prop} {pos : Pos} (calm : X.calm = true) (tk : TakesM C X W) (mk : PMkM C X e t) : PS X (.Raise (some e) none pos) (tRsM t W) := by
  refine ⟨fun pins s σ H D I h => ?_⟩
  show wpAny _ _ (do standAt pos; raiseStmt X.env (some (do let v ← eval e X.env; standAt pos; pure v)) none) _ _ _
  refine wpAny_bind (wpAny_standAt (raise_made (I.ok.hd calm) (wpAny_bind (wpAny_mono (mk pins s σ H _ I h) (fun u s1 hu => wpAny_bind (wpAny_standAt (wpAny_pure ?_))) fun _ _ x => x))))
  obtain ⟨m, t, ⟨a, oe, vs, sI, H2, cls, d, rfl, J, k, g1, g2, g3, g4, g5, g6, g7, g8, g9, q⟩, r⟩ := hu
  have g10 := g9 (model X.prog X.w) s1.heap (J.kIn.keeps k)
  exact ⟨a, oe, vs, cls, rfl, g2, g3.1, g4, g5, g10.1, g10.2, tk _ _ ⟨m, t, XE.new J k g1 g2 g3 g4 g5 g6 g7 g8 q, r⟩⟩
theorem rec_made {h h' : Heap} {e : Addr} {cls : Value} {m : Str} {k : Tok} (hx : Heap.MadeExcOf h h' e cls [.str m k]) : ∃ t, h.get? t = none ∧ Rec t h' (.ref e) m := by
  obtain ⟨t, he, ht, hT⟩ := hx.there
  exact ⟨t, ht, e, _, _, .none, k, rfl, he, rfl, rfl, rfl, _, _, hT, rfl, rfl⟩
/-- X(e), an own class over ValueError without own __init__ -/
theorem pmkM {X : Cx} {C : Addr} {x : Str} {e : Expr} {te : TE} {p pos : Pos} (T : ExcAt X.K X.mg x C) (hg : Gl X x) (he : PE X e te) (hs : starEach [e] X.env = (false, eval e X.env) :: starEach [] X.env := by rfl) (hdb : (x == ("__debug__" : Str)) = false := by decide) :
    PMkM C X (.Call (.Name x p) [e] [] pos) (tMk te) := by
  intro pins s σ H Q I h
  refine wpAny_Call_Name_kw (ld_glob I hg T.gC ?_ hdb)
  refine PySem.W.callWith_K (h₀ := X.base) I.ok.mod.kin T.kC ?_ hs (by rfl)
  rw [hs]
  show wpAny _ _ (spliced ((false, eval e X.env) :: backTo pos (starEach [] X.env))) _ _ s
  refine Calls.spliced_cons (thn (he.run pins s σ H _ I h) fun u s1 ⟨v, H1, I1, r1, m, ev, q1⟩ => Calls.spliced_nil ⟨I1.kIn, ?_⟩)
  subst ev
  obtain ⟨k, rfl⟩ := r1
  show wpAny _ _ (call (.ref C) [_]) _ _ _
  obtain ⟨bm, N, nm, qn, bs, hdct, sn, sub, ab, col, dd, k0, k1, k2, k3, k5, mN, hC, hN, hni, TT⟩ := exc_obj I1.kIn T.q
  exact wpAny_call_exc_subT PySem.F.excBase_ValueError TT hC hN hni (fun h' e hm => by
    obtain ⟨t, ht, hr⟩ := rec_made hm
    exact ⟨m, t, mk_of I1 hm (raises_own T.sb T.ty) ⟨rfl, rfl, I1.hok.gone ht, q1⟩ (I1.hok.gone hm.new), hr, fun z => by
      obtain ⟨_, o, y, _⟩ := I1.stack.mem z
      rw [ht] at y
      cases y⟩) (by show 1 ≤ sizeLine; rw [sizeLine_eq]; omega)
end KM

namespace KM
open PySem PySem.Spec PyProof.Rows L2 KX
/-! try: body, except x as n: suite; the suite may read the text -/
section
variable {M : Model} {A : Around} {E : Value → Shared → Prop} {s : Shared} {B : Heap} {l : List Env} {a t : Addr} {cls c : Value} {d : Option Addr} {m : Str} {k : Tok}
theorem flyZ {h : Heap} (f : Heap.FlyingD B l a cls (.ref t) c d h) : HandSPX.FlyingZ B l a (Zc cls d) h := by
  obtain ⟨k1, k2, k3, oe, vs, T, oT, ts, q1, q2, q3⟩ := f
  exact ⟨k1, k2, k3, oe, vs, T, oT, ts, q1, ⟨q2.1, q2.2.2.2⟩, q3⟩
/-- the flight set to none: the record stands -/
theorem flight_rec {Q : Unit → Shared → Prop} (f : Heap.FlyingD B l a cls (.ref t) c d s.heap) (q : ∀ h', HandSPX.FlyingZ B l a (Zc cls d) h' → s.heap.UpToSlots h' → h'.get? a = s.heap.get? a → Q () { s with heap := h' }) : wpAny M A (setFlight (.ref a) none) Q E s := by
  have h1 : wpAny M A (setFlight (.ref a) none) (fun _ s2 => ∃ h', s2 = { s with heap := h' } ∧ HandSPX.FlyingZ B l a (Zc cls d) h' ∧ s.heap.UpToSlots h') E s := HandSPX.lands_againZ (flyZ f) fun h' f' up => ⟨h', rfl, f', up⟩
  have h2 : wpAny M A (setFlight (.ref a) none) (fun _ s2 => s2.heap.get? a = s.heap.get? a) E s := by
    obtain ⟨k1, k2, k3, oe, vs, T, oT, ts, q1, q2, q3, q4, q5, q6, q7, q8, q9⟩ := f
    unfold setFlight
    refine wpAny_bind (wpAny_field q1 q3 q4 ?_)
    rw [if_pos (show (Value.ref T != Value.none) = true from by simp)]
    refine wpAny_setField q7 q8 ?_ ?_
    · rcases Nat.lt_or_ge 3 ts.size with z | z
      · exact z
      · rw [Array.getElem?_eq_none z] at q9
        cases q9
    · exact Heap.get?_update_other _ _ q6
  refine wpAny_mono (any_two h1 h2) (fun _ s2 h => ?_) fun _ _ h => h.1
  obtain ⟨⟨h', rfl, g1, g2⟩, g3⟩ := h
  exact q h' g1 g2 g3
end
/-- what the clause wishes -/
def wAsM (i : Nat) (ts : Addr → Str → TS) (D : Ends) : WX := fun v _ σ H => ∀ m a, v = .str m 0 → H a = none →
  ts a m { nx := fun σ' H' => D.nx (σ'.set i none) H', rt := D.rt, bk := fun σ' H' => D.bk (σ'.set i none) H', ct := fun σ' H' => D.ct (σ'.set i none) H' } (σ.set i (some (.ref a))) H
/-- what is known of the caught: its record, its arguments' tuple -/
def Held (C : Addr) (p q : Addr × Obj) (m : Str) : Prop := p.2.cls = .ref C ∧ (∃ vs, p.2.data = .fields vs ∧ vs[0]? = some (.ref q.1)) ∧ q.2.cls = .type "tuple" ∧ ∃ (k : Tok) (n : Nat), q.2.data = .seq [Value.str m k].toArray n
section
variable {X : Cx} {x n : Str} {C : Addr} {i : Nat} {body suite : List Stmt} {b₀ : Stmt} {np pos pos' : Pos} {tb : WX → TS} {ts : Addr → Str → TS}
theorem ps_try_asM (hs : X.stack = X.env :: X.outer) (hf : X.env.frame = some X.env.locals) (nd : X.N.Nodup) (hi : X.N[i]? = some n) (hn : X.env.kindOf n = some .local) (hc : Names X x (.ref C)) (self : PySem.W.exmOne X.K (.ref C) (.ref C) = some true)
    (hb : ∀ (W : WX) (pn : List (Addr × Obj)) (xe : Value → Shared → Prop), TakesM C (X.tr pn xe) W → PassesOwn (model X.prog X.w) X.A X.env xe → PSs (X.tr pn xe) body (tb W))
    (hsu : ∀ (p q : Addr × Obj) (m : Str) (pn : List (Addr × Obj)), Held C p q m → PSs (X.suite p.1 (p :: q :: pn)) (b₀ :: suite) (ts p.1 m)) :
    PS X (.Try body [.ExceptHandler (some (.Name x np)) (some n) (b₀ :: suite) pos'] [] [] pos) (fun D σ H => tb (wAsM i ts D) D σ H) := by
  refine ⟨fun pins s σ H D I h => ?_⟩
  have ok := I.ok
  have hfr : X.A.frames = some (X.env :: X.outer) := by rw [ok.frames, hs]
  refine wpAny_Try_except ?_
  let hds : List ExceptHandler := [.ExceptHandler (some (.Name x np)) (some n) (b₀ :: suite) pos']
  let xe : Value → Shared → Prop := fun e s₁ => wpAny (model X.prog X.w) X.A (noteFrame e X.env) (fun _ s₂ => wpAny (model X.prog X.w) X.A (setFlight e none) (fun _ s₃ => wpAny (model X.prog X.w) X.A (handleBy e X.env hds) (SP X pins D) X.xe s₃) X.xe s₂) X.xe s₁
  have caught : TakesM C (X.tr (X.pn ++ pins) xe) (wAsM i ts D) := by
    rintro u s' ⟨m, t, ⟨a, B, sI, pn2, σ2, H2, cls, d, rfl, J', nb, up, sky, na, os, ag, ec, ed, nt, want⟩, ⟨a', oe, vs, c, k, eu, g1, g2, g3, g4, g5⟩, tn⟩
    rw [show (X.tr (X.pn ++ pins) xe).stack = X.env :: X.outer from hs] at tn
    cases eu
    subst ec
    subst ed
    have J : Inv X pins σ2 H2 sI := J'.ofTry ok
    have sky : Sky B (X.env :: X.outer) a (Zc (.ref C) none) X.env.locals s'.heap := by rw [← hs]; exact sky
    show wpAny (model X.prog X.w) X.A (noteFrame (.ref a) X.env) _ X.xe s'
    have land : ∀ h3, Heap.FlyingD B (X.env :: X.outer) a (.ref C) (.ref t) c none h3 → s'.heap.UpToSlots h3 → wpAny (model X.prog X.w) X.A (handleBy (.ref a) X.env hds) (SP X pins D) X.xe { s' with heap := h3 } := by
      intro h3 f3 up3
      have z3 := flyZ f3
      have J3 : Inv X pins σ2 H2 { s' with heap := h3 } := J.landed nb z3.1 (up.trans up3) os ag
      obtain ⟨oe3, vs3, e3, c3, dd3, d3, a3, _⟩ := PySem.W.FlyingD.record f3
      have away : ∀ {o : Obj} {vs : Array Value}, h3.get? a = some o → o.data = .fields vs → a ∉ frs (X.env :: X.outer) := fun {o vs} y dd hm => by
        obtain ⟨_, o', y', nf⟩ := z3.2.2.1.mem hm
        rw [y] at y'
        cases y'
        exact nf _ dd
      have nfr := away e3 d3
      have nL : a ≠ X.env.locals := fun z => nfr (List.mem_filterMap.mpr ⟨X.env, List.mem_cons_self, by rw [hf, z]⟩)
      have nF : a ∉ X.fs := fun hm => by
        obtain ⟨e, he, y⟩ := List.mem_filterMap.mp hm
        exact nfr (List.mem_filterMap.mpr ⟨e, List.mem_cons_of_mem _ he, y⟩)
      have S3 := J3.suite e3 d3 na nL nF
      refine PySem.W.exc_clause_as ?_
      have LT : PySem.W.Looks (model X.prog X.w) h3 (typeOf (.ref a)) (.ref C) := fun A Q E s k q => wpAny_typeOf_ref (k _ _ e3) (by rw [c3]; exact q)
      have LM := PySem.W.exm_one (M := model X.prog X.w) J3.kIn LT self
      have test : ∀ {Q : Value → Shared → Prop} {E : Value → Shared → Prop}, Q (.ref C) { s' with heap := h3 } → wpAny (model X.prog X.w) (X.A.mark (some (.ref a))) (eval (.Name x np) X.env) Q E { s' with heap := h3 } := fun {Q E} q => by
        obtain ⟨hg, hdb, hm | ⟨hm, hv, hnn⟩⟩ := hc
        · exact ld_glob (X := X.suite a ((a, oe3) :: (X.pn ++ pins))) S3 hg hm q hdb
        · exact ld_blt (X := X.suite a ((a, oe3) :: (X.pn ++ pins))) S3 hg hm hv q hnn hdb
      refine test ⟨true, LM, ?_⟩
      rw [if_pos rfl]
      refine flight_rec f3 fun h4 z4 up4 same => ?_
      have J4 : Inv X pins σ2 H2 { s' with heap := h4 } := J.landed nb z4.1 ((up.trans up3).trans up4) os ag
      have e4 : h4.get? a = some oe3 := same.trans e3
      obtain ⟨ot, nn, y1, y2, y3⟩ := (g5.of_slots up3).of_slots up4
      have S4 := J4.suite e4 d3 na nL nF
      have S5 : Inv (X.suite a ((a, oe3) :: (t, ot) :: (X.pn ++ pins))) [] σ2 H2 { s' with heap := h4 } := by
        refine ⟨ok.suite _ _, S4.os, S4.bare, S4.base, S4.loc, S4.cell, S4.free, S4.freeC, fun p hp => ?_, S4.hok, S4.len⟩
        have hp : p ∈ (a, oe3) :: (t, ot) :: (X.pn ++ pins) := by rw [List.append_nil] at hp; exact hp
        rcases List.mem_cons.mp hp with y | hp
        · exact S4.pin p (by rw [y]; simp)
        · rcases List.mem_cons.mp hp with y | hp
          · subst y
            refine ⟨y1, nt, fun z => tn ?_, fun z => tn ?_, fun v z => ?_⟩
            · exact List.mem_filterMap.mpr ⟨X.env, List.mem_cons_self, by rw [hf]; exact congrArg some z.symm⟩
            · obtain ⟨e, he, y⟩ := List.mem_filterMap.mp z
              exact List.mem_filterMap.mpr ⟨e, List.mem_cons_of_mem _ he, y⟩
            · have z : ot.data = .cell v := z
              rw [y3] at z
              cases z
          · exact S4.pin p (by rw [List.append_nil]; exact List.mem_cons_of_mem _ hp)
      refine store_ok (X := X.suite a ((a, oe3) :: (t, ot) :: (X.pn ++ pins))) (v := .ref a) S5 nd hi (.inl hn) rfl (fun s5 S6 => ?_) (.inr hn)
      refine wpAny_mono ((hsu (a, oe3) (t, ot) m (X.pn ++ pins) ⟨c3, ⟨vs3, d3, a3⟩, y2, k, nn, y3⟩).run [] s5 _ H2 _ S6 (want m a rfl na)) (fun f s6 hsp => ?_) (fun _ _ z => False.elim z)
      have out : ∀ {σ6 : L2.St} {H6 : Hp} {Q : Shared → Prop}, Inv (X.suite a ((a, oe3) :: (t, ot) :: (X.pn ++ pins))) [] σ6 H6 s6 → (∀ s7, Inv X pins (σ6.set i none) H6 s7 → Q s7) →
          wpAny (model X.prog X.w) X.A (do bindName X.env n .none; unbindBehindTheSuite X.env n pos') (fun _ s7 => Q s7) X.xe s6 := fun {σ6 H6 Q} S q =>
        gone_ok (X := X) (pins := pins) ⟨ok, S.os, S.bare, S.base, S.loc, S.cell, S.free, S.freeC, fun p hp => S.pin p (List.mem_append_left _ (List.mem_cons_of_mem _ (List.mem_cons_of_mem _ hp))), S.hok, S.len⟩ nd hi hn q
      cases f with
      | next =>
        obtain ⟨σ6, H6, S, q⟩ := hsp
        exact out S fun s7 y => ⟨_, _, y, q⟩
      | brk =>
        obtain ⟨σ6, H6, S, q⟩ := hsp
        exact out S fun s7 y => ⟨_, _, y, q⟩
      | cont =>
        obtain ⟨σ6, H6, S, q⟩ := hsp
        exact out S fun s7 y => ⟨_, _, y, q⟩
      | ret u =>
        obtain ⟨v6, σ6, H6, S, r, q⟩ := hsp
        exact out S fun s7 y => ⟨_, _, _, y, r, q⟩
    rcases sky with ⟨b1, b2, b3, oe', vs', b4, b5, b6, b7⟩ | f | f
    · rw [g1] at b4
      cases b4
      rw [g2] at b6
      cases b6
      exact PySem.W.exc_meets_try_first hfr b3 hf g1 b1 b2 g2 b7 g3 g4 b5.2 b5.1 land
    · obtain ⟨k1, k2, k3, oe', vs', T, oT, ts', q1, q2, q3, q4⟩ := f
      rw [g1] at q1
      cases q1
      rw [g2] at q3
      cases q3
      exact PySem.W.exc_meets_try hfr hf (cls := .ref C) ⟨k1, k2, k3, oe, vs, T, oT, ts', g1, ⟨q2.1, g3, g4, q2.2⟩, g2, q4⟩ land
    · obtain ⟨k1, k2, k3, oe', vs', T, oT, ts', q1, q2, q3, q4⟩ := f
      rw [g1] at q1
      cases q1
      rw [g2] at q3
      cases q3
      exact PySem.W.exc_meets_try_held hf (cls := .ref C) ⟨k1, k2, k3, oe, vs, T, oT, ts', g1, ⟨q2.1, g3, g4, q2.2⟩, g2, q4⟩ land
  refine wpAny_mono ((hb (wAsM i ts D) (X.pn ++ pins) xe caught PassesOwn.looking).run [] s σ H D (I.toTry _) h) (fun f s1 hsp => ?_) (fun e s1 he => he)
  cases f with
  | next =>
    obtain ⟨σ2, H2, J, q⟩ := hsp
    exact wpAny_execs_nil ⟨σ2, H2, J.ofTry ok, q⟩
  | brk =>
    obtain ⟨σ2, H2, J, q⟩ := hsp
    exact ⟨σ2, H2, J.ofTry ok, q⟩
  | cont =>
    obtain ⟨σ2, H2, J, q⟩ := hsp
    exact ⟨σ2, H2, J.ofTry ok, q⟩
  | ret u =>
    obtain ⟨v, σ2, H2, J, r, q⟩ := hsp
    exact ⟨v, σ2, H2, J.ofTry ok, r, q⟩
end
end KM

namespace KM
open PySem PySem.Spec PyProof.Rows L2 KX
/-- str(n) of a caught exception -/
def rStrE (a : Addr) (m : Str) : List V → Hp → VK → Prop := fun xs H Q => xs = [.ref a] ∧ Q (.str m) H
theorem kx_strE {X : Cx} {C : Addr} {p q : Addr × Obj} {m : Str} (hp : p ∈ X.pn) (hq : q ∈ X.pn) (h : Held C p q m) (st : PySem.W.findIn X.K (.ref C) "__str__" = some (some (.builtin "BaseException.__str__"))) (sb : PySem.W.subIn X.K (.ref C) (.type "BaseException") = some true)
    (hu : X.A.units + 65 < cLine) : CallR X (.type "str") (rStrE p.1 m) := by
  intro pins s σ H xs us Q I r hq2
  obtain ⟨rfl, hQ⟩ := hq2
  obtain ⟨u, rfl, ru⟩ := vals1 r
  cases ru
  obtain ⟨h1, ⟨vs, h2, h3⟩, h4, k, n, h5⟩ := h
  have e1 := (I.pin p (List.mem_append_left _ hp)).1
  have e2 := (I.pin q (List.mem_append_left _ hq)).1
  exact PySem.P.str_of_C_one (by omega) ⟨I.kIn, _, vs, e1, h1, h2, h3⟩ ⟨_, n, e2, h4, h5⟩ st sb ⟨.str m, H, I, ⟨k, rfl⟩, hQ⟩
/-! ### raise .. from None in an except suite -/
def PMk6 (C : Addr) (X : Cx) (e : Expr) (t : L2.St → Hp → XK → Prop) : Prop :=
  ∀ (pins : List (Addr × Obj)) (s : Shared) (σ : L2.St) (H : Hp) (Q : XK), Inv X pins σ H s → t σ H Q → wpAny (model X.prog X.w) X.A (eval e X.env) (fun u s' => MkM C X pins σ Q u s' ∧ L2H.Six u s') X.xe s
theorem six_made {h h' : Heap} {e : Addr} {cls : Value} {us : List Value} {s : Shared} (hx : Heap.MadeExcOf h h' e cls us) : L2H.Six (.ref e) { s with heap := h' } := by
  intro a oe vs ea y1 y2
  obtain ⟨t, he, _⟩ := hx.there
  cases ea
  have y1 : h'.get? e = some oe := y1
  rw [he] at y1
  cases y1
  cases y2
  show 4 < 6
  decide
theorem pmk6 {X : Cx} {C : Addr} {x : Str} {e : Expr} {te : TE} {p pos : Pos} (T : ExcAt X.K X.mg x C) (hg : Gl X x) (he : PE X e te) (hs : starEach [e] X.env = (false, eval e X.env) :: starEach [] X.env := by rfl) (hdb : (x == ("__debug__" : Str)) = false := by decide) :
    PMk6 C X (.Call (.Name x p) [e] [] pos) (tMk te) := by
  intro pins s σ H Q I h
  refine wpAny_Call_Name_kw (ld_glob I hg T.gC ?_ hdb)
  refine PySem.W.callWith_K (h₀ := X.base) I.ok.mod.kin T.kC ?_ hs (by rfl)
  rw [hs]
  show wpAny _ _ (spliced ((false, eval e X.env) :: backTo pos (starEach [] X.env))) _ _ s
  refine Calls.spliced_cons (thn (he.run pins s σ H _ I h) fun u s1 ⟨v, H1, I1, r1, m, ev, q1⟩ => Calls.spliced_nil ⟨I1.kIn, ?_⟩)
  subst ev
  obtain ⟨k, rfl⟩ := r1
  show wpAny _ _ (call (.ref C) [_]) _ _ _
  obtain ⟨bm, N, nm, qn, bs, hdct, sn, sub, ab, col, dd, k0, k1, k2, k3, k5, mN, hC, hN, hni, TT⟩ := exc_obj I1.kIn T.q
  exact wpAny_call_exc_subT PySem.F.excBase_ValueError TT hC hN hni (fun h' e hm => by
    obtain ⟨t, ht, hr⟩ := rec_made hm
    exact ⟨⟨m, t, mk_of I1 hm (raises_own T.sb T.ty) ⟨rfl, rfl, I1.hok.gone ht, q1⟩ (I1.hok.gone hm.new), hr, fun z => by
      obtain ⟨_, o, y, _⟩ := I1.stack.mem z
      rw [ht] at y
      cases y⟩, six_made hm⟩) (by show 1 ≤ sizeLine; rw [sizeLine_eq]; omega)
theorem ps_raiseHM {C : Addr} {X : Cx} {W : WX} {e : Expr} {t : L2.St → Hp → XK → Prop} {j : Nat} {cpos pos : Pos} (hot : L2H.HotC X) (tk : TakesM C X W) (mk : PMk6 C X e t) : PS X (.Raise (some e) (some (.Constant .none j cpos)) pos) (tRsM t W) := by
  refine ⟨fun pins s σ H D I h => ?_⟩
  obtain ⟨p, ⟨y1, v1, y2, y3⟩, hp⟩ := hot
  show wpAny _ _ (do standAt pos; raiseStmt X.env (some (do let v ← eval e X.env; standAt pos; pure v)) (some (do let v ← eval (.Constant .none j cpos) X.env; standAt pos; pure v))) _ _ _
  refine wpAny_bind (wpAny_standAt (HotX.raise_made_hotN (x1 := p.1) (fun _ _ y => wpAny_bind (Constant_none (wpAny_bind (wpAny_standAt (wpAny_pure y))))) (wpAny_bind (wpAny_mono (mk pins s σ H _ I h) (fun u s1 hu => wpAny_bind (wpAny_standAt (wpAny_pure ?_))) fun _ _ z => z))))
  obtain ⟨⟨m, tt, ⟨a, oe, vs, sI, H2, cls, d, rfl, J, k, g1, g2, g3, g4, g5, g6, g7, g8, g9, q⟩, r, tn⟩, six⟩ := hu
  have hi : 4 < vs.size := six a oe vs rfl g2 g4
  have off : ∀ b u, sI.heap.get? b = some u → a ≠ b := fun b u z y => by
    rw [← y, g1] at z
    cases z
  have k4 : ∀ b u, sI.heap.get? b = some u → (HotX.noneFrom s1.heap a).get? b = some u := fun b u z => by rw [HotX.noneFrom_other (off b u z)]; exact k b u z
  have r1 := (g9 (model X.prog X.w) s1.heap (J.kIn.keeps k)).1
  have r2 := (g9 (model X.prog X.w) (HotX.noneFrom s1.heap a) (J.kIn.keeps k4)).2
  have P1 := (J.pin p (List.mem_append_left _ hp)).1
  have pa : p.1 ≠ a := fun z => off _ _ P1 z.symm
  obtain ⟨ha4, hd4⟩ := HotX.noneFrom_at g2 g4
  have h12 : (((vs.setIfInBounds 3 Value.none).setIfInBounds 4 (Value.bool true)).setIfInBounds 2 (Value.ref p.1))[1]? = some Value.none := HotX.set_other (by decide) (HotX.set_other (by decide) (HotX.set_other (by decide) g5))
  have hup := Heap.get?_update_self (Obj.mapFields (·.setIfInBounds 2 (Value.ref p.1))) ha4 (Obj.isFreed_of_fields (Obj.data_mapFields hd4 _))
  have hdd := Obj.data_mapFields hd4 (·.setIfInBounds 2 (Value.ref p.1))
  refine ⟨a, oe, vs, cls, rfl, g2, g3.1, g4, g5, hi, pa, ⟨y1, p.2, v1, k _ _ P1, y2, y3⟩, r1, r2, tk _ _ ⟨m, tt, XE.new J (fun b u z => ?_) g1 hup
    ⟨by rw [Obj.cls_mapFields, Obj.cls_mapFields, Obj.cls_mapFields]; exact g3.1, by rw [HandSPX.dict_mapFields, HandSPX.dict_mapFields, HandSPX.dict_mapFields]; exact g3.2⟩ hdd h12 g6 g7 g8 q, ?_, tn⟩⟩
  · show ((HotX.noneFrom s1.heap a).update a _).get? b = some u
    rw [Heap.get?_update_other _ _ (off b u z)]
    exact k4 b u z
  · obtain ⟨a', oe', vs', c, kk, eu, q1, q2, q3, q4, o, nn, q5, q6, q7⟩ := r
    cases eu
    rw [g2] at q1
    cases q1
    rw [g4] at q2
    cases q2
    have at_ : a ≠ tt := fun z => by
      rw [← z, g2] at q5
      cases q5
      rw [g4] at q7
      cases q7
    refine ⟨a, _, _, .ref p.1, kk, rfl, hup, hdd, HotX.set_other (by decide) (HotX.set_other (by decide) (HotX.set_other (by decide) q3)), ?_, o, nn, ?_, q6, q7⟩
    · rw [Array.getElem?_setIfInBounds_self_of_lt]
      simp
      omega
    · show ((HotX.noneFrom s1.heap a).update a _).get? tt = some o
      rw [Heap.get?_update_other _ _ at_, HotX.noneFrom_other at_]
      exact q5
end KM

namespace KM
open PySem PySem.Spec PyProof.Rows L2 KX L2H
/-! try: body, except x: a suite that raises anew -/
def wRe (K : PySem.W.Frag) (c : Value) (ts : TS) (D : Ends) : WX := fun cls _ σ H => PySem.W.exmOne K cls c = some true ∧ ts D σ H
section
variable {X : Cx} {x : Str} {c : Value} {C : Addr} {body suite : List Stmt} {b₀ : Stmt} {np pos pos' : Pos} {tb : WX → TS} {ts : TS} {Wout : WX}
theorem ps_try_reM (hs : X.stack = X.env :: X.outer) (hf : X.env.frame = some X.env.locals) (hc : Names X x c) (hpa : ∀ hd : Option Value, PassesOwnAt (model X.prog X.w) (X.A.mark hd) X.A X.env X.xe) (tk : TakesM C X Wout)
    (hb : ∀ (W : WX) (pn : List (Addr × Obj)) (xe : Value → Shared → Prop), L2N.Takes (X.tr pn xe) W → PassesOwn (model X.prog X.w) X.A X.env xe → PSs (X.tr pn xe) body (tb W))
    (hsu : ∀ (p : Addr × Obj) (pn : List (Addr × Obj)), TakesM C (suiteX X p.1 (p :: pn)) Wout → HotC (suiteX X p.1 (p :: pn)) → PSs (suiteX X p.1 (p :: pn)) (b₀ :: suite) ts) :
    PS X (.Try body [.ExceptHandler (some (.Name x np)) none (b₀ :: suite) pos'] [] [] pos) (fun D σ H => tb (wRe X.K c ts D) D σ H) := by
  refine ⟨fun pins s σ H D I h => ?_⟩
  have ok := I.ok
  have hfr : X.A.frames = some (X.env :: X.outer) := by rw [ok.frames, hs]
  refine wpAny_Try_except ?_
  let hds : List ExceptHandler := [.ExceptHandler (some (.Name x np)) none (b₀ :: suite) pos']
  let xe : Value → Shared → Prop := fun e s₁ => wpAny (model X.prog X.w) X.A (noteFrame e X.env) (fun _ s₂ => wpAny (model X.prog X.w) X.A (setFlight e none) (fun _ s₃ => wpAny (model X.prog X.w) X.A (handleBy e X.env hds) (SP X pins D) X.xe s₃) X.xe s₂) X.xe s₁
  have caught : L2N.Takes (X.tr (X.pn ++ pins) xe) (wRe X.K c ts D) := by
    rintro u s' ⟨a, B, sI, pn2, σ2, H2, cls, d, rfl, J', nb, up, sky, na, os, ag, hex, want⟩
    have J : Inv X pins σ2 H2 sI := J'.ofTry ok
    have sky : Sky B (X.env :: X.outer) a (L2N.Zn cls d) X.env.locals s'.heap := by rw [← hs]; exact sky
    show wpAny (model X.prog X.w) X.A (noteFrame (.ref a) X.env) _ X.xe s'
    refine L2N.Sky.land L2N.Zn.steady hfr hf sky fun h3 z3 up3 => ?_
    have J3 : Inv X pins σ2 H2 { s' with heap := h3 } := J.landed nb z3.1 (up.trans up3) os ag
    obtain ⟨oe3, vs3, e3, c3, d3⟩ := z3.there
    have nfr : a ∉ frs (X.env :: X.outer) := fun hm => by
      obtain ⟨_, o', y', nf⟩ := z3.2.2.1.mem hm
      rw [e3] at y'
      cases y'
      exact nf _ d3
    have nL : a ≠ X.env.locals := fun z => nfr (List.mem_filterMap.mpr ⟨X.env, List.mem_cons_self, by rw [hf, z]⟩)
    have nF : a ∉ X.fs := fun hm => by
      obtain ⟨e, he, y⟩ := List.mem_filterMap.mp hm
      exact nfr (List.mem_filterMap.mpr ⟨e, List.mem_cons_of_mem _ he, y⟩)
    have S3 := J3.suite e3 d3 na nL nF
    refine PySem.W.exc_clause ?_
    have LT : PySem.W.Looks (model X.prog X.w) h3 (typeOf (.ref a)) cls := fun A Q E s k q => wpAny_typeOf_ref (k _ _ e3) (by rw [c3.1]; exact q)
    have LM := PySem.W.exm_one (M := model X.prog X.w) J3.kIn LT hex
    have test : ∀ {Q : Value → Shared → Prop} {E : Value → Shared → Prop}, Q c { s' with heap := h3 } → wpAny (model X.prog X.w) (X.A.mark (some (.ref a))) (eval (.Name x np) X.env) Q E { s' with heap := h3 } := fun {Q E} q => by
      obtain ⟨hg, hdb, hm | ⟨hm, hv, hnn⟩⟩ := hc
      · exact ld_glob (X := X.suite a ((a, oe3) :: (X.pn ++ pins))) S3 hg hm q hdb
      · exact ld_blt (X := X.suite a ((a, oe3) :: (X.pn ++ pins))) S3 hg hm hv q hnn hdb
    refine test ⟨true, LM, ?_⟩
    rw [if_pos rfl]
    refine HandSPX.lands_againZ z3 fun h4 z4 up4 => ?_
    have J4 : Inv X pins σ2 H2 { s' with heap := h4 } := J.landed nb z4.1 ((up.trans up3).trans up4) os ag
    obtain ⟨oe4, vs4, e4, c4, d4⟩ := z4.there
    have S4 := J4.suite e4 d4 na nL nF
    have tkS : TakesM C (suiteX X a ((a, oe4) :: (X.pn ++ pins))) Wout := by
      rintro u2 s2 ⟨m, t, ⟨a2, B2, sI2, pn3, σ3, H3, cls2, d2, y1, I2, y2⟩, r, tn⟩
      exact tk u2 s2 ⟨m, t, ⟨a2, B2, sI2, pins, σ3, H3, cls2, d2, y1, unsuiteX I2 ok, y2⟩, r, tn⟩
    have hot : HotC (suiteX X a ((a, oe4) :: (X.pn ++ pins))) := ⟨(a, oe4), ⟨rfl, vs4, d4, c4.2.2 vs4 d4⟩, List.mem_cons_self⟩
    refine wpAny_mono ((hsu (a, oe4) (X.pn ++ pins) tkS hot).run [] _ _ H2 _ (suiteX_of S4) want) (fun f s6 hsp => ?_) (fun e6 s6 z => hpa (some (.ref a)) e6 s6 z)
    cases f with
    | next =>
      obtain ⟨σ6, H6, S6, q6⟩ := hsp
      exact ⟨_, _, unsuiteX S6 ok, q6⟩
    | brk =>
      obtain ⟨σ6, H6, S6, q6⟩ := hsp
      exact ⟨_, _, unsuiteX S6 ok, q6⟩
    | cont =>
      obtain ⟨σ6, H6, S6, q6⟩ := hsp
      exact ⟨_, _, unsuiteX S6 ok, q6⟩
    | ret u =>
      obtain ⟨v6, σ6, H6, S6, r6, q6⟩ := hsp
      exact ⟨_, _, _, unsuiteX S6 ok, r6, q6⟩
  refine wpAny_mono ((hb (wRe X.K c ts D) (X.pn ++ pins) xe caught PassesOwn.looking).run [] s σ H D (I.toTry _) h) (fun f s1 hsp => ?_) (fun e s1 he => he)
  cases f with
  | next =>
    obtain ⟨σ2, H2, J, q⟩ := hsp
    exact wpAny_execs_nil ⟨σ2, H2, J.ofTry ok, q⟩
  | brk =>
    obtain ⟨σ2, H2, J, q⟩ := hsp
    exact ⟨σ2, H2, J.ofTry ok, q⟩
  | cont =>
    obtain ⟨σ2, H2, J, q⟩ := hsp
    exact ⟨σ2, H2, J.ofTry ok, q⟩
  | ret u =>
    obtain ⟨v, σ2, H2, J, r, q⟩ := hsp
    exact ⟨v, σ2, H2, J.ofTry ok, r, q⟩
end
end KM

namespace KM
open PySem PySem.Spec PyProof.Rows L2 KX
/-! defs whose exceptions were made where nothing is handled (context None): they may be called in a try whose suite raises anew -/
section
variable {P : Program} {w : World} {K : PySem.W.Frag} {mg : Str → Option Value} {base : Heap}
theorem okN {x qual : Str} {st : Stmt} {f : Addr} {fd : FuncData} {N ps : List Str} {k : Nat} {sp : Sp} (F : Fun K x qual st f fd) (S : FnScope N ps (defScope st)) (len : ∀ vs H Q E, sp vs H Q E → vs.length = ps.length)
    (walk : ∀ (cdv : Value) (A : Around) (outer : List Env) (s : Shared) (H : Hp) (vs : List V) (Q : VK) (E : XK), Room k (A.deeper (envOfC qual (defScope st) s.heap.objs.size f cdv)) → sp vs H Q E →
      ∃ t, PSs (cxOf (L2N.CX P w) P w K mg base N qual (defScope st) f cdv A outer s H E) (defBody st) t ∧ t { nx := fun _ H' => Q .non H', rt := Q } (L2.start N vs) H) : FnOk P w K mg base (L2N.CX P w) (k + 1) f fd ps sp := by
  obtain ⟨oc, od, kV, doc, pm, an, cdv, ct, osl, rfl, lk, hcd⟩ := F.ex
  exact fn_of lk hcd S len (walk cdv)
variable {N : List Str} {qual : Str} {scope : Scope} {f : Addr} {cd : Value} {A : Around} {outer : List Env} {s : Shared} {H : Hp} {E : XK}
theorem tkN : L2N.Takes (cxOf (L2N.CX P w) P w K mg base N qual scope f cd A outer s H E) (fun cls d _ H => E cls d H) := L2N.takes_of rfl rfl rfl rfl
theorem passN : Passes (L2N.CX P w) (cxOf (L2N.CX P w) P w K mg base N qual scope f cd A outer s H E) E := L2N.passes_call tkN (fun _ _ _ _ h => h)
/-- such a callee where the context is no matter -/
theorem cx_of {outer : List Env} {H : Hp} {s : Shared} {E : XK} {u : Value} {s' : Shared} (c : L2N.CX P w outer H s E u s') : L2.CX P w outer H s E u s' := by
  obtain ⟨a, B, H2, cls, d, e, f, r⟩ := c
  exact ⟨a, B, H2, cls, d, e, L2H.flyingZ_imp (fun o z => z.zc) f, r⟩
theorem passAtN {X : Cx} {W : WX} (tk : Takes X W) (σ : L2.St) : PassesAt (L2N.CX X.prog X.w) X σ (WE W σ) := fun pins H s e s' I c => passAt tk σ pins H s e s' I (cx_of c)
end
theorem q_rsM {te : TE} {W : WX} {D : Ends} {σ : L2.St} {H : Hp} (h : te σ H fun v H1 => ∃ m, v = .str m ∧ W (.str m 0) none σ H1) : tRsM (tMk te) W D σ H := h
theorem rsM_c {m : Str} {W : WX} {D : Ends} {σ : L2.St} {H : Hp} (h : W (.str m 0) none σ H) : tRsM (tMk (tC (.str m))) W D σ H := ⟨m, rfl, h⟩
theorem ps_rsN {X : Cx} {W : WX} {C : Addr} {x m : Str} {j : Nat} {p p2 pos pos2 : Pos} (calm : X.calm = true) (tk : L2N.Takes X W) (T : ExcAt X.K X.mg x C) (hg : Gl X x := by rfl) (hdb : (x == ("__debug__" : Str)) = false := by decide) :
    PS X (.Raise (some (.Call (.Name x p) [.Constant (.str m) j p2] [] pos)) none pos2) (tRs C W) := L2N.ps_raise calm tk (L2N.pmk_own PySem.F.excBase_ValueError T.q T.gC T.kC (raises_own T.sb T.ty) hg hdb)
end KM

/-! plain law: words, numbers, data as texts -/
namespace M53
open PySem
abbrev T := List Nat
def low (c : Nat) : Bool := decide (97 ≤ c) && decide (c ≤ 122)
def dig (c : Nat) : Bool := decide (48 ≤ c) && decide (c ≤ 57)
def wordc (c : Nat) : Bool := low c || dig c
def headOk (p : Nat → Bool) : T → Bool
  | [] => false
  | c :: _ => p c
def isWord (l : T) : Bool := (decide (1 ≤ l.length) && decide (l.length ≤ 12)) && (headOk low l && l.all wordc)
def wordD : PyData → Bool
  | .str s => isWord s.cps.toList
  | _ => false
def shortD : PyData → Bool
  | .int i => decide (i.natAbs < 10 ^ 4000)
  | _ => false
theorem letters : ("abcdefghijklmnopqrstuvwxyz" : Str).cps.toList = [97,98,99,100,101,102,103,104,105,106,107,108,109,110,111,112,113,114,115,116,117,118,119,120,121,122] := by decide +kernel
theorem digits : ("0123456789" : Str).cps.toList = [48,49,50,51,52,53,54,55,56,57] := by decide +kernel
theorem in_letters (c : Nat) : decide (c ∈ ("abcdefghijklmnopqrstuvwxyz" : Str).cps.toList) = low c := by
  rw [letters]
  unfold low
  rw [← Bool.decide_and, decide_eq_decide]
  simp only [List.mem_cons, List.not_mem_nil, or_false]
  omega
theorem in_digits (c : Nat) : decide (c ∈ ("0123456789" : Str).cps.toList) = dig c := by
  rw [digits]
  unfold dig
  rw [← Bool.decide_and, decide_eq_decide]
  simp only [List.mem_cons, List.not_mem_nil, or_false]
  omega
end M53

namespace M53
open PySem KX L2 TL
/-- the signs of an int -/
def itxt (i : Int) : T := if i < 0 then 45 :: numL i.natAbs else numL i.natAbs
theorem tx_int (i : Int) : Str.ofString (toString i) = tx (itxt i) := by
  refine (tx_of _).symm.trans (congrArg tx ?_)
  unfold itxt
  cases i with
  | ofNat n =>
    rw [if_neg (by simp)]
    exact tl_num n
  | negSucc n =>
    rw [if_pos (Int.negSucc_lt_zero n), PyProof.Rows.signs_ofString]
    show ("-" ++ Nat.repr (n + 1)).toList.map Char.toNat = 45 :: numL (n + 1)
    rw [String.toList_append, List.map_append, Nat.toList_repr]
    rfl
def atomT : PyData → Option T
  | .bool b => some (if b then [43] else [45])
  | .str s => if s.cps.toList = [] then some [46] else if isWord s.cps.toList then some s.cps.toList else none
  | .int i => if i.natAbs < 10 ^ 4000 then some (itxt i) else none
  | _ => none
theorem atom_int (i : Int) : atomT (.int i) = if i.natAbs < 10 ^ 4000 then some (itxt i) else none := rfl
theorem bool_txt (b : Bool) : (if b then "True" else "False" : String) = if b then "True" else "False" := rfl
end M53

namespace M53
open PySem KX L2 TL
/-- texts with commas between them -/
def comma : List T → T
  | [] => []
  | [t] => t
  | t :: u :: ts => t ++ 44 :: comma (u :: ts)
mutual
/-- the text of data; k: how many tuples may stand within one another -/
def wr : Nat → PyData → Option T
  | 0, .tuple _ => none
  | k + 1, .tuple ds => (wrs k ds).map fun ts => 91 :: (comma ts ++ [93])
  | _, .none => atomT .none
  | _, .bool b => atomT (.bool b)
  | _, .int i => atomT (.int i)
  | _, .str s => atomT (.str s)
  | _, .list ds => atomT (.list ds)
  | _, .dict ds => atomT (.dict ds)
def wrs : Nat → List PyData → Option (List T)
  | _, [] => some []
  | k, d :: ds => match wr k d, wrs k ds with
    | some t, some ts => some (t :: ts)
    | _, _ => none
end
theorem wr_atom {k : Nat} {d : PyData} (h : isTupD d = false) : wr k d = atomT d := by
  cases d with
  | tuple ds => cases h
  | _ => cases k <;> (unfold wr; rfl)
theorem wr_zero (ds : List PyData) : wr 0 (.tuple ds) = none := by unfold wr; rfl
theorem wr_succ (k : Nat) (ds : List PyData) : wr (k + 1) (.tuple ds) = (wrs k ds).map fun ts => 91 :: (comma ts ++ [93]) := by rw [wr]
mutual
def sz : PyData → Nat
  | .tuple ds => 2 + szs ds
  | _ => 1
def szs : List PyData → Nat
  | [] => 0
  | d :: ds => 1 + sz d + szs ds
end
mutual
/-- all texts within have a length that may be -/
def strOk : PyData → Bool
  | .str s => decide (s.length ≤ sizeLine)
  | .tuple ds => strOks ds
  | _ => true
def strOks : List PyData → Bool
  | [] => true
  | d :: ds => strOk d && strOks ds
end
inductive Itm where
  | lit (t : T) | dat (d : PyData) (k : Nat)
def W : List Itm → Option T
  | [] => some []
  | .lit t :: r => (W r).map (t ++ ·)
  | .dat d k :: r => match wr k d, W r with
    | some t, some u => some (t ++ u)
    | _, _ => none
def expd (k : Nat) : List PyData → List Itm
  | [] => []
  | [d] => [.dat d k]
  | d :: e :: ds => .dat d k :: .lit [44] :: expd k (e :: ds)
def msum : List Itm → Nat
  | [] => 0
  | .lit _ :: r => 1 + msum r
  | .dat d _ :: r => sz d + msum r
theorem msum_app : ∀ a b : List Itm, msum (a ++ b) = msum a + msum b
  | [], b => by simp [msum]
  | .lit t :: r, b => by simp only [List.cons_append, msum, msum_app r b]; omega
  | .dat d k :: r, b => by simp only [List.cons_append, msum, msum_app r b]; omega
theorem sz_pos (d : PyData) : 1 ≤ sz d := by cases d <;> (unfold sz; omega)
theorem W_lit (t : T) (r : List Itm) : W (.lit t :: r) = (W r).map (t ++ ·) := rfl
theorem W_dat (d : PyData) (k : Nat) (r : List Itm) : W (.dat d k :: r) = (wr k d).bind fun t => (W r).map (t ++ ·) := by
  show (match wr k d, W r with | some t, some u => some (t ++ u) | _, _ => none) = _
  cases wr k d <;> cases W r <;> rfl
theorem wrs_cons (k : Nat) (d : PyData) (ds : List PyData) : wrs k (d :: ds) = (wr k d).bind fun t => (wrs k ds).map (t :: ·) := by
  rw [wrs]
  cases wr k d <;> cases wrs k ds <;> rfl
theorem wrs_nil (k : Nat) : wrs k [] = some [] := by rw [wrs]
theorem W_expd (k : Nat) : ∀ (ds : List PyData) (r : List Itm), W (expd k ds ++ r) = (wrs k ds).bind fun ts => (W r).map (comma ts ++ ·)
  | [], r => by
    rw [wrs_nil]
    show W r = (W r).map ([] ++ ·)
    simp
  | [d], r => by
    show W (.dat d k :: r) = _
    rw [W_dat, wrs_cons, wrs_nil]
    cases wr k d <;> rfl
  | d :: e :: ds, r => by
    have ih := W_expd k (e :: ds) r
    show W (.dat d k :: .lit [44] :: (expd k (e :: ds) ++ r)) = _
    rw [W_dat, W_lit, ih, wrs_cons k d]
    cases h : wr k d with
    | none => rfl
    | some t =>
      cases h2 : wrs k (e :: ds) with
      | none => rfl
      | some ts =>
        have hne : ∃ u us, ts = u :: us := by
          rw [wrs_cons] at h2
          cases h3 : wr k e with
          | none => rw [h3] at h2; cases h2
          | some u =>
            cases h4 : wrs k ds with
            | none => rw [h3, h4] at h2; cases h2
            | some us => rw [h3, h4] at h2; cases h2; exact ⟨u, us, rfl⟩
        obtain ⟨u, us, rfl⟩ := hne
        cases W r with
        | none => rfl
        | some x =>
          show some (t ++ ([44] ++ (comma (u :: us) ++ x))) = some (comma (t :: u :: us) ++ x)
          show _ = some ((t ++ 44 :: comma (u :: us)) ++ x)
          simp
theorem W_tuple (k : Nat) (ds : List PyData) (r : List Itm) : W (.dat (.tuple ds) (k + 1) :: r) = (W (expd k ds ++ .lit [93] :: r)).map (91 :: ·) := by
  rw [W_dat, wr_succ, W_expd, W_lit]
  cases wrs k ds with
  | none => rfl
  | some ts =>
    cases W r with
    | none => rfl
    | some x =>
      show some (91 :: (comma ts ++ [93]) ++ x) = some (91 :: (comma ts ++ ([93] ++ x)))
      simp
theorem msum_expd (k : Nat) : ∀ ds : List PyData, msum (expd k ds) + (if ds = [] then 0 else 1) = szs ds
  | [] => by simp [expd, msum, szs]
  | [d] => by simp [expd, msum, szs]; omega
  | d :: e :: ds => by
    have ih := msum_expd k (e :: ds)
    rw [if_neg (by simp)] at ih ⊢
    rw [szs]
    simp only [expd, msum]
    omega
theorem expd_drop (k : Nat) (ds : List PyData) (i : Nat) (d : PyData) (h : ds[i]? = some d) :
    expd k (ds.drop i) = .dat d k :: (if i + 1 < ds.length then .lit [44] :: expd k (ds.drop (i + 1)) else []) := by
  obtain ⟨hi, e⟩ := List.getElem?_eq_some_iff.mp h
  have e1 : ds.drop i = d :: ds.drop (i + 1) := by rw [List.drop_eq_getElem_cons hi, e]
  rw [e1]
  by_cases h2 : i + 1 < ds.length
  · rw [if_pos h2]
    have e2 : ds.drop (i + 1) = ds[i + 1] :: ds.drop (i + 1 + 1) := List.drop_eq_getElem_cons h2
    rw [e2]
    rfl
  · rw [if_neg h2]
    have e2 : ds.drop (i + 1) = [] := List.drop_eq_nil_of_le (by omega)
    rw [e2]
    rfl
/-- what has been laid of a tuple's items, from the last one on, after j turns -/
def preL (k : Nat) (ds : List PyData) (j : Nat) : List Itm := (if 0 < ds.length - j ∧ 0 < j then [.lit [44]] else []) ++ expd k (ds.drop (ds.length - j))
theorem preL_zero (k : Nat) (ds : List PyData) : preL k ds 0 = [] := by
  unfold preL
  rw [if_neg (by omega), Nat.sub_zero, List.drop_length]
  rfl
theorem preL_all (k : Nat) (ds : List PyData) : preL k ds ds.length = expd k ds := by
  unfold preL
  rw [if_neg (by omega), Nat.sub_self, List.drop_zero]
  rfl
theorem preL_step (k : Nat) (ds : List PyData) (j : Nat) (d : PyData) (hj : j < ds.length) (h : ds[ds.length - 1 - j]? = some d) :
    preL k ds (j + 1) = (if 0 < ds.length - 1 - j then [.lit [44]] else []) ++ .dat d k :: preL k ds j := by
  have e := expd_drop k ds _ d h
  have e1 : ds.length - (j + 1) = ds.length - 1 - j := by omega
  have e2 : ds.length - 1 - j + 1 = ds.length - j := by omega
  unfold preL
  rw [e1, e, e2]
  congr 1
  · by_cases h0 : 0 < ds.length - 1 - j
    · rw [if_pos h0, if_pos ⟨h0, by omega⟩]
    · rw [if_neg h0, if_neg (by omega)]
  · congr 1
    by_cases h0 : 0 < j
    · rw [if_pos (show ds.length - j < ds.length by omega), if_pos ⟨by omega, h0⟩]
      rfl
    · rw [if_neg (show ¬ ds.length - j < ds.length by omega), if_neg (by omega)]
      have : j = 0 := by omega
      subst this
      rw [Nat.sub_zero, List.drop_length]
      rfl
theorem msum_rev (l : List Itm) : msum l.reverse = msum l := by
  induction l with
  | nil => rfl
  | cons i r ih =>
    rw [List.reverse_cons, msum_app, ih]
    cases i <;> simp only [msum] <;> omega
theorem szs_len : ∀ ds : List PyData, ds.length ≤ szs ds
  | [] => Nat.le_refl _
  | d :: ds => by have := szs_len ds; simp only [List.length_cons, szs]; omega
theorem szs_drop : ∀ (ds : List PyData) (i : Nat), szs (ds.drop i) ≤ szs ds
  | [], i => by simp
  | d :: ds, 0 => Nat.le_refl _
  | d :: ds, i + 1 => by have := szs_drop ds i; simp only [List.drop_succ_cons, szs]; omega
theorem preL_msum (k : Nat) (ds : List PyData) (j : Nat) (hj : j ≤ ds.length) : msum (preL k ds j) ≤ szs ds := by
  unfold preL
  rw [msum_app]
  have h1 := msum_expd k (ds.drop (ds.length - j))
  have h2 := szs_drop ds (ds.length - j)
  by_cases h : 0 < ds.length - j ∧ 0 < j
  · rw [if_pos h]
    have hne : ds.drop (ds.length - j) ≠ [] := by
      intro e
      have := congrArg List.length e
      rw [List.length_drop] at this
      simp at this
      omega
    rw [if_neg hne] at h1
    simp only [msum]
    omega
  · rw [if_neg h]
    simp only [msum]
    split at h1 <;> omega
theorem strOks_get : ∀ {ds : List PyData} {i : Nat} {d : PyData}, strOks ds = true → ds[i]? = some d → strOk d = true
  | [], i, d, _, h => by simp at h
  | e :: ds, 0, d, hs, h => by
    simp at h
    subst h
    simp only [strOks, Bool.and_eq_true] at hs
    exact hs.1
  | e :: ds, i + 1, d, hs, h => by
    simp only [strOks, Bool.and_eq_true] at hs
    exact strOks_get hs.2 (by simpa using h)
theorem strOk_tup {ds : List PyData} (h : strOk (.tuple ds) = true) : strOks ds = true := by simpa [strOk] using h
theorem strOk_str {s : Str} (h : strOk (.str s) = true) : s.length ≤ sizeLine := by simpa [strOk] using h
theorem join_none (fs : List T) : Txt.join (tx []) (fs.map tx) = tx fs.flatten := by
  refine (tx_of _).symm.trans (congrArg tx ?_)
  rw [join_eq]
  have e := tl_join (tx []) (fs.map tx)
  have e0 : tl (tx []) = [] := rfl
  rw [e0] at e
  refine Eq.trans e ?_
  have g : ∀ l : List (List Nat), joinL [] l = l.flatten := by
    intro l
    induction l with
    | nil => rfl
    | cons x r ih =>
      cases r with
      | nil => simp [joinL]
      | cons y r =>
        show x ++ ([] ++ joinL [] (y :: r)) = _
        rw [ih]
        simp
  rw [g]
  congr 1
  rw [List.map_map]
  refine Eq.trans (List.map_congr_left fun x _ => ?_) (List.map_id fs)
  exact tx_list x
end M53

namespace M53
open PySem KX L2 TL NumText
/-! reading back -/
def body (l : T) : T := if l.take 1 = [45] then l.drop 1 else l
def okNum (l : T) : Bool := ((decide (1 ≤ (body l).length) && decide ((body l).length ≤ 4000)) && (body l).all dig) && !(decide ((body l).take 1 = [48]) && !decide (l = [48]))
def numVal (l : T) : Int := if l.take 1 = [45] then -((digitsVal (body l) : Nat) : Int) else ((digitsVal (body l) : Nat) : Int)
def rdAtom (l : T) : Option PyData :=
  if l = [43] then some (.bool true) else if l = [45] then some (.bool false) else if l = [46] then some (.str (tx [])) else if isWord l = true then some (.str (tx l)) else if okNum l = true then some (.int (numVal l)) else none
theorem all_dig {l : T} (h : l.all dig = true) : AllDigits l := fun c hc => by
  have := List.all_eq_true.mp h c hc
  unfold dig at this
  simpa using this
theorem int_num' {l : T} (h : okNum l = true) : intText? (tx l) = some (numVal l) := by
  unfold okNum at h
  simp only [Bool.and_eq_true, decide_eq_true_eq] at h
  obtain ⟨⟨⟨h1, h2⟩, h3⟩, _⟩ := h
  have hd := all_dig h3
  have hne : body l ≠ [] := fun e => by rw [e] at h1; simp at h1
  unfold numVal
  by_cases hs : l.take 1 = [45]
  · rw [if_pos hs]
    have eb : body l = l.drop 1 := if_pos hs
    have el : l = 45 :: body l := by
      have := List.take_append_drop 1 l
      rw [hs] at this
      rw [eb]
      exact this.symm
    have hlen : l.length ≤ 4300 := by
      rw [el]
      simp only [List.length_cons]
      omega
    exact intText_neg (by rw [tx_list]; exact el) hd hne (by rw [tx_len]; exact hlen)
  · rw [if_neg hs]
    have eb : body l = l := if_neg hs
    rw [eb] at h2 hd hne ⊢
    have := intText_digits (x := tx l) (by rw [tx_list]; exact hd) (by rw [tx_list]; exact hne) (by rw [tx_len]; omega)
    rw [tx_list] at this
    exact this
theorem okNum_len {l : T} (h : okNum l = true) : l.length ≤ 4001 := by
  unfold okNum at h
  simp only [Bool.and_eq_true, decide_eq_true_eq] at h
  obtain ⟨⟨⟨h1, h2⟩, h3⟩, _⟩ := h
  unfold body at h2
  split at h2
  · rw [List.length_drop] at h2
    omega
  · omega
theorem body_le (l : T) : (body l).length ≤ l.length := by
  unfold body
  split
  · rw [List.length_drop]; omega
  · exact Nat.le_refl _
end M53

namespace M53
open PySem KX L2 TL NumText
def sep (c : Nat) : Bool := decide (c = 91) || (decide (c = 93) || decide (c = 44))
theorem in_sep (c : Nat) : decide (c ∈ (tx [91, 93, 44]).cps.toList) = sep c := by
  rw [tx_list]
  unfold sep
  rw [← Bool.decide_or, ← Bool.decide_or, decide_eq_decide]
  simp only [List.mem_cons, List.not_mem_nil, or_false]
/-- a token that may be empty -/
def tok (cur : T) : List T := if cur = [] then [] else [cur]
/-- the brackets, commas and longest other pieces; cur: the piece that has begun -/
def pcs : T → T → List T
  | cur, [] => tok cur
  | cur, c :: r => if sep c = true then tok cur ++ [c] :: pcs [] r else pcs (cur ++ [c]) r
theorem pcs_sep {cur r : T} {c : Nat} (h : sep c = true) : pcs cur (c :: r) = tok cur ++ [c] :: pcs [] r := by
  rw [pcs, if_pos h]
theorem pcs_no {cur r : T} {c : Nat} (h : sep c = false) : pcs cur (c :: r) = pcs (cur ++ [c]) r := by
  rw [pcs, if_neg (by rw [h]; exact Bool.false_ne_true)]
theorem pcs_len : ∀ (l cur : T), (pcs cur l).length ≤ 2 * l.length + 1
  | [], cur => by
    unfold pcs tok
    split <;> simp
  | c :: r, cur => by
    unfold pcs
    have h1 := pcs_len r []
    have h2 := pcs_len r (cur ++ [c])
    split
    · have : (tok cur).length ≤ 1 := by
        unfold tok
        split <;> simp
      simp only [List.length_append, List.length_cons]
      omega
    · simp only [List.length_cons]
      omega
theorem pcs_each : ∀ (l cur : T) (n : Nat), cur.length + l.length ≤ n → ∀ t ∈ pcs cur l, t.length ≤ n
  | [], cur, n, h, t, ht => by
    unfold pcs tok at ht
    split at ht
    · cases ht
    · rw [List.mem_singleton] at ht
      subst ht
      simpa using h
  | c :: r, cur, n, h, t, ht => by
    simp only [List.length_cons] at h
    unfold pcs at ht
    split at ht
    · rcases List.mem_append.mp ht with h1 | h1
      · unfold tok at h1
        split at h1
        · cases h1
        · rw [List.mem_singleton] at h1
          subst h1
          omega
      · rcases List.mem_cons.mp h1 with h2 | h2
        · subst h2
          simp only [List.length_cons, List.length_nil]
          omega
        · exact pcs_each r [] n (by simp only [List.length_nil]; omega) t h2
    · exact pcs_each r (cur ++ [c]) n (by simp only [List.length_append, List.length_cons, List.length_nil]; omega) t ht
end M53

namespace M53
open PySem KX L2 TL NumText
/-! the reader's machine -/
structure RS where
  stack : List (List PyData)
  ready : Bool
  told : List PyData
def itemS (S : RS) (d : PyData) : Option RS :=
  if S.ready = false then none else
  match S.stack.getLast? with
  | none => some ⟨[], false, S.told ++ [d]⟩
  | some x => some ⟨S.stack.dropLast ++ [x ++ [d]], false, S.told⟩
def openS (S : RS) : Option RS := if S.ready = false ∨ 1000 ≤ S.stack.length then none else some ⟨S.stack ++ [[]], S.ready, S.told⟩
def closeS (S : RS) : Option RS :=
  match S.stack.getLast? with
  | none => none
  | some x => if S.ready = true ∧ x ≠ [] then none else itemS ⟨S.stack.dropLast, true, S.told⟩ (.tuple x)
def commaS (S : RS) : Option RS := if S.ready = true ∨ S.stack = [] then none else some ⟨S.stack, true, S.told⟩
def takeS (S : RS) (p : T) : Option RS :=
  if p = [91] then openS S else if p = [93] then closeS S else if p = [44] then commaS S else
  match rdAtom p with
  | none => none
  | some d => itemS S d
def runS : RS → List T → Option RS
  | S, [] => some S
  | S, p :: ps => match takeS S p with
    | none => none
    | some S' => runS S' ps
def rd (l : T) : Option PyData :=
  match runS ⟨[], true, []⟩ (pcs [] l) with
  | none => none
  | some S => if S.stack ≠ [] ∨ S.told.length ≠ 1 then none else S.told.head?
theorem item_no (st : List (List PyData)) (told : List PyData) (d : PyData) : itemS ⟨st, false, told⟩ d = none := rfl
theorem item_nil (told : List PyData) (d : PyData) : itemS ⟨[], true, told⟩ d = some ⟨[], false, told ++ [d]⟩ := rfl
theorem item_app (st0 : List (List PyData)) (x told : List PyData) (d : PyData) : itemS ⟨st0 ++ [x], true, told⟩ d = some ⟨st0 ++ [x ++ [d]], false, told⟩ := by
  unfold itemS
  simp
theorem close_nil (b : Bool) (told : List PyData) : closeS ⟨[], b, told⟩ = none := rfl
theorem close_app (st0 : List (List PyData)) (x told : List PyData) (b : Bool) : closeS ⟨st0 ++ [x], b, told⟩ = if b = true ∧ x ≠ [] then none else itemS ⟨st0, true, told⟩ (.tuple x) := by
  unfold closeS
  simp
/-- how much is held -/
def wt (S : RS) : Nat := (S.stack.map fun x => x.length + 1).sum + S.told.length
def flatRS (S : RS) : Bool := S.stack.all flatDs && flatDs S.told
theorem flatDs_app (a b : List PyData) : flatDs (a ++ b) = (flatDs a && flatDs b) := by
  induction a with
  | nil => simp [flatDs]
  | cons x r ih => simp only [List.cons_append, flatDs, ih, Bool.and_assoc]
theorem last_split {α : Type} {l : List α} {x : α} (h : l.getLast? = some x) : l = l.dropLast ++ [x] := by
  obtain ⟨ys, e⟩ := List.getLast?_eq_some_iff.mp h
  rw [e, List.dropLast_concat]
theorem item_wt {S S' : RS} {d : PyData} (h : itemS S d = some S') : wt S' ≤ wt S + 1 := by
  unfold itemS at h
  split at h
  · cases h
  · split at h
    · cases h
      unfold wt
      simp only [List.map_nil, List.sum_nil, List.length_append, List.length_cons, List.length_nil]
      omega
    · rename_i x e
      cases h
      have e2 := last_split e
      unfold wt
      rw [e2]
      simp only [List.dropLast_concat, List.map_append, List.map_cons, List.map_nil, List.sum_append, List.sum_cons, List.sum_nil, List.length_append, List.length_cons, List.length_nil]
      omega
theorem item_flat {S S' : RS} {d : PyData} (h : itemS S d = some S') (hf : flatRS S = true) (hd : flatD d = true) : flatRS S' = true := by
  unfold flatRS at hf ⊢
  rw [Bool.and_eq_true] at hf
  unfold itemS at h
  split at h
  · cases h
  · split at h
    · cases h
      rw [flatDs_app]
      simp only [List.all_nil, flatDs, hf.2, hd, Bool.and_self]
    · rename_i x e
      cases h
      have e2 := last_split e
      rw [e2, List.all_append] at hf
      have h1 := hf.1
      simp only [List.all_cons, List.all_nil, Bool.and_eq_true, Bool.and_true] at h1
      rw [List.all_append]
      simp only [List.all_cons, List.all_nil, flatDs_app, flatDs, h1.1, h1.2, hd, hf.2, Bool.and_self]
theorem open_wt {S S' : RS} (h : openS S = some S') : wt S' ≤ wt S + 1 := by
  unfold openS at h
  split at h
  · cases h
  · cases h
    unfold wt
    simp only [List.map_append, List.map_cons, List.map_nil, List.sum_append, List.sum_cons, List.sum_nil, List.length_nil]
    omega
theorem open_flat {S S' : RS} (h : openS S = some S') (hf : flatRS S = true) : flatRS S' = true := by
  unfold openS at h
  split at h
  · cases h
  · cases h
    unfold flatRS at hf ⊢
    simp only [List.all_append, List.all_cons, List.all_nil, flatDs, Bool.and_true] at hf ⊢
    exact hf
theorem close_wt {S S' : RS} (h : closeS S = some S') : wt S' ≤ wt S + 1 := by
  unfold closeS at h
  split at h
  · cases h
  · rename_i x e
    split at h
    · cases h
    · have h1 := item_wt h
      have e2 := last_split e
      refine Nat.le_trans h1 ?_
      unfold wt
      rw [e2]
      simp only [List.dropLast_concat, List.map_append, List.map_cons, List.map_nil, List.sum_append, List.sum_cons, List.sum_nil]
      omega
theorem close_flat {S S' : RS} (h : closeS S = some S') (hf : flatRS S = true) : flatRS S' = true := by
  unfold closeS at h
  split at h
  · cases h
  · rename_i x e
    split at h
    · cases h
    · have e2 := last_split e
      unfold flatRS at hf
      rw [Bool.and_eq_true, e2, List.all_append] at hf
      have h1 := hf.1
      simp only [List.all_cons, List.all_nil, Bool.and_eq_true, Bool.and_true] at h1
      refine item_flat h ?_ (by simpa only [flatD] using h1.2)
      unfold flatRS
      show (S.stack.dropLast.all flatDs && flatDs S.told) = true
      rw [h1.1, hf.2, Bool.and_self]
theorem comma_wt {S S' : RS} (h : commaS S = some S') : wt S' ≤ wt S + 1 := by
  unfold commaS at h
  split at h
  · cases h
  · cases h
    show (S.stack.map fun x => x.length + 1).sum + S.told.length ≤ (S.stack.map fun x => x.length + 1).sum + S.told.length + 1
    omega
theorem comma_flat {S S' : RS} (h : commaS S = some S') (hf : flatRS S = true) : flatRS S' = true := by
  unfold commaS at h
  split at h
  · cases h
  · cases h
    exact hf
theorem rdAtom_flat {l : T} {d : PyData} (h : rdAtom l = some d) : flatD d = true ∧ isTupD d = false := by
  unfold rdAtom at h
  repeat' split at h
  all_goals (first | (cases h; exact ⟨rfl, rfl⟩) | cases h)
theorem take_wt {S S' : RS} {p : T} (h : takeS S p = some S') : wt S' ≤ wt S + 1 := by
  unfold takeS at h
  split at h
  · exact open_wt h
  · split at h
    · exact close_wt h
    · split at h
      · exact comma_wt h
      · split at h
        · cases h
        · exact item_wt h
theorem take_flat {S S' : RS} {p : T} (h : takeS S p = some S') (hf : flatRS S = true) : flatRS S' = true := by
  unfold takeS at h
  split at h
  · exact open_flat h hf
  · split at h
    · exact close_flat h hf
    · split at h
      · exact comma_flat h hf
      · split at h
        · cases h
        · rename_i d e
          exact item_flat h hf (rdAtom_flat e).1
end M53

namespace M53
open PySem KX L2 TL NumText
/-! what a written text tells of its data -/
theorem join_comma (fs : List T) : Txt.join (tx [44]) (fs.map tx) = tx (comma fs) := by
  refine (tx_of _).symm.trans (congrArg tx ?_)
  rw [join_eq]
  have e := tl_join (tx [44]) (fs.map tx)
  have e0 : tl (tx [44]) = [44] := rfl
  rw [e0] at e
  refine Eq.trans e ?_
  have e1 : (fs.map tx).map tl = fs := by
    rw [List.map_map]
    exact (List.map_congr_left fun x _ => tx_list x).trans (List.map_id fs)
  rw [e1]
  clear e e0 e1
  induction fs with
  | nil => rfl
  | cons x r ih =>
    cases r with
    | nil => rfl
    | cons y r =>
      show x ++ ([44] ++ joinL [44] (y :: r)) = x ++ 44 :: comma (y :: r)
      rw [ih]
      rfl
theorem comma_len : ∀ ts : List T, (comma ts).length + (if ts = [] then 0 else 1) = (ts.map List.length).sum + ts.length
  | [] => rfl
  | [t] => by simp [comma]
  | t :: u :: ts => by
    have ih := comma_len (u :: ts)
    rw [if_neg (by simp)] at ih ⊢
    simp only [comma, List.length_append, List.length_cons, List.map_cons, List.sum_cons] at ih ⊢
    omega
theorem wr_tup {k : Nat} {ds : List PyData} {t : T} (h : wr k (.tuple ds) = some t) : ∃ k' ts, k = k' + 1 ∧ wrs k' ds = some ts ∧ t = 91 :: (comma ts ++ [93]) := by
  cases k with
  | zero => rw [wr_zero] at h; cases h
  | succ k =>
    rw [wr_succ, Option.map_eq_some_iff] at h
    obtain ⟨ts, h1, h2⟩ := h
    exact ⟨k, ts, rfl, h1, h2.symm⟩
theorem wrs_len : ∀ {k : Nat} {ds : List PyData} {ts : List T}, wrs k ds = some ts → ts.length = ds.length
  | k, [], ts, h => by
    rw [wrs_nil] at h
    cases h
    rfl
  | k, d :: ds, ts, h => by
    rw [wrs_cons] at h
    cases h1 : wr k d with
    | none => rw [h1] at h; cases h
    | some t =>
      cases h2 : wrs k ds with
      | none => rw [h1, h2] at h; cases h
      | some us =>
        rw [h1, h2] at h
        cases h
        simp only [List.length_cons, wrs_len h2]
theorem wrs_get : ∀ {k : Nat} {ds : List PyData} {ts : List T}, wrs k ds = some ts → ∀ (i : Nat) (d : PyData), ds[i]? = some d → ∃ t, ts[i]? = some t ∧ wr k d = some t
  | k, [], ts, h, i, d, e => by simp at e
  | k, d :: ds, ts, h, i, x, e => by
    rw [wrs_cons] at h
    cases h1 : wr k d with
    | none => rw [h1] at h; cases h
    | some t =>
      cases h2 : wrs k ds with
      | none => rw [h1, h2] at h; cases h
      | some us =>
        rw [h1, h2] at h
        cases h
        cases i with
        | zero => simp at e; subst e; exact ⟨t, rfl, h1⟩
        | succ i => exact wrs_get h2 i x (by simpa using e)
theorem sum_get {ts : List T} {t : T} (h : t ∈ ts) : t.length ≤ (ts.map List.length).sum := by
  induction ts with
  | nil => cases h
  | cons x r ih =>
    simp only [List.map_cons, List.sum_cons]
    rcases List.mem_cons.mp h with h | h
    · subst h; omega
    · have := ih h; omega
theorem numL_small {n : Nat} : ∀ c ∈ numL n, c < 128 := fun c hc => by
  have := numL_digits n c hc
  omega
theorem itxt_small {i : Int} : ∀ c ∈ itxt i, c < 128 := fun c hc => by
  unfold itxt at hc
  split at hc
  · rcases List.mem_cons.mp hc with h | h
    · omega
    · exact numL_small c h
  · exact numL_small c hc
theorem isWord_signs {l : T} (h : isWord l = true) : ∀ c ∈ l, wordc c = true := by
  unfold isWord at h
  simp only [Bool.and_eq_true] at h
  exact List.all_eq_true.mp h.2.2
theorem wordc_small {c : Nat} (h : wordc c = true) : c < 128 := by
  unfold wordc low dig at h
  simp only [Bool.or_eq_true, Bool.and_eq_true, decide_eq_true_eq] at h
  omega
theorem atom_str (s : Str) : atomT (.str s) = if s.cps.toList = [] then some [46] else if isWord s.cps.toList then some s.cps.toList else none := rfl
theorem atomT_small {d : PyData} {t : T} (h : atomT d = some t) : ∀ c ∈ t, c < 128 := by
  intro c hc
  cases d with
  | bool b =>
    cases b <;> (cases h; simp at hc; omega)
  | int i =>
    rw [atom_int] at h
    split at h
    · cases h
      exact itxt_small c hc
    · cases h
  | str s =>
    rw [atom_str] at h
    split at h
    · cases h
      rw [List.mem_singleton] at hc
      omega
    · split at h
      · rename_i hw
        cases h
        exact wordc_small (isWord_signs hw c hc)
      · cases h
  | none => cases h
  | list _ => cases h
  | tuple _ => cases h
  | dict _ => cases h
theorem comma_mem {c : Nat} : ∀ {ts : List T}, c ∈ comma ts → c = 44 ∨ ∃ t ∈ ts, c ∈ t
  | [], h => by cases h
  | [t], h => .inr ⟨t, by simp, h⟩
  | t :: u :: ts, h => by
    simp only [comma, List.mem_append, List.mem_cons] at h
    rcases h with h | h | h
    · exact .inr ⟨t, by simp, h⟩
    · exact .inl h
    · rcases comma_mem h with h | ⟨x, h1, h2⟩
      · exact .inl h
      · exact .inr ⟨x, by simp [List.mem_cons.mp h1], h2⟩
mutual
theorem wr_small : ∀ (d : PyData) {k : Nat} {t : T}, wr k d = some t → ∀ c ∈ t, c < 128
  | .tuple ds, k, t, h, c, hc => by
    obtain ⟨k', ts, rfl, h1, rfl⟩ := wr_tup h
    rcases List.mem_cons.mp hc with h | h
    · omega
    · rcases List.mem_append.mp h with h | h
      · rcases comma_mem h with h | ⟨t, h2, h3⟩
        · omega
        · exact wrs_small ds h1 t h2 c h3
      · rw [List.mem_singleton] at h
        omega
  | .none, k, t, h, c, hc => by rw [wr_atom rfl] at h; exact atomT_small h c hc
  | .bool _, k, t, h, c, hc => by rw [wr_atom rfl] at h; exact atomT_small h c hc
  | .int _, k, t, h, c, hc => by rw [wr_atom rfl] at h; exact atomT_small h c hc
  | .str _, k, t, h, c, hc => by rw [wr_atom rfl] at h; exact atomT_small h c hc
  | .list _, k, t, h, c, hc => by rw [wr_atom rfl] at h; exact atomT_small h c hc
  | .dict _, k, t, h, c, hc => by rw [wr_atom rfl] at h; exact atomT_small h c hc
theorem wrs_small : ∀ (ds : List PyData) {k : Nat} {ts : List T}, wrs k ds = some ts → ∀ t ∈ ts, ∀ c ∈ t, c < 128
  | [], k, ts, h, t, ht, c, hc => by
    rw [wrs_nil] at h
    cases h
    cases ht
  | d :: ds, k, ts, h, t, ht, c, hc => by
    rw [wrs_cons] at h
    cases h1 : wr k d with
    | none => rw [h1] at h; cases h
    | some u =>
      cases h2 : wrs k ds with
      | none => rw [h1, h2] at h; cases h
      | some us =>
        rw [h1, h2] at h
        cases h
        rcases List.mem_cons.mp ht with h | h
        · subst h; exact wr_small d h1 c hc
        · exact wrs_small ds h2 t h c hc
end
theorem wrs_flat {k : Nat} : ∀ {ds : List PyData} {ts : List T}, wrs k ds = some ts → ∀ d ∈ ds, ∃ t ∈ ts, wr k d = some t := fun {ds ts} h d hd => by
  obtain ⟨i, hi⟩ := List.mem_iff_getElem?.mp hd
  obtain ⟨t, h1, h2⟩ := wrs_get h i d hi
  exact ⟨t, List.mem_of_getElem? h1, h2⟩
end M53

namespace M53
open PySem KX L2 TL NumText
/-! the law's reader as a machine over signs -/
structure LS where
  rows : List (List PyData)
  done : List PyData
  tok : T
  ahead : Bool
def sep4 (c : Nat) : Bool := sep c || decide (c = 59)
def flush (S : LS) : Option LS :=
  if S.tok = [] then some S else
  match rdAtom S.tok with
  | none => none
  | some a => if S.ahead = false then none else some ⟨S.rows, [a], [], false⟩
/-- what waits to be put: the last that was read -/
def held (S : LS) : PyData := S.done.headD .none
def act (c : Nat) (S : LS) : Option LS :=
  if c = 91 then (if S.ahead = false then none else some ⟨S.rows ++ [[]], S.done, S.tok, S.ahead⟩)
  else if c = 44 then
    match S.rows.getLast? with
    | none => none
    | some x => if S.ahead = true then none else some ⟨S.rows.dropLast ++ [x ++ [held S]], S.done, S.tok, true⟩
  else if c = 93 then
    match S.rows.getLast? with
    | none => none
    | some x => if S.ahead = true ∧ x ≠ [] then none else some ⟨S.rows.dropLast, [.tuple (x ++ if S.ahead = true then [] else [held S])], S.tok, false⟩
  else some S
def stepL (c : Nat) (S : LS) : Option LS := if sep4 c = true then (flush S).bind (act c) else some ⟨S.rows, S.done, S.tok ++ [c], S.ahead⟩
def runL : LS → T → Option LS
  | S, [] => some S
  | S, c :: r => (stepL c S).bind fun S' => runL S' r
def lr (l : T) : Option (List PyData) := (runL ⟨[], [], [], true⟩ (l ++ [59])).bind fun S => if S.rows = [] ∧ S.ahead = false ∧ 59 ∉ l then some S.done else none
theorem runL_app : ∀ (a b : T) (S : LS), runL S (a ++ b) = (runL S a).bind fun S' => runL S' b
  | [], b, S => rfl
  | c :: r, b, S => by
    show (stepL c S).bind (fun S' => runL S' (r ++ b)) = ((stepL c S).bind fun S' => runL S' r).bind _
    cases stepL c S with
    | none => rfl
    | some S' => exact runL_app r b S'
/-- what may stand in a state -/
def okDs (ds : List PyData) : Prop := ∀ d ∈ ds, flatD d = true ∧ d.canLay0 = true
def OkS (S : LS) : Prop := (∀ x ∈ S.rows, okDs x) ∧ okDs S.done ∧ (S.ahead = false → ∃ d, S.done = [d])
theorem in_sep4 (c : Nat) : decide (c ∈ (tx [91, 93, 44, 59]).cps.toList) = sep4 c := by
  rw [tx_list]
  unfold sep4 sep
  rw [← Bool.decide_or, ← Bool.decide_or, ← Bool.decide_or, decide_eq_decide]
  simp only [List.mem_cons, List.not_mem_nil, or_false]
  omega
def iniL : LS := ⟨[], [], [], true⟩
theorem lr_none {l : T} {i c : Nat} {S : LS} (h : runL iniL ((l ++ [59]).take i) = some S) (hc : (l ++ [59])[i]? = some c) (hs : stepL c S = none) : lr l = none := by
  have e : l ++ [59] = (l ++ [59]).take i ++ c :: (l ++ [59]).drop (i + 1) := by
    obtain ⟨hi, e2⟩ := List.getElem?_eq_some_iff.mp hc
    have := List.drop_eq_getElem_cons hi
    rw [e2] at this
    rw [← this, List.take_append_drop]
  unfold lr
  rw [e, runL_app]
  have h' : runL ⟨[], [], [], true⟩ ((l ++ [59]).take i) = some S := h
  rw [h']
  show Option.bind (Option.bind (stepL c S) _) _ = none
  rw [hs]
  rfl
theorem runL_snoc {l : T} {i c : Nat} {S S' : LS} (h : runL iniL ((l ++ [59]).take i) = some S) (hc : (l ++ [59])[i]? = some c) (hs : stepL c S = some S') : runL iniL ((l ++ [59]).take (i + 1)) = some S' := by
  rw [List.take_add_one, hc, runL_app, h]
  show Option.bind (stepL c S) _ = _
  rw [hs]
  rfl
/-- how much a state holds -/
def wtL (S : LS) : Nat := (S.rows.map fun x => x.length + 1).sum
/-- the sign-free end of what was read -/
def TokOk (u : T) (S : LS) : Prop := ∃ a, u = a ++ S.tok ∧ ∀ x ∈ S.tok, sep4 x = false
/-- no piece without a separator is longer than n -/
def Runs (n : Nat) (l : T) : Prop := ∀ a b c, l = a ++ b ++ c → (∀ x ∈ b, sep x = false) → b.length ≤ n
theorem tok_le {l : T} {n i : Nat} {S : LS} (hr : Runs n l) (hi : i ≤ l.length) (h : TokOk ((l ++ [59]).take i) S) : S.tok.length ≤ n := by
  obtain ⟨a, e, h2⟩ := h
  rw [List.take_append_of_le_length hi] at e
  refine hr a S.tok (l.drop i) ?_ fun x hx => ?_
  · rw [← e, List.take_append_drop]
  · have := h2 x hx
    unfold sep4 at this
    rw [Bool.or_eq_false_iff] at this
    exact this.1
end M53

namespace M53
open PySem KX L2 TL NumText
/-! atoms, there and back -/
theorem ofNat_toNat {c : Nat} (h : 48 ≤ c ∧ c ≤ 57) : (Char.ofNat c).toNat = c := by
  have : ∀ d : Nat, d < 10 → (Char.ofNat (48 + d)).toNat = 48 + d := by decide
  have e := this (c - 48) (by omega)
  rwa [show 48 + (c - 48) = c by omega] at e
theorem numL_back {l : T} (h : AllDigits l) (hne : l ≠ []) (h0 : l.take 1 ≠ [48] ∨ l = [48]) : numL (digitsVal l) = l := by
  rcases h0 with h0 | rfl
  · obtain ⟨c, r, rfl⟩ : ∃ c r, l = c :: r := by
      cases l with
      | nil => exact absurd rfl hne
      | cons c r => exact ⟨c, r, rfl⟩
    have hc : 48 ≤ c ∧ c ≤ 57 := h c (by simp)
    have h49 : 49 ≤ c := by
      rcases Nat.lt_or_ge c 49 with z | z
      · have : c = 48 := by omega
        subst this
        exact absurd rfl h0
      · exact z
    have e := toDigits_digitsVal r.length (c :: r) rfl h (.inr ⟨c, r, rfl, h49⟩)
    unfold numL
    rw [e, List.map_map]
    refine (List.map_congr_left fun x hx => ?_).trans (List.map_id _)
    exact ofNat_toNat (h x hx)
  · rfl
theorem numL_head : ∀ n : Nat, (numL n).take 1 ≠ [48] ∨ n = 0 := by
  intro n
  induction n using Nat.strongRecOn with
  | _ n ih =>
    by_cases h : n < 10
    · rw [numL_lt h]
      by_cases h2 : n = 0
      · exact .inr h2
      · refine .inl fun e => h2 ?_
        simp at e
        omega
    · have hne := numL_ne (n / 10)
      rcases ih (n / 10) (by omega) with h2 | h2
      · left
        rw [numL_step (by omega)]
        obtain ⟨c, r, e⟩ : ∃ c r, numL (n / 10) = c :: r := by
          cases e : numL (n / 10) with
          | nil => exact absurd e hne
          | cons c r => exact ⟨c, r, rfl⟩
        rw [e] at h2 ⊢
        exact h2
      · omega
theorem foldl_lt : ∀ (l : T) (a : Nat), AllDigits l → l.foldl (fun acc c => acc * 10 + (c - 48)) a < (a + 1) * 10 ^ l.length
  | [], a, _ => by simp
  | c :: r, a, h => by
    have h1 := foldl_lt r (a * 10 + (c - 48)) fun x hx => h x (by simp [hx])
    have hc : 48 ≤ c ∧ c ≤ 57 := h c (by simp)
    show r.foldl _ (a * 10 + (c - 48)) < _
    refine Nat.lt_of_lt_of_le h1 ?_
    rw [List.length_cons, Nat.pow_succ, Nat.mul_comm (10 ^ r.length) 10, ← Nat.mul_assoc]
    exact Nat.mul_le_mul_right _ (by omega)
theorem digitsVal_lt (l : T) (h : AllDigits l) : digitsVal l < 10 ^ l.length := by
  have := foldl_lt l 0 h
  rw [Nat.zero_add, Nat.one_mul] at this
  exact this
theorem dig_all {l : T} (h : AllDigits l) : l.all dig = true := by
  rw [List.all_eq_true]
  intro c hc
  have := h c hc
  unfold dig
  simp only [Bool.and_eq_true, decide_eq_true_eq]
  exact this
/-- an int that is short, as its signs -/
theorem int_there {i : Int} (h : i.natAbs < 10 ^ 4000) : okNum (itxt i) = true ∧ numVal (itxt i) = i ∧ itxt i ≠ [43] ∧ itxt i ≠ [45] ∧ itxt i ≠ [46] ∧ isWord (itxt i) = false := by
  have hd := numL_digits i.natAbs
  have hne := numL_ne i.natAbs
  have hlen := numL_len (k := 4000) (by decide) h
  have hhead := numL_head i.natAbs
  have hval := numL_val i.natAbs
  have hlen1 : 1 ≤ (numL i.natAbs).length := by
    cases e : numL i.natAbs with
    | nil => exact absurd e hne
    | cons c r => simp
  obtain ⟨c, r, ec⟩ : ∃ c r, numL i.natAbs = c :: r := by
    cases e : numL i.natAbs with
    | nil => exact absurd e hne
    | cons c r => exact ⟨c, r, rfl⟩
  have hc : 48 ≤ c ∧ c ≤ 57 := hd c (by rw [ec]; simp)
  by_cases hi : i < 0
  · have e : itxt i = 45 :: numL i.natAbs := if_pos hi
    have eb : body (itxt i) = numL i.natAbs := by rw [e]; rfl
    have hz : (numL i.natAbs).take 1 ≠ [48] := by
      rcases hhead with z | z
      · exact z
      · omega
    refine ⟨?_, ?_, ?_, ?_, ?_, ?_⟩
    · unfold okNum
      rw [eb, decide_eq_true hlen1, decide_eq_true hlen, dig_all hd, decide_eq_false hz]
      rfl
    · unfold numVal
      rw [eb, hval, e]
      rw [if_pos (show (45 :: numL i.natAbs).take 1 = [45] from rfl)]
      omega
    · rw [e]; simp
    · rw [e, ec]; simp
    · rw [e]; simp
    · unfold isWord
      rw [e]
      show (_ && (low 45 && _)) = false
      simp [low]
  · have e : itxt i = numL i.natAbs := if_neg hi
    have ht1 : (numL i.natAbs).take 1 = [c] := by rw [ec]; rfl
    have eb : body (itxt i) = numL i.natAbs := by
      rw [e]
      unfold body
      rw [if_neg]
      rw [ht1]
      simp
      omega
    refine ⟨?_, ?_, ?_, ?_, ?_, ?_⟩
    · unfold okNum
      rw [eb, decide_eq_true hlen1, decide_eq_true hlen, dig_all hd, e]
      rcases hhead with z | z
      · rw [decide_eq_false z]; rfl
      · rw [z]
        decide
    · unfold numVal
      rw [eb, hval, e, ht1, if_neg (by simp; omega)]
      omega
    · rw [e, ec]; simp; omega
    · rw [e, ec]; simp; omega
    · rw [e, ec]; simp; omega
    · unfold isWord
      rw [e, ec]
      show (_ && (low c && _)) = false
      have : low c = false := by
        unfold low
        rw [decide_eq_false (by omega), Bool.false_and]
      rw [this, Bool.false_and, Bool.and_false]
theorem sep_of_wordc {c : Nat} (h : wordc c = true) : sep c = false := by
  unfold wordc low dig at h
  simp only [Bool.or_eq_true, Bool.and_eq_true, decide_eq_true_eq] at h
  unfold sep
  rw [decide_eq_false (by omega), decide_eq_false (by omega), decide_eq_false (by omega)]
  rfl
theorem itxt_signs {i : Int} : ∀ c ∈ itxt i, c = 45 ∨ (48 ≤ c ∧ c ≤ 57) := fun c hc => by
  unfold itxt at hc
  split at hc
  · rcases List.mem_cons.mp hc with h | h
    · exact .inl h
    · exact .inr (numL_digits _ c h)
  · exact .inr (numL_digits _ c hc)
theorem itxt_ne (i : Int) : itxt i ≠ [] := by
  unfold itxt
  split
  · simp
  · exact numL_ne _
/-- what an atom's text is -/
theorem atom_there {d : PyData} {t : T} (h : atomT d = some t) : rdAtom t = some d ∧ t ≠ [] ∧ ∀ c ∈ t, sep c = false ∧ c ≠ 59 := by
  cases d with
  | bool b =>
    cases b
    · cases h
      exact ⟨rfl, by simp, by decide⟩
    · cases h
      exact ⟨rfl, by simp, by decide⟩
  | int i =>
    rw [atom_int] at h
    split at h
    · rename_i hi
      cases h
      obtain ⟨h1, h2, h3, h4, h5, h6⟩ := int_there hi
      refine ⟨?_, itxt_ne i, fun c hc => ?_⟩
      · unfold rdAtom
        rw [if_neg h3, if_neg h4, if_neg h5, h6, if_neg Bool.false_ne_true, if_pos h1, h2]
      · have := itxt_signs c hc
        unfold sep
        rw [decide_eq_false (by omega), decide_eq_false (by omega), decide_eq_false (by omega)]
        exact ⟨rfl, by omega⟩
    · cases h
  | str s =>
    obtain ⟨l, rfl⟩ : ∃ l, s = tx l := ⟨_, (tx_of s).symm⟩
    rw [atom_str, tx_list] at h
    split at h
    · rename_i e
      subst e
      cases h
      exact ⟨rfl, by simp, by decide⟩
    · split at h
      · rename_i hn hw
        cases h
        have hs := isWord_signs hw
        refine ⟨?_, hn, fun c hc => ⟨sep_of_wordc (hs c hc), fun z => ?_⟩⟩
        · unfold rdAtom
          rw [if_neg, if_neg, if_neg, if_pos hw]
          · rintro rfl; revert hw; decide
          · rintro rfl; revert hw; decide
          · rintro rfl; revert hw; decide
        · subst z
          have := hs 59 hc
          revert this
          decide
      · cases h
  | none => cases h
  | list _ => cases h
  | tuple _ => cases h
  | dict _ => cases h
/-- and back -/
theorem atom_back {d : PyData} {t : T} (h : rdAtom t = some d) : atomT d = some t := by
  unfold rdAtom at h
  split at h
  · rename_i e; subst e; cases h; rfl
  · split at h
    · rename_i e; subst e; cases h; rfl
    · split at h
      · rename_i e; subst e; cases h; rfl
      · split at h
        · rename_i hw
          cases h
          rw [atom_str, tx_list, if_neg, if_pos hw]
          rintro rfl
          revert hw
          decide
        · split at h
          · rename_i h45 _ _ ho
            cases h
            unfold okNum at ho
            simp only [Bool.and_eq_true, decide_eq_true_eq, Bool.not_eq_true', Bool.and_eq_false_iff, decide_eq_false_iff_not, Bool.not_eq_false'] at ho
            obtain ⟨⟨⟨h1, h2⟩, h3⟩, h4⟩ := ho
            have hd := all_dig h3
            have hne : body t ≠ [] := fun e => by rw [e] at h1; simp at h1
            have hlt := digitsVal_lt (body t) hd
            have hlt2 : digitsVal (body t) < 10 ^ 4000 := Nat.lt_of_lt_of_le hlt (Nat.pow_le_pow_right (by decide) h2)
            rw [atom_int]
            by_cases hs : t.take 1 = [45]
            · have eb : body t = t.drop 1 := if_pos hs
              have et : t = 45 :: body t := by
                rw [eb]
                have := List.take_append_drop 1 t
                rw [hs] at this
                exact this.symm
              have en : numVal t = -((digitsVal (body t) : Nat) : Int) := if_pos hs
              have h0 : (body t).take 1 ≠ [48] := by
                rcases h4 with z | z
                · exact z
                · rw [z] at hs
                  simp at hs
              have eback := numL_back hd hne (.inl h0)
              have hpos : digitsVal (body t) ≠ 0 := by
                intro z
                rw [z] at eback
                have e0 : numL 0 = [48] := rfl
                rw [e0] at eback
                exact h0 (by rw [← eback]; rfl)
              rw [en]
              rw [if_pos (by omega)]
              unfold itxt
              rw [if_pos (by omega)]
              have : (-((digitsVal (body t) : Nat) : Int)).natAbs = digitsVal (body t) := by omega
              rw [this, eback, ← et]
            · have eb : body t = t := if_neg hs
              have en : numVal t = ((digitsVal (body t) : Nat) : Int) := if_neg hs
              have h0 : (body t).take 1 ≠ [48] ∨ body t = [48] := by
                rcases h4 with z | z
                · exact .inl z
                · right
                  rw [eb]
                  exact z
              have eback := numL_back hd hne h0
              rw [en]
              rw [if_pos (by omega)]
              unfold itxt
              rw [if_neg (by omega)]
              have : (((digitsVal (body t) : Nat) : Int)).natAbs = digitsVal (body t) := by omega
              rw [this, eback, eb]
          · cases h
end M53

namespace M53
open PySem KX L2 TL NumText
/-! what is written is read back -/
theorem pcs_free : ∀ (t cur r : T), (∀ c ∈ t, sep c = false) → pcs cur (t ++ r) = pcs (cur ++ t) r
  | [], cur, r, _ => by rw [List.append_nil]; rfl
  | c :: t, cur, r, h => by
    show pcs cur (c :: (t ++ r)) = _
    rw [pcs_no (h c (by simp)), pcs_free t (cur ++ [c]) r fun x hx => h x (by simp [hx]), List.append_assoc]
    rfl
/-- nothing, or a separator first -/
def Cut (r : T) : Prop := r = [] ∨ ∃ c r', r = c :: r' ∧ sep c = true
theorem pcs_tok {t r : T} (h : ∀ c ∈ t, sep c = false) (hn : t ≠ []) (hr : Cut r) : pcs [] (t ++ r) = t :: pcs [] r := by
  rw [pcs_free t [] r h, List.nil_append]
  rcases hr with rfl | ⟨c, r', rfl, hc⟩
  · show tok t = t :: tok []
    unfold tok
    rw [if_neg hn, if_pos rfl]
  · rw [pcs_sep hc, pcs_sep hc]
    unfold tok
    rw [if_neg hn, if_pos rfl]
    rfl
theorem take_atom {t : T} {d : PyData} {S : RS} (h : rdAtom t = some d) (hn : t ≠ []) (hs : ∀ c ∈ t, sep c = false) : takeS S t = itemS S d := by
  unfold takeS
  have ne : ∀ {a : Nat}, sep a = true → ¬ t = [a] := fun {a} ha z => by
    have := hs a (by rw [z]; simp)
    rw [ha] at this
    cases this
  rw [if_neg (ne (a := 91) rfl), if_neg (ne (a := 93) rfl), if_neg (ne (a := 44) rfl), h]
theorem runS_cons (S : RS) (p : T) (ps : List T) : runS S (p :: ps) = (takeS S p).bind fun S' => runS S' ps := by
  simp only [runS]
  cases takeS S p <;> rfl
theorem item_is (st : List (List PyData)) (told : List PyData) (d : PyData) : ∃ S', itemS ⟨st, true, told⟩ d = some S' := by
  rcases List.eq_nil_or_concat st with rfl | ⟨st0, x, rfl⟩
  · exact ⟨_, item_nil _ _⟩
  · rw [List.concat_eq_append]
    exact ⟨_, item_app _ _ _ _⟩
mutual
theorem rd_wr : ∀ (d : PyData) (k : Nat) (t r : T) (st : List (List PyData)) (told : List PyData), wr k d = some t → Cut r → st.length + k ≤ 1000 →
    runS ⟨st, true, told⟩ (pcs [] (t ++ r)) = (itemS ⟨st, true, told⟩ d).bind fun S' => runS S' (pcs [] r)
  | .tuple ds, k, t, r, st, told, h, hr, hk => by
    obtain ⟨k', ts, rfl, h1, rfl⟩ := wr_tup h
    show runS _ (pcs [] (91 :: ((comma ts ++ [93]) ++ r))) = _
    rw [pcs_sep rfl, List.append_assoc]
    show runS _ ([91] :: pcs [] (comma ts ++ ([93] ++ r))) = _
    rw [runS_cons]
    have e1 : takeS ⟨st, true, told⟩ [91] = some ⟨st ++ [[]], true, told⟩ := by
      unfold takeS
      rw [if_pos rfl]
      unfold openS
      rw [if_neg]
      rintro (z | z)
      · cases z
      · have z' : 1000 ≤ st.length := z
        omega
    rw [e1]
    show runS ⟨st ++ [[]], true, told⟩ (pcs [] (comma ts ++ 93 :: r)) = _
    cases ds with
    | nil =>
      rw [wrs_nil] at h1
      cases h1
      show runS _ (pcs [] (93 :: r)) = _
      rw [pcs_sep rfl]
      show runS _ ([93] :: pcs [] r) = _
      rw [runS_cons]
      have e2 : takeS ⟨st ++ [[]], true, told⟩ [93] = closeS ⟨st ++ [[]], true, told⟩ := rfl
      rw [e2, close_app, if_neg (fun z => z.2 rfl)]
    | cons d ds =>
      have := rds_wr d ds k' ts (93 :: r) st [] told h1 (.inr ⟨93, r, rfl, rfl⟩) (by omega)
      rw [this, List.nil_append, pcs_sep rfl]
      show runS _ ([93] :: pcs [] r) = _
      rw [runS_cons]
      have e2 : takeS ⟨st ++ [d :: ds], false, told⟩ [93] = closeS ⟨st ++ [d :: ds], false, told⟩ := rfl
      rw [e2, close_app, if_neg (fun z => by cases z.1)]
  | .none, k, t, r, st, told, h, hr, hk => by rw [wr_atom rfl] at h; cases h
  | .bool b, k, t, r, st, told, h, hr, hk => by
    rw [wr_atom rfl] at h
    obtain ⟨h1, h2, h3⟩ := atom_there h
    rw [pcs_tok (fun c hc => (h3 c hc).1) h2 hr, runS_cons, take_atom h1 h2 fun c hc => (h3 c hc).1]
  | .int i, k, t, r, st, told, h, hr, hk => by
    rw [wr_atom rfl] at h
    obtain ⟨h1, h2, h3⟩ := atom_there h
    rw [pcs_tok (fun c hc => (h3 c hc).1) h2 hr, runS_cons, take_atom h1 h2 fun c hc => (h3 c hc).1]
  | .str s, k, t, r, st, told, h, hr, hk => by
    rw [wr_atom rfl] at h
    obtain ⟨h1, h2, h3⟩ := atom_there h
    rw [pcs_tok (fun c hc => (h3 c hc).1) h2 hr, runS_cons, take_atom h1 h2 fun c hc => (h3 c hc).1]
  | .list _, k, t, r, st, told, h, hr, hk => by rw [wr_atom rfl] at h; cases h
  | .dict _, k, t, r, st, told, h, hr, hk => by rw [wr_atom rfl] at h; cases h
theorem rds_wr : ∀ (d : PyData) (ds : List PyData) (k : Nat) (ts : List T) (r : T) (st : List (List PyData)) (x told : List PyData), wrs k (d :: ds) = some ts → Cut r → st.length + 1 + k ≤ 1000 →
    runS ⟨st ++ [x], true, told⟩ (pcs [] (comma ts ++ r)) = runS ⟨st ++ [x ++ d :: ds], false, told⟩ (pcs [] r)
  | d, [], k, ts, r, st, x, told, h, hr, hk => by
    rw [wrs_cons, wrs_nil] at h
    cases h1 : wr k d with
    | none => rw [h1] at h; cases h
    | some t =>
      rw [h1] at h
      cases h
      show runS _ (pcs [] (t ++ r)) = _
      rw [rd_wr d k t r (st ++ [x]) told h1 hr (by rw [List.length_append]; simp only [List.length_cons, List.length_nil]; omega), item_app]
      rfl
  | d, e :: ds, k, ts, r, st, x, told, h, hr, hk => by
    rw [wrs_cons] at h
    cases h1 : wr k d with
    | none => rw [h1] at h; cases h
    | some t =>
      cases h2 : wrs k (e :: ds) with
      | none => rw [h1, h2] at h; cases h
      | some us =>
        rw [h1, h2] at h
        cases h
        have hul := wrs_len h2
        obtain ⟨u, us', rfl⟩ : ∃ u us', us = u :: us' := by
          cases us with
          | nil => simp at hul
          | cons u us' => exact ⟨u, us', rfl⟩
        have ec : comma (t :: u :: us') ++ r = t ++ (44 :: (comma (u :: us') ++ r)) := by
          show (t ++ 44 :: comma (u :: us')) ++ r = _
          rw [List.append_assoc]
          rfl
        show runS _ (pcs [] (comma (t :: u :: us') ++ r)) = _
        rw [ec, rd_wr d k t _ (st ++ [x]) told h1 (.inr ⟨44, _, rfl, rfl⟩) (by rw [List.length_append]; simp only [List.length_cons, List.length_nil]; omega), item_app]
        show runS ⟨st ++ [x ++ [d]], false, told⟩ (pcs [] (44 :: (comma (u :: us') ++ r))) = _
        rw [pcs_sep rfl]
        show runS _ ([44] :: pcs [] (comma (u :: us') ++ r)) = _
        rw [runS_cons]
        have e3 : takeS ⟨st ++ [x ++ [d]], false, told⟩ [44] = some ⟨st ++ [x ++ [d]], true, told⟩ := by
          show commaS _ = _
          unfold commaS
          rw [if_neg]
          rintro (z | z)
          · cases z
          · have z' : st ++ [x ++ [d]] = [] := z
            simp at z'
        rw [e3]
        show runS ⟨st ++ [x ++ [d]], true, told⟩ (pcs [] (comma (u :: us') ++ r)) = _
        rw [rds_wr e ds k (u :: us') r st (x ++ [d]) told h2 hr hk, List.append_assoc]
        rfl
end
/-- R1 -/
theorem rd_of_wr {d : PyData} {t : T} (h : wr 1000 d = some t) : rd t = some d := by
  have := rd_wr d 1000 t [] [] [] h (.inl rfl) (by simp)
  rw [List.append_nil] at this
  unfold rd
  rw [this, item_nil]
  rfl
end M53

namespace M53
open PySem KX L2 TL NumText
/-! what is read is so written -/
theorem pcs_flat : ∀ (l cur : T), (pcs cur l).flatten = cur ++ l
  | [], cur => by
    show (tok cur).flatten = _
    unfold tok
    split
    · rename_i h; subst h; rfl
    · simp
  | c :: r, cur => by
    unfold pcs
    split
    · rw [List.flatten_append, List.flatten_cons, pcs_flat r []]
      unfold tok
      split
      · rename_i h; subst h; rfl
      · simp
    · rw [pcs_flat r (cur ++ [c])]
      simp
/-- an open tuple whose items all have their commas -/
def opn (ts : List T) : T := 91 :: (ts.map (· ++ [44])).flatten
theorem opn_comma : ∀ (ts : List T) (p : T), (ts.map (· ++ [44])).flatten ++ p = comma (ts ++ [p])
  | [], p => rfl
  | [t], p => by simp [comma]
  | t :: u :: ts, p => by
    have ih := opn_comma (u :: ts) p
    show ((t ++ [44]) ++ ((u :: ts).map (· ++ [44])).flatten) ++ p = t ++ 44 :: comma (u :: ts ++ [p])
    rw [List.append_assoc, ih]
    simp
theorem comma_close (ts : List T) (h : ts ≠ []) : comma ts ++ [44] = (ts.map (· ++ [44])).flatten := by
  rcases List.eq_nil_or_concat ts with rfl | ⟨us, p, rfl⟩
  · exact absurd rfl h
  · rw [List.concat_eq_append, ← opn_comma]
    simp
theorem wrs_snoc {k : Nat} : ∀ {ds : List PyData} {ts : List T} {d : PyData} {t : T}, wrs k ds = some ts → wr k d = some t → wrs k (ds ++ [d]) = some (ts ++ [t])
  | [], ts, d, t, h, h2 => by
    rw [wrs_nil] at h
    cases h
    show wrs k [d] = _
    rw [wrs_cons, h2, wrs_nil]
    rfl
  | e :: ds, ts, d, t, h, h2 => by
    rw [wrs_cons] at h
    cases h1 : wr k e with
    | none => rw [h1] at h; cases h
    | some u =>
      cases h3 : wrs k ds with
      | none => rw [h1, h3] at h; cases h
      | some us =>
        rw [h1, h3] at h
        cases h
        show wrs k (e :: (ds ++ [d])) = _
        rw [wrs_cons, h1, wrs_snoc h3 h2]
        rfl
/-- the texts of open tuples, k: how many more may stand within the first -/
inductive Opn : Nat → List (List PyData) → T → Prop
  | nil (k : Nat) : Opn k [] []
  | cons {k : Nat} {ds : List PyData} {ts : List T} {st : List (List PyData)} {u : T} : wrs k ds = some ts → Opn k st u → Opn (k + 1) (ds :: st) (opn ts ++ u)
theorem Opn.snoc : ∀ {k : Nat} {st : List (List PyData)} {u : T} {ds : List PyData} {ts : List T}, Opn k st u → st.length < k → wrs (k - st.length - 1) ds = some ts → Opn k (st ++ [ds]) (u ++ opn ts)
  | k, _, _, ds, ts, .nil _, hk, h => by
    obtain ⟨k, rfl⟩ : ∃ k', k = k' + 1 := ⟨k - 1, by simp at hk; omega⟩
    have := Opn.cons h (Opn.nil k)
    rw [List.append_nil] at this
    exact this
  | _, _, _, ds, ts, .cons (k := k) (st := st) (u := u) h1 h2, hk, h => by
    simp only [List.length_cons] at hk h
    have := Opn.cons h1 (h2.snoc (ds := ds) (ts := ts) (by omega) (by rw [show k - st.length - 1 = k + 1 - (st.length + 1) - 1 by omega]; exact h))
    rw [List.append_assoc]
    exact this
theorem Opn.last {k : Nat} : ∀ {st : List (List PyData)} {u : T} {x : List PyData}, Opn k (st ++ [x]) u → ∃ v ts, Opn k st v ∧ u = v ++ opn ts ∧ st.length < k ∧ wrs (k - st.length - 1) x = some ts := by
  intro st
  induction st generalizing k with
  | nil =>
    intro u x h
    cases h with
    | cons h1 h2 =>
      cases h2
      exact ⟨[], _, .nil _, by simp, by simp, h1⟩
  | cons y st ih =>
    intro u x h
    cases h with
    | cons h1 h2 =>
      rename_i k ts u
      obtain ⟨v, us, a, b, c, d⟩ := ih h2
      refine ⟨_, us, .cons h1 a, by rw [b, List.append_assoc], by simp only [List.length_cons]; omega, ?_⟩
      simp only [List.length_cons]
      rw [show k + 1 - (st.length + 1) - 1 = k - st.length - 1 by omega]
      exact d
/-- what has been read so far -/
def Inv (S : RS) (u : T) : Prop :=
  (S.ready = true ∧ S.told = [] ∧ Opn 1000 S.stack u) ∨
  (S.ready = false ∧ S.stack = [] ∧ ∃ d, S.told = [d] ∧ wr 1000 d = some u) ∨
  (S.ready = false ∧ S.told = [] ∧ ∃ st x v ts, S.stack = st ++ [x] ∧ x ≠ [] ∧ Opn 1000 st v ∧ st.length < 1000 ∧ wrs (1000 - st.length - 1) x = some ts ∧ u = v ++ 91 :: comma ts)
theorem wr_le : ∀ {k : Nat} {d : PyData} {t : T}, isTupD d = false → wr k d = some t → ∀ j, wr j d = some t := fun {k d t} hd h j => by
  rw [wr_atom hd] at h ⊢
  exact h
theorem inv_item {st : List (List PyData)} {u p : T} {d : PyData} {S' : RS} (h : Opn 1000 st u) (hl : st.length ≤ 1000) (hw : wr (1000 - st.length) d = some p) (e : itemS ⟨st, true, []⟩ d = some S') : Inv S' (u ++ p) := by
  rcases List.eq_nil_or_concat st with rfl | ⟨st0, x, rfl⟩
  · rw [item_nil] at e
    cases e
    cases h
    exact .inr (.inl ⟨rfl, rfl, d, rfl, hw⟩)
  · rw [List.concat_eq_append] at *
    rw [item_app] at e
    cases e
    obtain ⟨v, ts, a, b, c, g⟩ := h.last
    rw [List.length_append] at hw
    have hw' : wr (1000 - st0.length - 1) d = some p := by
      rw [show 1000 - st0.length - 1 = 1000 - (st0.length + [x].length) by simp; omega]
      exact hw
    refine .inr (.inr ⟨rfl, rfl, st0, x ++ [d], v, ts ++ [p], rfl, by simp, a, c, wrs_snoc g hw', ?_⟩)
    rw [b, ← opn_comma, List.append_assoc]
    rfl
theorem inv_ready {S : RS} {u : T} (h : Inv S u) (hr : S.ready = true) : S = ⟨S.stack, true, []⟩ ∧ Opn 1000 S.stack u := by
  rcases h with ⟨_, b, c⟩ | ⟨a, _⟩ | ⟨a, _⟩
  · refine ⟨?_, c⟩
    obtain ⟨x, y, z⟩ := S
    simp at hr b
    subst hr
    subst b
    rfl
  · rw [hr] at a; cases a
  · rw [hr] at a; cases a
theorem item_ready {S S' : RS} {d : PyData} (h : itemS S d = some S') : S.ready = true := by
  unfold itemS at h
  split at h
  · cases h
  · rename_i z
    simpa using z
theorem opn_len {k : Nat} {st : List (List PyData)} {u : T} (h : Opn k st u) : st.length ≤ k := by
  induction h with
  | nil k => exact Nat.zero_le _
  | cons _ _ ih => simp only [List.length_cons]; omega
theorem inv_take {S S' : RS} {u p : T} (h : Inv S u) (e : takeS S p = some S') : Inv S' (u ++ p) := by
  unfold takeS at e
  split at e
  · rename_i hp
    subst hp
    unfold openS at e
    split at e
    · cases e
    · rename_i hn
      have hr : S.ready = true := by
        cases z : S.ready with
        | true => rfl
        | false => exact absurd (.inl z) hn
      have hl : S.stack.length < 1000 := by
        rcases Nat.lt_or_ge S.stack.length 1000 with z | z
        · exact z
        · exact absurd (.inr z) hn
      obtain ⟨eS, o⟩ := inv_ready h hr
      rw [eS] at e
      cases e
      exact .inl ⟨rfl, rfl, o.snoc (ds := []) (ts := []) hl (wrs_nil _)⟩
  · split at e
    · rename_i hp
      subst hp
      rcases List.eq_nil_or_concat S.stack with z | ⟨st, x, z⟩
      · have : closeS S = none := by unfold closeS; rw [z]; rfl
        rw [this] at e
        cases e
      · rw [List.concat_eq_append] at z
        obtain ⟨sk, b, told⟩ := S
        have z : sk = st ++ [x] := z
        subst z
        rw [close_app] at e
        split at e
        · cases e
        · rename_i hn
          have key : ∃ v ts, Opn 1000 st v ∧ st.length < 1000 ∧ wrs (1000 - st.length - 1) x = some ts ∧ u = v ++ 91 :: comma ts ∧ told = [] := by
            rcases h with ⟨a1, a2, a3⟩ | ⟨a1, a2, _⟩ | ⟨a1, a2, st', x', v, ts, b1, b2, b3, b4, b5, b6⟩
            · have a1 : b = true := a1
              have a2 : told = [] := a2
              have a3 : Opn 1000 (st ++ [x]) u := a3
              have hx : x = [] := by
                by_cases q : x = []
                · exact q
                · exact absurd ⟨a1, q⟩ hn
              subst hx
              obtain ⟨v, ts, c1, c2, c3, c4⟩ := a3.last
              rw [wrs_nil] at c4
              cases c4
              exact ⟨v, [], c1, c3, wrs_nil _, c2, a2⟩
            · have a2 : st ++ [x] = [] := a2
              simp at a2
            · have b1 : st ++ [x] = st' ++ [x'] := b1
              obtain ⟨rfl, h2⟩ := List.append_inj' b1 rfl
              cases h2
              exact ⟨v, ts, b3, b4, b5, b6, a2⟩
          obtain ⟨v, ts, c1, c2, c3, c4, c5⟩ := key
          subst c5
          have hw : wr (1000 - st.length) (.tuple x) = some (91 :: (comma ts ++ [93])) := by
            rw [show 1000 - st.length = (1000 - st.length - 1) + 1 by omega, wr_succ, c3]
            rfl
          have := inv_item c1 (Nat.le_of_lt c2) hw e
          rw [c4, List.append_assoc]
          exact this
    · split at e
      · rename_i hp
        subst hp
        unfold commaS at e
        split at e
        · cases e
        · rename_i hn
          rcases h with ⟨a1, _⟩ | ⟨_, a2, _⟩ | ⟨a1, a2, st, x, v, ts, b1, b2, b3, b4, b5, b6⟩
          · exact absurd (.inl a1) hn
          · exact absurd (.inr a2) hn
          · cases e
            refine .inl ⟨rfl, a2, ?_⟩
            show Opn 1000 S.stack _
            have hts : ts ≠ [] := by
              intro z
              have := wrs_len b5
              rw [z] at this
              exact b2 (List.length_eq_zero_iff.mp this.symm)
            have := b3.snoc b4 b5
            rw [b1, b6, List.append_assoc]
            show Opn 1000 (st ++ [x]) (v ++ (91 :: (comma ts ++ [44])))
            rw [comma_close ts hts]
            exact this
      · split at e
        · cases e
        · rename_i d hd
          have hr := item_ready e
          obtain ⟨eS, o⟩ := inv_ready h hr
          rw [eS] at e
          refine inv_item o (opn_len o) ?_ e
          have := atom_back hd
          rw [wr_atom (rdAtom_flat hd).2]
          exact this
theorem inv_run : ∀ (ps : List T) {S S' : RS} {u : T}, Inv S u → runS S ps = some S' → Inv S' (u ++ ps.flatten)
  | [], S, S', u, h, e => by
    cases e
    simpa using h
  | p :: ps, S, S', u, h, e => by
    rw [runS_cons] at e
    cases e1 : takeS S p with
    | none => rw [e1] at e; cases e
    | some S1 =>
      rw [e1] at e
      have := inv_run ps (inv_take h e1) e
      rw [List.flatten_cons, ← List.append_assoc]
      exact this
/-- R2 -/
theorem wr_of_rd {d : PyData} {t : T} (h : rd t = some d) : wr 1000 d = some t := by
  unfold rd at h
  cases e : runS ⟨[], true, []⟩ (pcs [] t) with
  | none => rw [e] at h; cases h
  | some S =>
    rw [e] at h
    have h : (if S.stack ≠ [] ∨ S.told.length ≠ 1 then none else S.told.head?) = some d := h
    split at h
    · cases h
    · rename_i hn
      have i := inv_run (pcs [] t) (.inl ⟨rfl, rfl, .nil _⟩) e
      rw [pcs_flat, List.nil_append, List.nil_append] at i
      have hl : S.told.length = 1 := by
        by_cases z : S.told.length = 1
        · exact z
        · exact absurd (.inr z) hn
      have hs : S.stack = [] := by
        by_cases z : S.stack = []
        · exact z
        · exact absurd (.inl z) hn
      rcases i with ⟨_, b, _⟩ | ⟨_, _, d', b, c⟩ | ⟨_, b, _⟩
      · rw [b] at hl; cases hl
      · rw [b] at h
        cases h
        exact c
      · rw [b] at hl; cases hl
end M53

namespace M53
open PySem KX L2 TL NumText
/-! the law's reader reads alike -/
/-- the reader's state at a state of the law's reader -/
def toRS (L : LS) : Option RS := if L.ahead = true then some ⟨L.rows, true, []⟩ else itemS ⟨L.rows, true, []⟩ (held L)
def finR (S : RS) : Option PyData := if S.stack ≠ [] ∨ S.told.length ≠ 1 then none else S.told.head?
def OneD (L : LS) : Prop := L.ahead = false → ∃ d, L.done = [d]
theorem rd_fin (t : T) : rd t = (runS ⟨[], true, []⟩ (pcs [] t)).bind finR := by
  unfold rd
  cases runS ⟨[], true, []⟩ (pcs [] t) <;> rfl
def finL (L : LS) : Option (List PyData) := if L.rows = [] ∧ L.ahead = false then some L.done else none
theorem toRS_some (L : LS) : ∃ S, toRS L = some S := by
  unfold toRS
  split
  · exact ⟨_, rfl⟩
  · exact item_is _ _ _
/-- at the end -/
theorem fin_alike {L : LS} {S : RS} (h : toRS L = some S) (h1 : OneD L) : finL L = (finR S).map fun d => [d] := by
  obtain ⟨rows, done, tok, ahead⟩ := L
  unfold toRS at h
  unfold finL finR
  cases ahead with
  | true =>
    cases h
    rw [if_neg (fun z => by cases z.2), if_pos (.inr (by show ([] : List PyData).length ≠ 1; simp))]
    rfl
  | false =>
    rw [if_neg (by simp)] at h
    obtain ⟨d, e⟩ := h1 rfl
    have e : done = [d] := e
    subst e
    rcases List.eq_nil_or_concat rows with rfl | ⟨r0, x, rfl⟩
    · have h : itemS ⟨[], true, []⟩ d = some S := h
      rw [item_nil] at h
      cases h
      rw [if_pos ⟨rfl, rfl⟩, if_neg (by simp)]
      rfl
    · rw [List.concat_eq_append] at *
      have h : itemS ⟨r0 ++ [x], true, []⟩ d = some S := h
      rw [item_app] at h
      cases h
      rw [if_neg (by simp), if_pos (.inl (by simp))]
      rfl
/-- a piece that is no separator -/
theorem flush_alike {L : LS} {S : RS} (hs : ∀ c ∈ L.tok, sep c = false) (h : toRS L = some S) (ps : List T) :
    (match flush L with
      | none => runS S (tok L.tok ++ ps) = none
      | some L' => L'.tok = [] ∧ L'.rows = L.rows ∧ (OneD L → OneD L') ∧ ∃ S', toRS L' = some S' ∧ runS S (tok L.tok ++ ps) = runS S' ps) := by
  unfold flush
  by_cases hn : L.tok = []
  · rw [if_pos hn]
    refine ⟨hn, rfl, id, S, h, ?_⟩
    unfold tok
    rw [if_pos hn]
    rfl
  · rw [if_neg hn]
    have et : tok L.tok = [L.tok] := if_neg hn
    rw [et]
    have e0 : runS S ([L.tok] ++ ps) = (takeS S L.tok).bind fun S' => runS S' ps := runS_cons _ _ _
    have ne : ∀ {a : Nat}, sep a = true → ¬ L.tok = [a] := fun {a} ha z => by
      have := hs a (by rw [z]; simp)
      rw [ha] at this
      cases this
    have e1 : takeS S L.tok = match rdAtom L.tok with | none => none | some d => itemS S d := by
      unfold takeS
      rw [if_neg (ne (a := 91) rfl), if_neg (ne (a := 93) rfl), if_neg (ne (a := 44) rfl)]
      first | done | (cases rdAtom L.tok <;> rfl)
    rw [e0, e1]
    cases ea : rdAtom L.tok with
    | none => rfl
    | some d =>
      show (match (if L.ahead = false then none else some ⟨L.rows, [d], [], false⟩ : Option LS) with | none => _ | some L' => _)
      unfold toRS at h
      cases hb : L.ahead with
      | false =>
        rw [if_pos rfl]
        rw [if_neg (by rw [hb]; simp)] at h
        have : S.ready = false := by
          unfold itemS at h
          simp only [Bool.true_eq_false, if_false] at h
          split at h <;> (cases h; rfl)
        show Option.bind (itemS S d) _ = none
        unfold itemS
        rw [if_pos this]
        rfl
      | true =>
        rw [if_neg (by simp)]
        rw [if_pos hb] at h
        cases h
        refine ⟨rfl, rfl, fun _ _ => ⟨d, rfl⟩, ?_⟩
        obtain ⟨S', e⟩ := item_is L.rows [] d
        refine ⟨S', ?_, ?_⟩
        · unfold toRS
          rw [if_neg (by simp)]
          exact e
        · show Option.bind (itemS ⟨L.rows, true, []⟩ d) _ = _
          rw [e]
          rfl
/-- a separator -/
theorem act_alike {L : LS} {S : RS} {c : Nat} (hc : sep c = true) (h : toRS L = some S) (h1 : OneD L) (hl : L.rows.length < 1000) :
    (match act c L with
      | none => takeS S [c] = none
      | some L' => L'.tok = L.tok ∧ L'.rows.length ≤ L.rows.length + (if c = 91 then 1 else 0) ∧ OneD L' ∧ ∃ S', toRS L' = some S' ∧ takeS S [c] = some S') := by
  obtain ⟨rows, done, tok, ahead⟩ := L
  unfold toRS at h
  unfold sep at hc
  simp only [Bool.or_eq_true, decide_eq_true_eq] at hc
  rcases hc with rfl | rfl | rfl
  · unfold act
    rw [if_pos rfl]
    cases ahead with
    | false =>
      rw [if_pos rfl]
      rw [if_neg (by simp)] at h
      have : S.ready = false := by
        unfold itemS at h
        simp only [Bool.true_eq_false, if_false] at h
        split at h <;> (cases h; rfl)
      show openS S = none
      unfold openS
      exact if_pos (.inl this)
    | true =>
      rw [if_neg (by simp)]
      cases h
      refine ⟨rfl, by simp, (fun z => by cases z), ⟨rows ++ [[]], true, []⟩, rfl, ?_⟩
      show openS _ = _
      unfold openS
      refine if_neg ?_
      rintro (z | z)
      · cases z
      · have z : 1000 ≤ rows.length := z
        have hl : rows.length < 1000 := hl
        omega
  · unfold act
    rw [if_neg (by decide), if_neg (by decide), if_pos rfl]
    have tk : takeS S [93] = closeS S := rfl
    rw [tk]
    rcases List.eq_nil_or_concat rows with rfl | ⟨r0, x, rfl⟩
    · show closeS S = none
      cases ahead with
      | true => cases h; rfl
      | false =>
        rw [if_neg (by simp)] at h
        have h : itemS ⟨[], true, []⟩ (done.headD .none) = some S := h
        rw [item_nil] at h
        cases h
        rfl
    · rw [List.concat_eq_append] at *
      have eg : (LS.rows ⟨r0 ++ [x], done, tok, ahead⟩).getLast? = some x := by simp
      rw [eg]
      show (match (if ahead = true ∧ x ≠ [] then none else some (⟨(r0 ++ [x]).dropLast, [.tuple (x ++ if ahead = true then [] else [done.headD .none])], tok, false⟩ : LS)) with | none => _ | some L' => _)
      cases ahead with
      | true =>
        cases h
        rw [close_app]
        by_cases hx : x = []
        · subst hx
          have hz : ¬ (true = true ∧ ([] : List PyData) ≠ []) := fun z => z.2 rfl
          rw [if_neg hz, if_neg hz]
          obtain ⟨S', e⟩ := item_is r0 [] (.tuple [])
          refine ⟨rfl, by simp, fun _ => ⟨_, rfl⟩, S', ?_, e⟩
          unfold toRS
          rw [if_neg (by simp)]
          show itemS ⟨(r0 ++ [[]]).dropLast, true, []⟩ (.tuple ([] ++ [])) = _
          rw [List.dropLast_concat]
          exact e
        · have hz : true = true ∧ x ≠ [] := ⟨rfl, hx⟩
          rw [if_pos hz, if_pos hz]
      | false =>
        rw [if_neg (by simp)] at h
        have h : itemS ⟨r0 ++ [x], true, []⟩ (done.headD .none) = some S := h
        rw [item_app] at h
        cases h
        have hz : ¬ (false = true ∧ x ≠ []) := fun z => by cases z.1
        have hz2 : ¬ (false = true ∧ x ++ [done.headD .none] ≠ []) := fun z => by cases z.1
        rw [close_app, if_neg hz, if_neg hz2]
        obtain ⟨S', e⟩ := item_is r0 [] (.tuple (x ++ [done.headD .none]))
        refine ⟨rfl, by simp, fun _ => ⟨_, rfl⟩, S', ?_, e⟩
        unfold toRS
        rw [if_neg (by simp)]
        show itemS ⟨(r0 ++ [x]).dropLast, true, []⟩ (.tuple (x ++ [done.headD .none])) = _
        rw [List.dropLast_concat]
        exact e
  · unfold act
    rw [if_neg (by decide), if_pos rfl]
    have tk : takeS S [44] = commaS S := rfl
    rw [tk]
    rcases List.eq_nil_or_concat rows with rfl | ⟨r0, x, rfl⟩
    · show commaS S = none
      cases ahead with
      | true => cases h; rfl
      | false =>
        rw [if_neg (by simp)] at h
        have h : itemS ⟨[], true, []⟩ (done.headD .none) = some S := h
        rw [item_nil] at h
        cases h
        rfl
    · rw [List.concat_eq_append] at *
      have eg : (LS.rows ⟨r0 ++ [x], done, tok, ahead⟩).getLast? = some x := by simp
      rw [eg]
      show (match (if ahead = true then none else some (⟨(r0 ++ [x]).dropLast ++ [x ++ [done.headD .none]], done, tok, true⟩ : LS)) with | none => _ | some L' => _)
      cases ahead with
      | true =>
        cases h
        rw [if_pos rfl]
        show commaS _ = none
        unfold commaS
        exact if_pos (.inl rfl)
      | false =>
        rw [if_neg (by simp)] at h
        have h : itemS ⟨r0 ++ [x], true, []⟩ (done.headD .none) = some S := h
        rw [item_app] at h
        cases h
        rw [if_neg (by simp)]
        refine ⟨rfl, by simp, (fun z => by cases z), ⟨r0 ++ [x ++ [done.headD .none]], true, []⟩, ?_, ?_⟩
        · unfold toRS
          rw [if_pos rfl]
          simp
        · show commaS _ = _
          unfold commaS
          refine if_neg ?_
          rintro (z | z)
          · cases z
          · have z : r0 ++ [x ++ [done.headD .none]] = [] := z
            simp at z
theorem alike : ∀ (l : T) (L : LS) (S : RS), 59 ∉ l → toRS L = some S → OneD L → (∀ c ∈ L.tok, sep c = false) → L.rows.length + l.count 91 < 1000 →
    (runL L (l ++ [59])).bind finL = ((runS S (pcs L.tok l)).bind finR).map fun d => [d]
  | [], L, S, h59, h, h1, ht, hl => by
    have f := flush_alike ht h []
    rw [List.append_nil] at f
    show (Option.bind (stepL 59 L) fun S' => some S').bind finL = _
    have e0 : stepL 59 L = (flush L).bind (act 59) := rfl
    rw [e0]
    show _ = ((runS S (tok L.tok)).bind finR).map _
    cases ef : flush L with
    | none =>
      rw [ef] at f
      have f : runS S (tok L.tok) = none := f
      rw [f]
      rfl
    | some L' =>
      rw [ef] at f
      obtain ⟨_, _, g2, S', g3, g4⟩ := f
      rw [g4]
      show finL L' = _
      exact fin_alike g3 (g2 h1)
  | c :: r, L, S, h59, h, h1, ht, hl => by
    have h59' : 59 ∉ r := fun z => h59 (by simp [z])
    have hc59 : c ≠ 59 := fun z => h59 (by simp [z])
    show (Option.bind (stepL c L) fun S' => runL S' (r ++ [59])).bind finL = _
    by_cases hc : sep c = true
    · have e0 : stepL c L = (flush L).bind (act c) := if_pos (by unfold sep4; rw [hc]; rfl)
      rw [e0, pcs_sep hc]
      have f := flush_alike ht h ([c] :: pcs [] r)
      cases ef : flush L with
      | none =>
        rw [ef] at f
        have f : runS S (tok L.tok ++ [c] :: pcs [] r) = none := f
        rw [f]
        rfl
      | some L' =>
        rw [ef] at f
        obtain ⟨g0, gr, g2, S', g3, g4⟩ := f
        rw [g4, runS_cons]
        have hcnt : (c :: r).count 91 = r.count 91 + if c = 91 then 1 else 0 := by
          rw [List.count_cons]
          congr 1
          simp
        have a := act_alike hc g3 (g2 h1) (by rw [gr]; omega)
        show (Option.bind (act c L') fun S' => runL S' (r ++ [59])).bind finL = _
        cases ea : act c L' with
        | none =>
          rw [ea] at a
          have a : takeS S' [c] = none := a
          rw [a]
          rfl
        | some L2 =>
          rw [ea] at a
          obtain ⟨b0, b1, b2, S2, b3, b4⟩ := a
          rw [b4]
          have et : L2.tok = [] := by rw [b0, g0]
          have ih := alike r L2 S2 h59' b3 b2 (by rw [et]; intro x hx; cases hx) (by rw [gr] at b1; omega)
          rw [et] at ih
          exact ih
    · have hc : sep c = false := by simpa using hc
      have e0 : stepL c L = some ⟨L.rows, L.done, L.tok ++ [c], L.ahead⟩ := if_neg (by unfold sep4; rw [hc, decide_eq_false hc59]; simp)
      rw [e0, pcs_no hc]
      have hcnt : (c :: r).count 91 = r.count 91 := by
        rw [List.count_cons]
        have : c ≠ 91 := by rintro rfl; cases hc
        simp [this]
      refine alike r ⟨L.rows, L.done, L.tok ++ [c], L.ahead⟩ S h59' h h1 (fun x hx => ?_) (by show L.rows.length + _ < _; omega)
      rcases List.mem_append.mp hx with z | z
      · exact ht x z
      · rw [List.mem_singleton.mp z]
        exact hc
/-- E -/
theorem lr_rd {l : T} (h59 : 59 ∉ l) (hl : l.count 91 < 1000) : lr l = (rd l).map fun d => [d] := by
  have := alike l ⟨[], [], [], true⟩ ⟨[], true, []⟩ h59 rfl (fun z => by cases z) (fun x hx => by cases hx) (by show 0 + _ < _; omega)
  rw [rd_fin, ← this]
  unfold lr
  congr 1
  funext S
  unfold finL
  by_cases z : S.rows = [] ∧ S.ahead = false
  · rw [if_pos z, if_pos ⟨z.1, z.2, h59⟩]
  · rw [if_neg z, if_neg (fun y => z ⟨y.1, y.2.1⟩)]
end M53

namespace K66
open PySem PySem.Spec PyProof.Rows L2 KX
def top (i : Nat) : Stmt := PySem.Challenge.pw_forksalike_k66_whole_texts_of_diaries.main.body.getD i (.Pass ⟨0, 0, 0, 0⟩)
abbrev s_is_whole : Stmt := top 5
abbrev n_is_whole : List Str := ["value"]
theorem sc_is_whole : FnScope n_is_whole ["value"] (defScope s_is_whole) := ⟨rfl, rfl, rfl, by decide +kernel, rfl, by decide +kernel, by decide +kernel⟩
abbrev s_is_word : Stmt := top 12
abbrev n_is_word : List Str := ["value", "sign"]
theorem sc_is_word : FnScope n_is_word ["value"] (defScope s_is_word) := ⟨rfl, rfl, rfl, by decide +kernel, rfl, by decide +kernel, by decide +kernel⟩
abbrev s_is_short : Stmt := top 13
abbrev n_is_short : List Str := ["value", "most", "_"]
theorem sc_is_short : FnScope n_is_short ["value"] (defScope s_is_short) := ⟨rfl, rfl, rfl, by decide +kernel, rfl, by decide +kernel, by decide +kernel⟩
abbrev s_atom_text : Stmt := top 14
abbrev n_atom_text : List Str := ["value"]
theorem sc_atom_text : FnScope n_atom_text ["value"] (defScope s_atom_text) := ⟨rfl, rfl, rfl, by decide +kernel, rfl, by decide +kernel, by decide +kernel⟩
abbrev s_write_data : Stmt := top 15
abbrev n_write_data : List Str := ["data", "waiting", "found", "one", "depth", "k"]
theorem sc_write_data : FnScope n_write_data ["data"] (defScope s_write_data) := ⟨rfl, rfl, rfl, by decide +kernel, rfl, by decide +kernel, by decide +kernel⟩
abbrev s_read_whole : Stmt := top 16
abbrev n_read_whole : List Str := ["text", "body", "sign"]
theorem sc_read_whole : FnScope n_read_whole ["text"] (defScope s_read_whole) := ⟨rfl, rfl, rfl, by decide +kernel, rfl, by decide +kernel, by decide +kernel⟩
abbrev s_read_atom : Stmt := top 17
abbrev n_read_atom : List Str := ["piece"]
theorem sc_read_atom : FnScope n_read_atom ["piece"] (defScope s_read_atom) := ⟨rfl, rfl, rfl, by decide +kernel, rfl, by decide +kernel, by decide +kernel⟩
abbrev s_pieces_of : Stmt := top 18
abbrev n_pieces_of : List Str := ["text", "found", "start", "place", "sign"]
theorem sc_pieces_of : FnScope n_pieces_of ["text"] (defScope s_pieces_of) := ⟨rfl, rfl, rfl, by decide +kernel, rfl, by decide +kernel, by decide +kernel⟩
abbrev s_DataReader___init__ : Stmt := inClass (top 19) 0
abbrev n_DataReader___init__ : List Str := ["self"]
theorem sc_DataReader___init__ : FnScope n_DataReader___init__ ["self"] (defScope s_DataReader___init__) := ⟨rfl, rfl, rfl, by decide +kernel, rfl, by decide +kernel, by decide +kernel⟩
abbrev s_DataReader_item : Stmt := inClass (top 19) 1
abbrev n_DataReader_item : List Str := ["self", "value"]
theorem sc_DataReader_item : FnScope n_DataReader_item ["self", "value"] (defScope s_DataReader_item) := ⟨rfl, rfl, rfl, by decide +kernel, rfl, by decide +kernel, by decide +kernel⟩
abbrev s_DataReader_open_one : Stmt := inClass (top 19) 2
abbrev n_DataReader_open_one : List Str := ["self"]
theorem sc_DataReader_open_one : FnScope n_DataReader_open_one ["self"] (defScope s_DataReader_open_one) := ⟨rfl, rfl, rfl, by decide +kernel, rfl, by decide +kernel, by decide +kernel⟩
abbrev s_DataReader_close_one : Stmt := inClass (top 19) 3
abbrev n_DataReader_close_one : List Str := ["self", "found"]
theorem sc_DataReader_close_one : FnScope n_DataReader_close_one ["self"] (defScope s_DataReader_close_one) := ⟨rfl, rfl, rfl, by decide +kernel, rfl, by decide +kernel, by decide +kernel⟩
abbrev s_DataReader_comma : Stmt := inClass (top 19) 4
abbrev n_DataReader_comma : List Str := ["self"]
theorem sc_DataReader_comma : FnScope n_DataReader_comma ["self"] (defScope s_DataReader_comma) := ⟨rfl, rfl, rfl, by decide +kernel, rfl, by decide +kernel, by decide +kernel⟩
abbrev s_DataReader_take : Stmt := inClass (top 19) 5
abbrev n_DataReader_take : List Str := ["self", "piece"]
theorem sc_DataReader_take : FnScope n_DataReader_take ["self", "piece"] (defScope s_DataReader_take) := ⟨rfl, rfl, rfl, by decide +kernel, rfl, by decide +kernel, by decide +kernel⟩
abbrev s_read_data : Stmt := top 20
abbrev n_read_data : List Str := ["text", "reader", "piece"]
theorem sc_read_data : FnScope n_read_data ["text"] (defScope s_read_data) := ⟨rfl, rfl, rfl, by decide +kernel, rfl, by decide +kernel, by decide +kernel⟩
abbrev s_is_same : Stmt := top 22
abbrev n_is_same : List Str := ["one", "two", "waiting", "first", "second"]
theorem sc_is_same : FnScope n_is_same ["one", "two"] (defScope s_is_same) := ⟨rfl, rfl, rfl, by decide +kernel, rfl, by decide +kernel, by decide +kernel⟩
abbrev s_Reply___init__ : Stmt := inClass (top 23) 0
abbrev n_Reply___init__ : List Str := ["self", "kind", "text", "data"]
theorem sc_Reply___init__ : FnScope n_Reply___init__ ["self", "kind", "text", "data"] (defScope s_Reply___init__) := ⟨rfl, rfl, rfl, by decide +kernel, rfl, by decide +kernel, by decide +kernel⟩
abbrev s_Reply___eq__ : Stmt := inClass (top 23) 1
abbrev n_Reply___eq__ : List Str := ["self", "other"]
theorem sc_Reply___eq__ : FnScope n_Reply___eq__ ["self", "other"] (defScope s_Reply___eq__) := ⟨rfl, rfl, rfl, by decide +kernel, rfl, by decide +kernel, by decide +kernel⟩
abbrev s_is_text : Stmt := top 26
abbrev n_is_text : List Str := ["value"]
theorem sc_is_text : FnScope n_is_text ["value"] (defScope s_is_text) := ⟨rfl, rfl, rfl, by decide +kernel, rfl, by decide +kernel, by decide +kernel⟩
abbrev s_write_diary : Stmt := top 27
abbrev n_write_diary : List Str := ["entries", "found", "entry", "reply", "lines", "line"]
theorem sc_write_diary : FnScope n_write_diary ["entries"] (defScope s_write_diary) := ⟨rfl, rfl, rfl, by decide +kernel, rfl, by decide +kernel, by decide +kernel⟩
abbrev s_read_part : Stmt := top 28
abbrev n_read_part : List Str := ["line", "k", "rest", "kind", "blank", "text", "data"]
theorem sc_read_part : FnScope n_read_part ["line", "k"] (defScope s_read_part) := ⟨rfl, rfl, rfl, by decide +kernel, rfl, by decide +kernel, by decide +kernel⟩
abbrev s_read_diary : Stmt := top 29
abbrev n_read_diary : List Str := ["text", "lines", "parts", "at", "t"]
theorem sc_read_diary : FnScope n_read_diary ["text"] (defScope s_read_diary) := ⟨rfl, rfl, rfl, by decide +kernel, rfl, by decide +kernel, by decide +kernel⟩
abbrev s__law_draw : Stmt := top 31
abbrev n__law_draw : List Str := ["script", "seed", "cell"]
theorem sc__law_draw : FnScope n__law_draw ["script"] (defScope s__law_draw) := ⟨rfl, rfl, rfl, by decide +kernel, rfl, by decide +kernel, by decide +kernel⟩
abbrev s__law_take : Stmt := top 32
abbrev n__law_take : List Str := ["draw", "many", "found"]
theorem sc__law_take : FnScope n__law_take ["draw", "many"] (defScope s__law_take) := ⟨rfl, rfl, rfl, by decide +kernel, rfl, by decide +kernel, by decide +kernel⟩
abbrev s__law_data : Stmt := top 33
abbrev n__law_data : List Str := ["draw", "deep", "turn"]
theorem sc__law_data : FnScope n__law_data ["draw", "deep"] (defScope s__law_data) := ⟨rfl, rfl, rfl, by decide +kernel, rfl, by decide +kernel, by decide +kernel⟩
abbrev s__law_is_word : Stmt := top 34
abbrev n__law_is_word : List Str := ["value", "small", "sign"]
theorem sc__law_is_word : FnScope n__law_is_word ["value"] (defScope s__law_is_word) := ⟨rfl, rfl, rfl, by decide +kernel, rfl, by decide +kernel, by decide +kernel⟩
abbrev s__law_read : Stmt := top 35
abbrev n__law_read : List Str := ["text"]
theorem sc__law_read : FnScope n__law_read ["text"] (defScope s__law_read) := ⟨rfl, rfl, rfl, by decide +kernel, rfl, by decide +kernel, by decide +kernel⟩
abbrev s__law_due : Stmt := top 36
abbrev n__law_due : List Str := ["text", "rows", "found", "part", "k", "row", "turn", "kind", "blank", "rest", "data"]
theorem sc__law_due : FnScope n__law_due ["text"] (defScope s__law_due) := ⟨rfl, rfl, rfl, by decide +kernel, rfl, by decide +kernel, by decide +kernel⟩
abbrev s__law_told : Stmt := top 37
abbrev n__law_told : List Str := ["which", "value", "fault"]
theorem sc__law_told : FnScope n__law_told ["which", "value"] (defScope s__law_told) := ⟨rfl, rfl, rfl, by decide +kernel, rfl, by decide +kernel, by decide +kernel⟩
abbrev s__law_fits : Stmt := top 38
abbrev n__law_fits : List Str := ["told", "due", "k"]
theorem sc__law_fits : FnScope n__law_fits ["told", "due"] (defScope s__law_fits) := ⟨rfl, rfl, rfl, by decide +kernel, rfl, by decide +kernel, by decide +kernel⟩
abbrev s_law : Stmt := top 39
abbrev n_law : List Str := ["script", "draw", "turn", "entries", "text", "k", "line", "kind", "more", "data", "held", "again", "i", "sign", "other", "good", "bads", "bad", "value"]
theorem sc_law : FnScope n_law ["script"] (defScope s_law) := ⟨rfl, rfl, rfl, by decide +kernel, rfl, by decide +kernel, by decide +kernel⟩
theorem lit_0 : Str.ofString "." = tx [46] := by decide +kernel
theorem lit_1 : Str.ofString "+" = tx [43] := by decide +kernel
theorem lit_2 : Str.ofString "-" = tx [45] := by decide +kernel
theorem lit_3 : Str.ofString "no data" = tx [110, 111, 32, 100, 97, 116, 97] := by decide +kernel
theorem lit_4 : Str.ofString "" = tx [] := by decide +kernel
theorem lit_5 : Str.ofString "[" = tx [91] := by decide +kernel
theorem lit_6 : Str.ofString "]" = tx [93] := by decide +kernel
theorem lit_7 : Str.ofString "," = tx [44] := by decide +kernel
theorem lit_8 : Str.ofString "0" = tx [48] := by decide +kernel
theorem lit_9 : Str.ofString "[]," = tx [91, 93, 44] := by decide +kernel
theorem lit_10 : Str.ofString "\n" = tx [10] := by decide +kernel
theorem lit_11 : Str.ofString "no entries" = tx [110, 111, 32, 101, 110, 116, 114, 105, 101, 115] := by decide +kernel
theorem lit_12 : Str.ofString "no entry" = tx [110, 111, 32, 101, 110, 116, 114, 121] := by decide +kernel
theorem lit_13 : Str.ofString "no reply" = tx [110, 111, 32, 114, 101, 112, 108, 121] := by decide +kernel
theorem lit_14 : Str.ofString "> " = tx [62, 32] := by decide +kernel
theorem lit_15 : Str.ofString "# " = tx [35, 32] := by decide +kernel
theorem lit_16 : Str.ofString " " = tx [32] := by decide +kernel
theorem lit_17 : Str.ofString "= " = tx [61, 32] := by decide +kernel
theorem lit_18 : Str.ofString "no text" = tx [110, 111, 32, 116, 101, 120, 116] := by decide +kernel
theorem lit_19 : Str.ofString "row " = tx [114, 111, 119, 32] := by decide +kernel
theorem lit_20 : Str.ofString "a" = tx [97] := by decide +kernel
theorem lit_21 : Str.ofString "x9" = tx [120, 57] := by decide +kernel
theorem lit_22 : Str.ofString "abcdefghijklmnopqrstuvwxyz" = tx [97, 98, 99, 100, 101, 102, 103, 104, 105, 106, 107, 108, 109, 110, 111, 112, 113, 114, 115, 116, 117, 118, 119, 120, 121, 122] := by decide +kernel
theorem lit_23 : Str.ofString "0123456789" = tx [48, 49, 50, 51, 52, 53, 54, 55, 56, 57] := by decide +kernel
theorem lit_24 : Str.ofString ">" = tx [62] := by decide +kernel
theorem lit_25 : Str.ofString "<" = tx [60] := by decide +kernel
theorem lit_26 : Str.ofString "<row " = tx [60, 114, 111, 119, 32] := by decide +kernel
theorem lit_27 : Str.ofString "done" = tx [100, 111, 110, 101] := by decide +kernel
theorem lit_28 : Str.ofString "a\n" = tx [97, 10] := by decide +kernel
theorem lit_29 : Str.ofString "A" = tx [65] := by decide +kernel
theorem lit_30 : Str.ofString "<no text>" = tx [60, 110, 111, 32, 116, 101, 120, 116, 62] := by decide +kernel
theorem lit_31 : Str.ofString "reckon" = tx [114, 101, 99, 107, 111, 110] := by decide +kernel
theorem lit_32 : Str.ofString "# a" = tx [35, 32, 97] := by decide +kernel
theorem lit_33 : Str.ofString "> x" = tx [62, 32, 120] := by decide +kernel
theorem lit_34 : Str.ofString "error" = tx [101, 114, 114, 111, 114] := by decide +kernel
theorem lit_35 : Str.ofString "no" = tx [110, 111] := by decide +kernel
theorem lit_36 : Str.ofString " 1 2" = tx [32, 49, 32, 50] := by decide +kernel
theorem lit_37 : Str.ofString "\n# " = tx [10, 35, 32] := by decide +kernel
theorem lit_38 : Str.ofString "x" = tx [120] := by decide +kernel
theorem lit_39 : Str.ofString "=" = tx [61] := by decide +kernel
theorem lit_40 : Str.ofString "#" = tx [35] := by decide +kernel
theorem lit_41 : Str.ofString "\n= " = tx [10, 61, 32] := by decide +kernel
/-- what the world has -/
structure Txt (K : PySem.W.Frag) (mg : Str → Option Value) (CM : Addr) : Prop where
  x_Malformed : ExcAt K mg "Malformed" CM
  b_abs : mg "abs" = none
  b_all : mg "all" = none
  b_any : mg "any" = none
  b_bool : mg "bool" = none
  b_enumerate : mg "enumerate" = none
  b_int : mg "int" = none
  b_isinstance : mg "isinstance" = none
  b_len : mg "len" = none
  b_list : mg "list" = none
  b_range : mg "range" = none
  b_str : mg "str" = none
  b_tuple : mg "tuple" = none
  g_DIGITS : ∃ u, mg "DIGITS" = some u ∧ RelV (.str "0123456789") u
  g_LETTERS : ∃ u, mg "LETTERS" = some u ∧ RelV (.str "abcdefghijklmnopqrstuvwxyz") u
  -- MARKS : ('> ', '= ', '# ')
  g_MOST_DEPTH : ∃ u, mg "MOST_DEPTH" = some u ∧ RelV (.int 1000) u
  g_MOST_DIGITS : ∃ u, mg "MOST_DIGITS" = some u ∧ RelV (.int 4000) u
  g_MOST_WORD : ∃ u, mg "MOST_WORD" = some u ∧ RelV (.int 12) u
end K66

namespace K66
open PySem PySem.Spec PyProof.Rows L2 KX M53 KM
local macro_rules | `(tactic| walk_at "kx1") => `(tactic| first
  | (with_reducible refine q_seq ?_) | (with_reducible refine q_ifs ?_) | (with_reducible refine q_asg ?_) | (with_reducible refine q_gname ?_) | (with_reducible refine q_ret ?_)
  | (with_reducible refine q_drop ?_) | (with_reducible refine q_next ?_) | (with_reducible refine q_par ?_) | (with_reducible refine q_sfld ?_) | (with_reducible refine q_rs ?_) | (with_reducible refine q_gsub ?_) | (with_reducible refine q_retN ?_)
  | ((with_reducible show tVar _ _ _ _); (refine q_var rfl ?_)) | (with_reducible refine q_c ?_) | (with_reducible refine q_op ?_) | (with_reducible refine q_un ?_) | (with_reducible refine q_neg ?_) | (with_reducible refine q_cb ?_)
  | (with_reducible refine q_nil ?_) | (with_reducible refine q_cons ?_) | (with_reducible refine q_tup ?_) | (with_reducible refine q_lst ?_) | (with_reducible refine q_if ?_)
  | (with_reducible refine q_notT ?_) | (with_reducible refine q_call ?_) | (with_reducible refine q_callS ?_) | (with_reducible refine q_fld ?_)
  | (with_reducible refine q_bm ?_) | (with_reducible refine q_bm0 ?_) | (with_reducible refine q_sl ?_) | (with_reducible refine q_nopart ?_) | (with_reducible refine q_part ?_) | (with_reducible refine q_meth ?_) | (with_reducible refine q_make ?_)
  | (with_reducible refine q_test ?_) | (with_reducible refine q_tB ?_) | (with_reducible refine q_tru ?_) | (with_reducible refine q_not ?_)
  | (with_reducible refine q_blk ?_) | (with_reducible refine q_tv ?_) | (with_reducible refine q_addI ?_) | (with_reducible refine q_subI ?_) | (with_reducible refine q_eqI ?_) | (with_reducible refine q_neI ?_)
  | (with_reducible refine q_for ?_) | (with_reducible refine q_lc ?_) | (with_reducible refine q_iList ?_) | (with_reducible refine q_iTup ?_) | (with_reducible refine q_iStr ?_) | (with_reducible refine q_iRng1 ?_) | (with_reducible refine q_iRng2 ?_) | (with_reducible refine q_iRng3 ?_) | (with_reducible refine q_gcons ?_) | (with_reducible refine q_gnil ?_) | (with_reducible refine q_yes ?_) | (with_reducible refine q_ltI ?_) | (with_reducible refine q_iEnumS ?_) | (with_reducible refine q_pi ?_) | (with_reducible refine q_leI ?_) | (with_reducible refine q_gtI ?_) | (with_reducible refine q_geI ?_) | (with_reducible refine q_leT ?_) | (with_reducible refine q_intI ?_) | (with_reducible refine q_abs ?_) | (with_reducible refine q_eqT ?_) | (with_reducible refine q_neT ?_) | (with_reducible refine q_rsM ?_) | (with_reducible refine q_par3 ?_) | (with_reducible refine q_isN ?_) | (with_reducible refine q_notN ?_))
local macro_rules | `(tactic| walk_at "kx") => `(tactic| repeat walk_at "kx1")
local macro_rules | `(tactic| walk_at "kxs") => `(tactic| repeat (first | walk_at "kx1" | (with_reducible refine q_andT ?_) | (with_reducible refine q_orT ?_) | (with_reducible refine q_chain ?_) | (with_reducible refine q_and ?_) | (with_reducible refine q_or ?_)))
local macro_rules | `(tactic| walk_at "lits") => `(tactic| simp only [lit_0, lit_1, lit_2, lit_3, lit_4, lit_5, lit_6, lit_7, lit_8, lit_9, lit_10, lit_11, lit_12, lit_13, lit_14, lit_15, lit_16, lit_17, lit_18, lit_19, lit_20, lit_21, lit_22, lit_23, lit_24, lit_25, lit_26, lit_27, lit_28, lit_29, lit_30, lit_31, lit_32, lit_33, lit_34, lit_35, lit_36, lit_37, lit_38, lit_39, lit_40, lit_41])

section
variable {P : Program} {w : World} {K : PySem.W.Frag} {mg : Str → Option Value} {base : Heap} {CM : Addr}
def spIsWhole (K : PySem.W.Frag) : Sp := fun vs H Q _ => ∃ v d, vs = [v] ∧ Dp K H v d ∧ Q (.bl (isIntD d && !isBoolD d)) H
theorem ok_is_whole {f : Addr} {fd : FuncData} (D : DefAt K mg "is_whole" s_is_whole f fd ["value"]) (T : Txt K mg CM) : FnOk P w K mg base CX0 1 f fd ["value"] (spIsWhole K) := by
  refine D.fn.ok sc_is_whole (fun vs H Q E h => ?_) (fun cdv A outer s H vs Q E hr h => ?_)
  · obtain ⟨v, d, rfl, _⟩ := h
    rfl
  · obtain ⟨v, d, rfl, hd, q⟩ := h
    refine ⟨_, (pss_one (ps_ret (w_and (K := K) (pe_callB (w_isi (K := K)) rfl T.b_isinstance bb_isinstance (pa_cons (pv 0) (pa_cons (pe_bltn (v := V.ty "int") rfl T.b_int bb_int rfl) pa_nil))) (pe_one (w_not (K := K) (pe_callB (w_isi (K := K)) rfl T.b_isinstance bb_isinstance (pa_cons (pv 0) (pa_cons (pe_bltn (v := V.ty "bool") rfl T.b_bool bb_bool rfl) pa_nil)))))))), ?_⟩
    walk_at "kxs"
    refine is_int hd ?_
    walk_at "kxs"
    refine ifT (fun h1 => ?_) (fun h1 => ?_)
    · walk_at "kxs"
      refine is_bool hd ?_
      walk_at "kxs"
      rw [h1] at q
      exact q
    · rw [h1] at q ⊢
      exact q
def spIsWord (K : PySem.W.Frag) : Sp := fun vs H Q _ => ∃ v d, vs = [v] ∧ Dp K H v d ∧ (∀ s, d = .str s → s.length ≤ sizeLine) ∧ ∀ H', Ex H H' → Q (.bl (wordD d)) H'
theorem word_ev (K : PySem.W.Frag) (v : V) (c : Nat) (H : Hp) :
    Evl.Ev (tOrT K (tOp (rInU K) (tVar 1) (tC (V.str (Str.ofString "abcdefghijklmnopqrstuvwxyz")))) (tOp (rInU K) (tVar 1) (tC (V.str (Str.ofString "0123456789"))))) [some v, some (.str (tx [c]))] H (.bl (wordc c)) := by
  intro H1 e1 Q q
  have q0 := q H1 (Evl.Ex.refl H1)
  walk_at "kxs"
  refine q_inS (in_letters c) ?_
  walk_at "kxs"
  unfold wordc at q0
  refine ifT (fun h => ?_) (fun h => ?_)
  · rw [h] at q0 ⊢
    exact q0
  · walk_at "kxs"
    refine q_inS (in_digits c) ?_
    rw [h] at q0
    exact q0
theorem ok_is_word {f : Addr} {fd : FuncData} (D : DefAt K mg "is_word" s_is_word f fd ["value"]) (T : Txt K mg CM) : FnOk P w K mg base CX0 1 f fd ["value"] (spIsWord K) := by
  refine D.fn.ok sc_is_word (fun vs H Q E h => ?_) (fun cdv A outer s H vs Q E hr h => ?_)
  · obtain ⟨v, d, rfl, _⟩ := h
    rfl
  · obtain ⟨v, d, rfl, hd, hz, q⟩ := h
    have hu := u65 hr
    refine ⟨_, (pss_cons (ps_if (PW.pt (pw_or (pt_not (w_tru (K := K) (pe_callB (w_isi (K := K)) rfl T.b_isinstance bb_isinstance (pa_cons (pv 0) (pa_cons (pe_bltn (v := V.ty "str") rfl T.b_str bb_str rfl) pa_nil))))) (pw_or (pt_not (pt_chain k_le k_le pe_int (pe_callB (w_len (K := K)) rfl T.b_len bb_len (pa_cons (pv 0) pa_nil)) (k_glob rfl T.g_MOST_WORD))) (pw_or1 (pt_cmpR (w_notin (K := K) hu) (pe_ix (w_ix (K := K)) (pv 0) pe_int (fun _ _ => rfl)) (k_glob rfl T.g_LETTERS) (by rfl)))))) (pss_one (ps_ret pe_bl)) pss_nil)
      (pss_one (ps_ret (pe_callB (w_all (K := K) rfl) rfl T.b_all bb_all (pa_cons (pe_lc (own := [("sign", 1)]) rfl sc_is_word.nd (pi_str (pv 0)) (blkOk_by (N := n_is_word) (sc := defScope s_is_word) (by decide +kernel)) (fun _ _ _ _ _ => (pg_name (i := 1) sc_is_word.nd rfl (Or.inl rfl))) (fun _ _ _ _ _ => pts_nil) (fun _ _ _ _ _ => (w_or (K := K) (pe_cmpR (w_in (K := K) hu) (pv 1) (k_glob rfl T.g_LETTERS) (by rfl)) (pe_one (pe_cmpR (w_in (K := K) hu) (pv 1) (k_glob rfl T.g_DIGITS) (by rfl)))))) pa_nil))))), ?_⟩
    walk_at "kxs"
    refine is_str hd ?_
    walk_at "kxs"
    by_cases hs : ∃ s, d = .str s
    · obtain ⟨s0, rfl⟩ := hs
      cases hd
      obtain ⟨l, rfl⟩ : ∃ l, s0 = tx l := ⟨_, (tx_of s0).symm⟩
      have hl : l.length ≤ sizeLine := by rw [← tx_len]; exact hz _ rfl
      have ew : wordD (.str (tx l)) = isWord l := by simp only [wordD, tx_list]
      rw [ew] at q
      have no : isWord l = false → Q (.bl false) H := fun e => by rw [e] at q; exact q H (Evl.Ex.refl H)
      refine ifF rfl ?_
      walk_at "kxs"
      refine q_lenS hl ?_
      walk_at "kxs"
      refine ifT (fun h1 => ?_) (fun h1 => ?_)
      · walk_at "kxs"
        refine ifT (fun h2 => ?_) (fun h2 => ?_)
        · refine ifY rfl ?_
          walk_at "kxs"
          refine no ?_
          have h3 : decide (l.length ≤ 12) = false := by
            have := of_decide_eq_false (Bool.not_eq_true' _ |>.mp h2)
            exact decide_eq_false (by omega)
          unfold isWord
          rw [h3, Bool.and_false, Bool.false_and]
        · have h1' := of_decide_eq_true h1
          have h2' : l.length ≤ 12 := by
            have := of_decide_eq_true (by simpa using h2 : decide ((l.length : Int) ≤ 12) = true)
            omega
          obtain ⟨c, r, rfl⟩ : ∃ c r, l = c :: r := by
            cases l with
            | nil => simp at h1'
            | cons c r => exact ⟨c, r, rfl⟩
          have e0 : isWord (c :: r) = (low c && (c :: r).all wordc) := by
            unfold isWord
            rw [decide_eq_true h2', decide_eq_true (show 1 ≤ (c :: r).length by simp), Bool.and_self, Bool.true_and]
            rfl
          walk_at "kxs"
          refine q_ixS (i := 0) (c := c) hl rfl ?_
          walk_at "kxs"
          refine q_ninS (in_letters c) ?_
          walk_at "kxs"
          refine ifT (fun h3 => ?_) (fun h3 => ?_)
          · walk_at "kxs"
            refine no ?_
            rw [e0, (by simpa using h3 : low c = false), Bool.false_and]
          · walk_at "kxs"
            refine ⟨_, rfl, ?_⟩
            refine lc_str (by omega) (fun c => .bl (wordc c)) (fun _ => rfl) (fun c _ => word_ev K _ c H) (fun p H' hp he e => ?_)
            walk_at "kxs"
            refine q_all (bs := (c :: r).map wordc) (by rw [e, List.map_map]; rfl) ?_
            have e1 : ((c :: r).map wordc).all id = (c :: r).all wordc := by rw [List.all_map]; rfl
            rw [e1]
            rw [e0, (by simpa using h3 : low c = true), Bool.true_and] at q
            exact q H' he
      · walk_at "kxs"
        refine ifY rfl (ifY rfl ?_)
        walk_at "kxs"
        refine no ?_
        have h3 : decide (1 ≤ l.length) = false := by
          have := of_decide_eq_false h1
          exact decide_eq_false (by omega)
        unfold isWord
        rw [h3, Bool.false_and, Bool.false_and]
    · have e : isStrD d = false := by
        cases d with
        | str s => exact absurd ⟨s, rfl⟩ hs
        | _ => rfl
      have e2 : wordD d = false := by
        cases d with
        | str s => exact absurd ⟨s, rfl⟩ hs
        | _ => rfl
      refine ifY (by rw [e]; rfl) (ifY rfl ?_)
      walk_at "kxs"
      rw [e2] at q
      exact q H (Evl.Ex.refl H)
end
end K66

namespace K66
open PySem PySem.Spec PyProof.Rows L2 KX M53 KM
local macro_rules | `(tactic| walk_at "kx1") => `(tactic| first
  | (with_reducible refine q_seq ?_) | (with_reducible refine q_ifs ?_) | (with_reducible refine q_asg ?_) | (with_reducible refine q_gname ?_) | (with_reducible refine q_ret ?_)
  | (with_reducible refine q_drop ?_) | (with_reducible refine q_next ?_) | (with_reducible refine q_par ?_) | (with_reducible refine q_sfld ?_) | (with_reducible refine q_rs ?_) | (with_reducible refine q_gsub ?_) | (with_reducible refine q_retN ?_)
  | ((with_reducible show tVar _ _ _ _); (refine q_var rfl ?_)) | (with_reducible refine q_c ?_) | (with_reducible refine q_op ?_) | (with_reducible refine q_un ?_) | (with_reducible refine q_neg ?_) | (with_reducible refine q_cb ?_)
  | (with_reducible refine q_nil ?_) | (with_reducible refine q_cons ?_) | (with_reducible refine q_tup ?_) | (with_reducible refine q_lst ?_) | (with_reducible refine q_if ?_)
  | (with_reducible refine q_notT ?_) | (with_reducible refine q_call ?_) | (with_reducible refine q_callS ?_) | (with_reducible refine q_fld ?_)
  | (with_reducible refine q_bm ?_) | (with_reducible refine q_bm0 ?_) | (with_reducible refine q_sl ?_) | (with_reducible refine q_nopart ?_) | (with_reducible refine q_part ?_) | (with_reducible refine q_meth ?_) | (with_reducible refine q_make ?_)
  | (with_reducible refine q_test ?_) | (with_reducible refine q_tB ?_) | (with_reducible refine q_tru ?_) | (with_reducible refine q_not ?_)
  | (with_reducible refine q_blk ?_) | (with_reducible refine q_tv ?_) | (with_reducible refine q_addI ?_) | (with_reducible refine q_subI ?_) | (with_reducible refine q_eqI ?_) | (with_reducible refine q_neI ?_)
  | (with_reducible refine q_for ?_) | (with_reducible refine q_lc ?_) | (with_reducible refine q_iList ?_) | (with_reducible refine q_iTup ?_) | (with_reducible refine q_iStr ?_) | (with_reducible refine q_iRng1 ?_) | (with_reducible refine q_iRng2 ?_) | (with_reducible refine q_iRng3 ?_) | (with_reducible refine q_gcons ?_) | (with_reducible refine q_gnil ?_) | (with_reducible refine q_yes ?_) | (with_reducible refine q_ltI ?_) | (with_reducible refine q_iEnumS ?_) | (with_reducible refine q_pi ?_) | (with_reducible refine q_leI ?_) | (with_reducible refine q_gtI ?_) | (with_reducible refine q_geI ?_) | (with_reducible refine q_leT ?_) | (with_reducible refine q_intI ?_) | (with_reducible refine q_abs ?_) | (with_reducible refine q_eqT ?_) | (with_reducible refine q_neT ?_) | (with_reducible refine q_rsM ?_) | (with_reducible refine q_par3 ?_) | (with_reducible refine q_isN ?_) | (with_reducible refine q_notN ?_))
local macro_rules | `(tactic| walk_at "kx") => `(tactic| repeat walk_at "kx1")
local macro_rules | `(tactic| walk_at "kxs") => `(tactic| repeat (first | walk_at "kx1" | (with_reducible refine q_andT ?_) | (with_reducible refine q_orT ?_) | (with_reducible refine q_chain ?_) | (with_reducible refine q_and ?_) | (with_reducible refine q_or ?_)))
local macro_rules | `(tactic| walk_at "lits") => `(tactic| simp only [lit_0, lit_1, lit_2, lit_3, lit_4, lit_5, lit_6, lit_7, lit_8, lit_9, lit_10, lit_11, lit_12, lit_13, lit_14, lit_15, lit_16, lit_17, lit_18, lit_19, lit_20, lit_21, lit_22, lit_23, lit_24, lit_25, lit_26, lit_27, lit_28, lit_29, lit_30, lit_31, lit_32, lit_33, lit_34, lit_35, lit_36, lit_37, lit_38, lit_39, lit_40, lit_41])

section
variable {P : Program} {w : World} {K : PySem.W.Frag} {mg : Str → Option Value} {base : Heap} {CM : Addr}
theorem p10_lt (k : Nat) : (10 : Nat) ^ k < 2 ^ (4 * k + 1) := by
  have h : (10 : Nat) ^ k ≤ 16 ^ k := Nat.pow_le_pow_left (by decide) k
  have e : (16 : Nat) ^ k = 2 ^ (4 * k) := by rw [Nat.pow_mul]
  rw [e] at h
  exact Nat.lt_of_le_of_lt h (Nat.pow_lt_pow_right (by decide) (by omega))
theorem p10_log (k : Nat) : ((10 : Int) ^ k).natAbs.log2 < 4 * k + 1 := by
  have e : ((10 : Int) ^ k).natAbs = 10 ^ k := by rw [Int.natAbs_pow]; rfl
  rw [e]
  exact (Nat.log2_lt (Nat.ne_of_gt (Nat.pow_pos (by decide)))).mpr (p10_lt k)
theorem between (i : Int) (n : Nat) : (decide (-((n : Nat) : Int) < i) && decide (i < (n : Int))) = decide (i.natAbs < n) := by
  rw [← Bool.decide_and, decide_eq_decide]
  omega
theorem p10_cast (k : Nat) : ((10 : Int) ^ k) = (((10 : Nat) ^ k : Nat) : Int) := by rw [Int.natCast_pow]; rfl
def spIsShort (K : PySem.W.Frag) : Sp := fun vs H Q _ => ∃ v d, vs = [v] ∧ Dp K H v d ∧ Q (.bl (shortD d)) H
theorem ok_is_short {f g : Addr} {fd gd : FuncData} (D : DefAt K mg "is_short" s_is_short f fd ["value"]) (T : Txt K mg CM) (D_is_whole : DefAt K mg "is_whole" s_is_whole g gd ["value"]) :
    FnOk P w K mg base CX0 2 f fd ["value"] (spIsShort K) := by
  have G_is_whole : FnOk P w K mg base CX0 1 g gd ["value"] (spIsWhole K) := ok_is_whole D_is_whole T
  refine D.fn.ok sc_is_short (fun vs H Q E h => ?_) (fun cdv A outer s H vs Q E hr h => ?_)
  · obtain ⟨v, d, rfl, _⟩ := h
    rfl
  · obtain ⟨v, d, rfl, hd, q⟩ := h
    refine ⟨_, (pss_cons (ps_if (pt_not (w_tru (K := K) (pe_call G_is_whole (hr.mono (by decide)) rfl D_is_whole.g D_is_whole.kp D_is_whole.b .nil pass0 (pa_cons (pv 0) pa_nil)))) (pss_one (ps_ret pe_bl)) pss_nil)
      (pss_cons (ps_set (i := 1) sc_is_short.nd rfl (Or.inl rfl) (pe_op op_pow pe_int pe_int))
      (pss_cons (ps_if (pt_chain k_lt k_lt (pe_un un_neg (pv 1)) (pv 0) (pv 1)) (pss_one (ps_ret pe_bl)) pss_nil)
      (pss_cons (ps_for PassesOwn.never rfl (pi_range1 rfl T.b_range (pa_cons (pe_op op_sub (pe_op op_fdiv (k_glob rfl T.g_MOST_DIGITS) pe_int) pe_int) pa_nil)) (pg_name (i := 2) sc_is_short.nd rfl (Or.inl rfl)) (pss_one (ps_aug (i := 1) sc_is_short.nd rfl (Or.inl rfl) (pe_op op_pow pe_int pe_int) (pip_of k_imul))))
      (pss_one (ps_ret (pe_chain k_lt k_lt (pe_un un_neg (pv 1)) (pv 0) (pv 1)))))))), ?_⟩
    walk_at "kx"
    refine ⟨v, d, rfl, hd, ?_⟩
    walk_at "kx"
    by_cases hs : ∃ i, d = .int i
    · obtain ⟨i, rfl⟩ := hs
      cases hd
      refine ifF rfl ?_
      walk_at "kx"
      refine q_pow ⟨by decide, by decide, by decide⟩ ?_
      walk_at "kx"
      have pc : ∀ (k : Nat) (v2 : Option V) (H : Hp), Pu (tChain rLtU rLtU (tUn (rU fun i => V.int (-i)) (tVar 1)) (tVar 0) (tVar 1)) [some (.int i), some (.int ((10 : Int) ^ k)), v2] H (.bl (decide (i.natAbs < 10 ^ k))) := by
        intro k v2 H R q
        refine q_chainLt (i := -((10 : Int) ^ k)) (j := i) (k := (10 : Int) ^ k) (fun R q => ?_) (fun R q => ?_) (fun R q => ?_) ?_
        · walk_at "kx"
          exact q
        · walk_at "kx"
          exact q
        · walk_at "kx"
          exact q
        · rw [p10_cast, between]
          exact q
      refine pc 32 none H _ ?_
      walk_at "kx"
      have pin : ∀ k, k ≤ 4000 → i.natAbs < 10 ^ k → shortD (.int i) = true := fun k h1 h2 =>
        decide_eq_true (Nat.lt_of_lt_of_le h2 (Nat.pow_le_pow_right (by decide) h1))
      refine ifT (fun h1 => ?_) (fun h1 => ?_)
      · walk_at "kx"
        rw [pin 32 (by decide) (of_decide_eq_true h1)] at q
        exact q
      · walk_at "kx"
        refine q_fdiv (by decide) (by decide) ?_
        walk_at "kx"
        refine ⟨_, rfl, by decide, by decide, ?_⟩
        refine fo_range (fun n σ H' => H' = H ∧ ∃ v2, σ = [some (.int i), some (.int ((10 : Int) ^ (32 * (n + 1)))), v2]) ⟨rfl, none, rfl⟩ ?_ ?_
        · rintro n σ H' hn ⟨rfl, v2, rfl⟩
          have hn2 : n < 124 := hn
          walk_at "kx"
          refine q_aug rfl ?_
          walk_at "kx"
          refine q_pow ⟨by decide, by decide, by decide⟩ ?_
          refine .inr ⟨_, _, rfl, rfl, ?_, ?_⟩
          · have a1 := p10_log (32 * (n + 1))
            have a2 := p10_log 32
            show ((10 : Int) ^ (32 * (n + 1))).natAbs.log2 + ((10 : Int) ^ 32).natAbs.log2 < 1000000
            omega
          · refine ⟨rfl, some (.int (0 + (n : Nat))), ?_⟩
            have e : (10 : Int) ^ (32 * (n + 1)) * 10 ^ 32 = 10 ^ (32 * (n + 1 + 1)) := by rw [← Int.pow_add, ← Nat.mul_succ]
            show _ = [some (V.int i), some (V.int ((10 : Int) ^ (32 * (n + 1 + 1)))), some (.int (0 + (n : Nat)))]
            rw [← e]
            rfl
        · rintro σ H' ⟨rfl, v2, rfl⟩
          walk_at "kx"
          refine pc 4000 v2 _ _ ?_
          exact q
    · have e : (isIntD d && !isBoolD d) = false := by
        cases d with
        | int i => exact absurd ⟨i, rfl⟩ hs
        | _ => rfl
      have e2 : shortD d = false := by
        cases d with
        | int i => exact absurd ⟨i, rfl⟩ hs
        | _ => rfl
      refine ifY (by rw [e]; rfl) ?_
      walk_at "kx"
      rw [e2] at q
      exact q
end
end K66

namespace K66
open PySem PySem.Spec PyProof.Rows L2 KX M53 KM
local macro_rules | `(tactic| walk_at "kx1") => `(tactic| first
  | (with_reducible refine q_seq ?_) | (with_reducible refine q_ifs ?_) | (with_reducible refine q_asg ?_) | (with_reducible refine q_gname ?_) | (with_reducible refine q_ret ?_)
  | (with_reducible refine q_drop ?_) | (with_reducible refine q_next ?_) | (with_reducible refine q_par ?_) | (with_reducible refine q_sfld ?_) | (with_reducible refine q_rs ?_) | (with_reducible refine q_gsub ?_) | (with_reducible refine q_retN ?_)
  | ((with_reducible show tVar _ _ _ _); (refine q_var rfl ?_)) | (with_reducible refine q_c ?_) | (with_reducible refine q_op ?_) | (with_reducible refine q_un ?_) | (with_reducible refine q_neg ?_) | (with_reducible refine q_cb ?_)
  | (with_reducible refine q_nil ?_) | (with_reducible refine q_cons ?_) | (with_reducible refine q_tup ?_) | (with_reducible refine q_lst ?_) | (with_reducible refine q_if ?_)
  | (with_reducible refine q_notT ?_) | (with_reducible refine q_call ?_) | (with_reducible refine q_callS ?_) | (with_reducible refine q_fld ?_)
  | (with_reducible refine q_bm ?_) | (with_reducible refine q_bm0 ?_) | (with_reducible refine q_sl ?_) | (with_reducible refine q_nopart ?_) | (with_reducible refine q_part ?_) | (with_reducible refine q_meth ?_) | (with_reducible refine q_make ?_)
  | (with_reducible refine q_test ?_) | (with_reducible refine q_tB ?_) | (with_reducible refine q_tru ?_) | (with_reducible refine q_not ?_)
  | (with_reducible refine q_blk ?_) | (with_reducible refine q_tv ?_) | (with_reducible refine q_addI ?_) | (with_reducible refine q_subI ?_) | (with_reducible refine q_eqI ?_) | (with_reducible refine q_neI ?_)
  | (with_reducible refine q_for ?_) | (with_reducible refine q_lc ?_) | (with_reducible refine q_iList ?_) | (with_reducible refine q_iTup ?_) | (with_reducible refine q_iStr ?_) | (with_reducible refine q_iRng1 ?_) | (with_reducible refine q_iRng2 ?_) | (with_reducible refine q_iRng3 ?_) | (with_reducible refine q_gcons ?_) | (with_reducible refine q_gnil ?_) | (with_reducible refine q_yes ?_) | (with_reducible refine q_ltI ?_) | (with_reducible refine q_iEnumS ?_) | (with_reducible refine q_pi ?_) | (with_reducible refine q_leI ?_) | (with_reducible refine q_gtI ?_) | (with_reducible refine q_geI ?_) | (with_reducible refine q_leT ?_) | (with_reducible refine q_intI ?_) | (with_reducible refine q_abs ?_) | (with_reducible refine q_eqT ?_) | (with_reducible refine q_neT ?_) | (with_reducible refine q_rsM ?_) | (with_reducible refine q_par3 ?_) | (with_reducible refine q_isN ?_) | (with_reducible refine q_notN ?_))
local macro_rules | `(tactic| walk_at "kx") => `(tactic| repeat walk_at "kx1")
local macro_rules | `(tactic| walk_at "kxs") => `(tactic| repeat (first | walk_at "kx1" | (with_reducible refine q_andT ?_) | (with_reducible refine q_orT ?_) | (with_reducible refine q_chain ?_) | (with_reducible refine q_and ?_) | (with_reducible refine q_or ?_)))
local macro_rules | `(tactic| walk_at "lits") => `(tactic| simp only [lit_0, lit_1, lit_2, lit_3, lit_4, lit_5, lit_6, lit_7, lit_8, lit_9, lit_10, lit_11, lit_12, lit_13, lit_14, lit_15, lit_16, lit_17, lit_18, lit_19, lit_20, lit_21, lit_22, lit_23, lit_24, lit_25, lit_26, lit_27, lit_28, lit_29, lit_30, lit_31, lit_32, lit_33, lit_34, lit_35, lit_36, lit_37, lit_38, lit_39, lit_40, lit_41])

section
variable {P : Program} {w : World} {K : PySem.W.Frag} {mg : Str → Option Value} {base : Heap} {CM : Addr}
def spAtom (K : PySem.W.Frag) (CM : Addr) : Sp := fun vs H Q E => ∃ v d, vs = [v] ∧ Dp K H v d ∧ (∀ s, d = .str s → s.length ≤ sizeLine) ∧
  (∀ t, atomT d = some t → ∀ H', Ex H H' → Q (.str (tx t)) H') ∧ (atomT d = none → ∀ H', Ex H H' → E (.str (tx [110, 111, 32, 100, 97, 116, 97]) 0) none H')
theorem ok_atom_text {f f1 f2 f3 : Addr} {fd fd1 fd2 fd3 : FuncData} (D : DefAt K mg "atom_text" s_atom_text f fd ["value"]) (T : Txt K mg CM) (nd : base.NoDigits)
    (D_is_whole : DefAt K mg "is_whole" s_is_whole f1 fd1 ["value"]) (D_is_word : DefAt K mg "is_word" s_is_word f2 fd2 ["value"]) (D_is_short : DefAt K mg "is_short" s_is_short f3 fd3 ["value"]) :
    FnOk P w K mg base (KM.CM CM P w) 3 f fd ["value"] (spAtom K CM) := by
  have G_is_word : FnOk P w K mg base CX0 1 f2 fd2 ["value"] (spIsWord K) := ok_is_word D_is_word T
  have G_is_short : FnOk P w K mg base CX0 2 f3 fd3 ["value"] (spIsShort K) := ok_is_short D_is_short T D_is_whole
  refine okM D.fn sc_atom_text (fun vs H Q E h => ?_) (fun cdv A outer s H vs Q E hr h => ?_)
  · obtain ⟨v, d, rfl, _⟩ := h
    rfl
  · obtain ⟨v, d, rfl, hd, hz, q, qE⟩ := h
    have hu := u65 hr
    have hr1 : Room 1 _ := hr.mono (by decide)
    refine ⟨_, (pss_cons (ps_if (w_tru (K := K) (pe_callB (w_isi (K := K)) rfl T.b_isinstance bb_isinstance (pa_cons (pv 0) (pa_cons (pe_bltn (v := V.ty "bool") rfl T.b_bool bb_bool rfl) pa_nil)))) (pss_one (ps_ret (pe_ifExp (w_tru (K := K) (pv 0)) pe_str pe_str))) pss_nil)
      (pss_cons (ps_if (PW.pt (pw_and (pt_not (w_tru (K := K) (pe_call G_is_word (hr.mono (by decide)) rfl D_is_word.g D_is_word.kp D_is_word.b .nil pass0 (pa_cons (pv 0) pa_nil)))) (pw_and (pt_not (w_tru (K := K) (pe_call G_is_short (hr.mono (by decide)) rfl D_is_short.g D_is_short.kp D_is_short.b .nil pass0 (pa_cons (pv 0) pa_nil)))) (pw_and1 (pt_not (PW.pt (pw_and (w_tru (K := K) (pe_callB (w_isi (K := K)) rfl T.b_isinstance bb_isinstance (pa_cons (pv 0) (pa_cons (pe_bltn (v := V.ty "str") rfl T.b_str bb_str rfl) pa_nil)))) (pw_and1 (pt_cmpR (w_eq (K := K) hu) (pv 0) pe_str (nomark _)))))))))) (pss_one (ps_raiseM rfl tkM (pmkM T.x_Malformed rfl pe_str))) pss_nil)
      (pss_one (ps_ret (pe_ifExp (pt_cmpR (w_ne (K := K) hu) (pv 0) pe_str (nomark _)) (pe_callTy (kx_str rfl nd) rfl T.b_str bb_str (pa_cons (pv 0) pa_nil)) pe_str))))), ?_⟩
    walk_at "lits"
    walk_at "kx"
    refine is_bool hd ?_
    walk_at "kx"
    by_cases hb : isBoolD d = true
    · cases d with
      | bool b =>
        cases hd
        refine ifY rfl ?_
        walk_at "kx"
        refine ifT (fun h1 => ?_) (fun h1 => ?_)
        · subst h1
          exact q _ rfl H (Evl.Ex.refl H)
        · subst h1
          exact q _ rfl H (Evl.Ex.refl H)
      | _ => cases hb
    · have hb' : isBoolD d = false := by simpa using hb
      refine ifF hb' ?_
      have rest : ∀ H1, Ex H H1 → (atomT d).isSome = true → tRet (tIf (tTest (tOp (rNeU K) (tVar 0) (tC (V.str (tx []))))) (tCB rStr (tCons (tVar 0) tNil)) (tC (V.str (tx [46]))))
          { nx := fun x H' => Q V.non H', rt := Q } (L2.start n_atom_text [v]) H1 := by
        intro H1 e1 hs
        cases d with
        | int i =>
          cases hd
          have hi : i.natAbs < 10 ^ 4000 := by
            by_cases h : i.natAbs < 10 ^ 4000
            · exact h
            · rw [atom_int, if_neg h] at hs
              cases hs
          have ha : atomT (.int i) = some (itxt i) := if_pos hi
          walk_at "kx"
          refine q_neNS ?_
          walk_at "kx"
          refine ifY rfl ?_
          walk_at "kx"
          refine .inl ⟨i, rfl, Nat.lt_of_lt_of_le hi (Nat.pow_le_pow_right (by decide) (by decide)), ?_⟩
          rw [tx_int]
          exact q _ ha H1 e1
        | str s0 =>
          cases hd
          obtain ⟨l, rfl⟩ : ∃ l, s0 = tx l := ⟨_, (tx_of s0).symm⟩
          have ha : atomT (.str (tx l)) = if l = [] then some [46] else if isWord l then some l else none := by simp only [atomT, tx_list]
          rw [ha] at hs q
          walk_at "kx"
          by_cases hl : l = []
          · subst hl
            refine ifF rfl ?_
            walk_at "kx"
            exact q _ rfl H1 e1
          · refine ifY (by rw [decide_eq_false hl]; rfl) ?_
            walk_at "kx"
            refine .inr (.inr ⟨tx l, rfl, ?_⟩)
            rw [if_neg hl] at hs q
            by_cases hw : isWord l = true
            · rw [if_pos hw] at q
              exact q _ rfl H1 e1
            · rw [if_neg hw] at hs
              cases hs
        | bool b => cases hb'
        | none => cases hs
        | list ds => cases hs
        | tuple ds => cases hs
        | dict ds => cases hs
      walk_at "kxs"
      refine ⟨v, d, rfl, hd, hz, fun H1 e1 => ?_⟩
      walk_at "kx"
      refine ifT (fun h1 => ?_) (fun h1 => ?_)
      · have hw : wordD d = false := by simpa using h1
        walk_at "kxs"
        refine ⟨v, d, rfl, dp_ex e1 hd, ?_⟩
        walk_at "kx"
        refine ifT (fun h2 => ?_) (fun h2 => ?_)
        · have hsh : shortD d = false := by simpa using h2
          walk_at "kxs"
          refine is_str (dp_ex e1 hd) ?_
          walk_at "kx"
          have bad : atomT d = none → ∀ {D : Ends} {σ : L2.St}, tRsM (tMk (tC (V.str (tx [110, 111, 32, 100, 97, 116, 97])))) (fun cls d _ H => E cls d H) D σ H1 := fun e => rsM_c (qE e H1 e1)
          cases d with
          | str s0 =>
            cases hd
            obtain ⟨l, rfl⟩ : ∃ l, s0 = tx l := ⟨_, (tx_of s0).symm⟩
            have ha : atomT (.str (tx l)) = if l = [] then some [46] else if isWord l then some l else none := by simp only [atomT, tx_list]
            have hw' : isWord l = false := by simpa only [wordD, tx_list] using hw
            refine ifY rfl ?_
            walk_at "kx"
            by_cases hl : l = []
            · subst hl
              refine ifF rfl ?_
              exact rest H1 e1 (by rw [ha]; rfl)
            · refine ifY (by rw [decide_eq_false hl]; rfl) ?_
              exact bad (by rw [ha, if_neg hl, hw']; rfl)
          | int i =>
            refine ifF rfl (ifY rfl (bad ?_))
            have := of_decide_eq_false hsh
            exact if_neg this
          | bool b => cases hb'
          | none => exact ifF rfl (ifY rfl (bad rfl))
          | list ds => exact ifF rfl (ifY rfl (bad rfl))
          | tuple ds => exact ifF rfl (ifY rfl (bad rfl))
          | dict ds => exact ifF rfl (ifY rfl (bad rfl))
        · have hsh : shortD d = true := by simpa using h2
          refine ifF rfl ?_
          refine rest H1 e1 ?_
          cases d with
          | int i =>
            have := of_decide_eq_true hsh
            have e : atomT (.int i) = some (itxt i) := if_pos this
            rw [e]
            rfl
          | _ => cases hsh
      · have hw : wordD d = true := by simpa using h1
        refine ifF rfl ?_
        refine rest H1 e1 ?_
        cases d with
        | str s0 =>
          have e : atomT (.str s0) = if s0.cps.toList = [] then some [46] else if isWord s0.cps.toList then some s0.cps.toList else none := rfl
          have hw2 : isWord s0.cps.toList = true := hw
          rw [e, if_pos hw2]
          split <;> rfl
        | _ => cases hw
end
end K66

namespace K66
open PySem PySem.Spec PyProof.Rows L2 KX M53 KM
local macro_rules | `(tactic| walk_at "kx1") => `(tactic| first
  | (with_reducible refine q_seq ?_) | (with_reducible refine q_ifs ?_) | (with_reducible refine q_asg ?_) | (with_reducible refine q_gname ?_) | (with_reducible refine q_ret ?_)
  | (with_reducible refine q_drop ?_) | (with_reducible refine q_next ?_) | (with_reducible refine q_par ?_) | (with_reducible refine q_sfld ?_) | (with_reducible refine q_rs ?_) | (with_reducible refine q_gsub ?_) | (with_reducible refine q_retN ?_)
  | ((with_reducible show tVar _ _ _ _); (refine q_var rfl ?_)) | (with_reducible refine q_c ?_) | (with_reducible refine q_op ?_) | (with_reducible refine q_un ?_) | (with_reducible refine q_neg ?_) | (with_reducible refine q_cb ?_)
  | (with_reducible refine q_nil ?_) | (with_reducible refine q_cons ?_) | (with_reducible refine q_tup ?_) | (with_reducible refine q_lst ?_) | (with_reducible refine q_if ?_)
  | (with_reducible refine q_notT ?_) | (with_reducible refine q_call ?_) | (with_reducible refine q_callS ?_) | (with_reducible refine q_fld ?_)
  | (with_reducible refine q_bm ?_) | (with_reducible refine q_bm0 ?_) | (with_reducible refine q_sl ?_) | (with_reducible refine q_nopart ?_) | (with_reducible refine q_part ?_) | (with_reducible refine q_meth ?_) | (with_reducible refine q_make ?_)
  | (with_reducible refine q_test ?_) | (with_reducible refine q_tB ?_) | (with_reducible refine q_tru ?_) | (with_reducible refine q_not ?_)
  | (with_reducible refine q_blk ?_) | (with_reducible refine q_tv ?_) | (with_reducible refine q_addI ?_) | (with_reducible refine q_subI ?_) | (with_reducible refine q_eqI ?_) | (with_reducible refine q_neI ?_)
  | (with_reducible refine q_for ?_) | (with_reducible refine q_lc ?_) | (with_reducible refine q_iList ?_) | (with_reducible refine q_iTup ?_) | (with_reducible refine q_iStr ?_) | (with_reducible refine q_iRng1 ?_) | (with_reducible refine q_iRng2 ?_) | (with_reducible refine q_iRng3 ?_) | (with_reducible refine q_gcons ?_) | (with_reducible refine q_gnil ?_) | (with_reducible refine q_yes ?_) | (with_reducible refine q_ltI ?_) | (with_reducible refine q_iEnumS ?_) | (with_reducible refine q_pi ?_) | (with_reducible refine q_leI ?_) | (with_reducible refine q_gtI ?_) | (with_reducible refine q_geI ?_) | (with_reducible refine q_leT ?_) | (with_reducible refine q_intI ?_) | (with_reducible refine q_abs ?_) | (with_reducible refine q_eqT ?_) | (with_reducible refine q_neT ?_) | (with_reducible refine q_rsM ?_) | (with_reducible refine q_par3 ?_) | (with_reducible refine q_isN ?_) | (with_reducible refine q_notN ?_))
local macro_rules | `(tactic| walk_at "kx") => `(tactic| repeat walk_at "kx1")
local macro_rules | `(tactic| walk_at "kxs") => `(tactic| repeat (first | walk_at "kx1" | (with_reducible refine q_andT ?_) | (with_reducible refine q_orT ?_) | (with_reducible refine q_chain ?_) | (with_reducible refine q_and ?_) | (with_reducible refine q_or ?_)))
local macro_rules | `(tactic| walk_at "lits") => `(tactic| simp only [lit_0, lit_1, lit_2, lit_3, lit_4, lit_5, lit_6, lit_7, lit_8, lit_9, lit_10, lit_11, lit_12, lit_13, lit_14, lit_15, lit_16, lit_17, lit_18, lit_19, lit_20, lit_21, lit_22, lit_23, lit_24, lit_25, lit_26, lit_27, lit_28, lit_29, lit_30, lit_31, lit_32, lit_33, lit_34, lit_35, lit_36, lit_37, lit_38, lit_39, lit_40, lit_41])

/-! ### what waits -/
def ItemAt (K : PySem.W.Frag) (H0 H : Hp) (a : Addr) : Itm → Prop
  | .lit t => H a = some (.tup [.str (tx t), .int 0])
  | .dat d k => ∃ v, H a = some (.tup [v, .int (1001 - (k : Int))]) ∧ Dp K H0 v d ∧ k ≤ 1000 ∧ strOk d = true
def Items (K : PySem.W.Frag) (H0 H : Hp) : List Addr → List Itm → Prop
  | [], [] => True
  | a :: as, i :: is => ItemAt K H0 H a i ∧ Items K H0 H as is
  | _, _ => False
theorem ItemAt.kt {K : PySem.W.Frag} {H0 H H' : Hp} (k : Kt H H') {a : Addr} : ∀ {i : Itm}, ItemAt K H0 H a i → ItemAt K H0 H' a i
  | .lit t, h => k.1 _ _ h
  | .dat d n, ⟨v, h, r⟩ => ⟨v, k.1 _ _ h, r⟩
theorem Items.kt {K : PySem.W.Frag} {H0 H H' : Hp} (k : Kt H H') : ∀ {as : List Addr} {is : List Itm}, Items K H0 H as is → Items K H0 H' as is
  | [], [], _ => trivial
  | _ :: _, _ :: _, ⟨h, r⟩ => ⟨h.kt k, Items.kt k r⟩
  | [], _ :: _, h => h.elim
  | _ :: _, [], h => h.elim
theorem Items.app {K : PySem.W.Frag} {H0 H : Hp} : ∀ {as : List Addr} {is : List Itm} {a : Addr} {i : Itm}, Items K H0 H as is → ItemAt K H0 H a i → Items K H0 H (as ++ [a]) (is ++ [i])
  | [], [], _, _, _, h => ⟨h, trivial⟩
  | _ :: _, _ :: _, _, _, ⟨h, r⟩, h' => ⟨h, Items.app r h'⟩
  | [], _ :: _, _, _, h, _ => h.elim
  | _ :: _, [], _, _, h, _ => h.elim
theorem Items.last {K : PySem.W.Frag} {H0 H : Hp} : ∀ {bs : List Addr} {is : List Itm}, Items K H0 H bs is → bs ≠ [] → ∃ as a is0 i, bs = as ++ [a] ∧ is = is0 ++ [i] ∧ Items K H0 H as is0 ∧ ItemAt K H0 H a i
  | [], _, _, h => absurd rfl h
  | a :: as, [], h, _ => h.elim
  | [a], [i], ⟨h, _⟩, _ => ⟨[], a, [], i, rfl, rfl, trivial, h⟩
  | [a], i :: j :: is, ⟨_, h⟩, _ => h.elim
  | a :: b :: as, [i], ⟨_, h⟩, _ => h.elim
  | a :: b :: as, i :: j :: is, ⟨h, r⟩, _ => by
    obtain ⟨as', a', is', i', e1, e2, h1, h2⟩ := Items.last r (by simp)
    exact ⟨a :: as', a', i :: is', i', by rw [e1]; rfl, by rw [e2]; rfl, ⟨h, h1⟩, h2⟩
theorem Items.nil {K : PySem.W.Frag} {H0 H : Hp} : ∀ {is : List Itm}, Items K H0 H [] is → is = []
  | [], _ => rfl
  | _ :: _, h => h.elim
structure HInv (K : PySem.W.Frag) (H0 : Hp) (wl fl : Addr) (H : Hp) (bs : List Addr) (its : List Itm) (fs : List T) : Prop where
  ex : Ex H0 H
  nw : H0 wl = none
  nf : H0 fl = none
  ne : wl ≠ fl
  w : H wl = some (.lst (bs.map V.ref))
  f : H fl = some (.lst (fs.map fun t => V.str (tx t)))
  it : Items K H0 H bs its
section
variable {K : PySem.W.Frag} {H0 H : Hp} {wl fl : Addr} {bs : List Addr} {its : List Itm} {fs : List T}
theorem HInv.pop {a : Addr} {i : Itm} (I : HInv K H0 wl fl H (bs ++ [a]) (its ++ [i]) fs) (h : Items K H0 H bs its) : HInv K H0 wl fl (upd H wl (.lst (((bs ++ [a]).map V.ref).dropLast))) bs its fs :=
  ⟨Evl.Ex.mut I.ex I.nw, I.nw, I.nf, I.ne, by rw [upd_same, List.map_append]; simp, by rw [upd_ne I.ne.symm]; exact I.f, h.kt (Kt.upd I.w trivial)⟩
theorem HInv.found {t : T} (I : HInv K H0 wl fl H bs its fs) : HInv K H0 wl fl (upd H fl (.lst ((fs.map fun t => V.str (tx t)) ++ [.str (tx t)]))) bs its (fs ++ [t]) :=
  ⟨Evl.Ex.mut I.ex I.nf, I.nw, I.nf, I.ne, by rw [upd_ne I.ne]; exact I.w, by rw [upd_same, List.map_append]; rfl, I.it.kt (Kt.upd I.f trivial)⟩
theorem HInv.grow {H' : Hp} (I : HInv K H0 wl fl H bs its fs) (e : Ex H H') : HInv K H0 wl fl H' bs its fs :=
  ⟨I.ex.trans e, I.nw, I.nf, I.ne, e _ _ I.w, e _ _ I.f, I.it.kt (Kt.of_ex e)⟩
theorem HInv.push {p : Addr} {i : Itm} (I : HInv K H0 wl fl H bs its fs) (h : ItemAt K H0 H p i) : HInv K H0 wl fl (upd H wl (.lst (bs.map V.ref ++ [.ref p]))) (bs ++ [p]) (its ++ [i]) fs :=
  ⟨Evl.Ex.mut I.ex I.nw, I.nw, I.nf, I.ne, by rw [upd_same, List.map_append]; rfl, by rw [upd_ne I.ne.symm]; exact I.f, Items.app (I.it.kt (Kt.upd I.w trivial)) (h.kt (Kt.upd I.w trivial))⟩
theorem Items.len : ∀ {as : List Addr} {is : List Itm}, Items K H0 H as is → as.length = is.length
  | [], [], _ => rfl
  | _ :: _, _ :: _, ⟨_, r⟩ => by simp [Items.len r]
  | [], _ :: _, h => h.elim
  | _ :: _, [], h => h.elim
theorem HInv.len (I : HInv K H0 wl fl H bs its fs) : bs.length ≤ msum its := by
  rw [I.it.len]
  clear I
  induction its with
  | nil => exact Nat.le_refl _
  | cons i r ih =>
    cases i with
    | lit t => simp only [List.length_cons, msum]; omega
    | dat d k => have := sz_pos d; simp only [List.length_cons, msum]; omega
/-- what the texts come to, and how much may still come -/
def TInv (d0 : PyData) (its : List Itm) (fs : List T) : Prop := (W its.reverse).map (fs.flatten ++ ·) = wr 1000 d0 ∧ fs.length + msum its ≤ sz d0
theorem TInv.lit {d0 : PyData} {its : List Itm} {fs : List T} {t : T} (h : TInv d0 (its ++ [.lit t]) fs) : TInv d0 its (fs ++ [t]) := by
  obtain ⟨h1, h2⟩ := h
  rw [List.reverse_append] at h1
  refine ⟨?_, by rw [msum_app] at h2; simp only [List.length_append, List.length_cons, List.length_nil, msum] at h2 ⊢; omega⟩
  rw [← h1]
  show _ = (W (.lit t :: its.reverse)).map _
  rw [W_lit]
  cases W its.reverse with
  | none => rfl
  | some x => simp
theorem TInv.atom {d0 d : PyData} {k : Nat} {its : List Itm} {fs : List T} {t : T} (h : TInv d0 (its ++ [.dat d k]) fs) (e : wr k d = some t) : TInv d0 its (fs ++ [t]) := by
  obtain ⟨h1, h2⟩ := h
  rw [List.reverse_append] at h1
  have := sz_pos d
  refine ⟨?_, by rw [msum_app] at h2; simp only [List.length_append, List.length_cons, List.length_nil, msum] at h2 ⊢; omega⟩
  rw [← h1]
  show _ = (W (.dat d k :: its.reverse)).map _
  rw [W_dat, e]
  cases W its.reverse with
  | none => rfl
  | some x => simp
theorem TInv.bad {d0 d : PyData} {k : Nat} {its : List Itm} {fs : List T} (h : TInv d0 (its ++ [.dat d k]) fs) (e : wr k d = none) : wr 1000 d0 = none := by
  obtain ⟨h1, h2⟩ := h
  rw [List.reverse_append] at h1
  rw [← h1]
  show (W (.dat d k :: its.reverse)).map _ = none
  rw [W_dat, e]
  rfl
theorem TInv.tuple {d0 : PyData} {ds : List PyData} {k : Nat} {its : List Itm} {fs : List T} (h : TInv d0 (its ++ [.dat (.tuple ds) (k + 1)]) fs) : TInv d0 (its ++ (.lit [93] :: (expd k ds).reverse)) (fs ++ [[91]]) := by
  obtain ⟨h1, h2⟩ := h
  rw [List.reverse_append] at h1
  have e := msum_expd k ds
  have er : msum (expd k ds).reverse = msum (expd k ds) := by
    have g : ∀ l : List Itm, msum l.reverse = msum l := by
      intro l
      induction l with
      | nil => rfl
      | cons i r ih =>
        rw [List.reverse_cons, msum_app, ih]
        cases i <;> simp only [msum] <;> omega
    exact g _
  refine ⟨?_, ?_⟩
  · rw [← h1]
    show _ = (W (.dat (.tuple ds) (k + 1) :: its.reverse)).map _
    rw [W_tuple]
    have e2 : (its ++ (Itm.lit [93] :: (expd k ds).reverse)).reverse = expd k ds ++ .lit [93] :: its.reverse := by simp
    rw [e2]
    cases W (expd k ds ++ .lit [93] :: its.reverse) with
    | none => rfl
    | some x => simp
  · rw [msum_app] at h2 ⊢
    simp only [List.length_append, List.length_cons, List.length_nil, msum, sz] at h2 ⊢
    rw [er]
    omega
end
section
variable {P : Program} {w : World} {K : PySem.W.Frag} {mg : Str → Option Value} {base : Heap} {CM : Addr}
def spWrite (K : PySem.W.Frag) (CM : Addr) : Sp := fun vs H Q E => ∃ v d, vs = [v] ∧ Dp K H v d ∧ strOk d = true ∧ sz d ≤ 1000000 ∧
  (∀ t, wr 1000 d = some t → t.length ≤ 16777216 ∧ ∀ H', Ex H H' → Q (.str (tx t)) H') ∧ (wr 1000 d = none → ∀ H', Ex H H' → E (.str (tx [110, 111, 32, 100, 97, 116, 97]) 0) none H')
theorem ok_write_data {f f0 f1 f2 f3 : Addr} {fd fd0 fd1 fd2 fd3 : FuncData} (D : DefAt K mg "write_data" s_write_data f fd ["data"]) (T : Txt K mg CM) (nd : base.NoDigits) (D_atom_text : DefAt K mg "atom_text" s_atom_text f0 fd0 ["value"])
    (D_is_whole : DefAt K mg "is_whole" s_is_whole f1 fd1 ["value"]) (D_is_word : DefAt K mg "is_word" s_is_word f2 fd2 ["value"]) (D_is_short : DefAt K mg "is_short" s_is_short f3 fd3 ["value"]) :
    FnOk P w K mg base (KM.CM CM P w) 4 f fd ["data"] (spWrite K CM) := by
  have G_atom_text : FnOk P w K mg base (KM.CM CM P w) 3 f0 fd0 ["value"] (spAtom K CM) := ok_atom_text D_atom_text T nd D_is_whole D_is_word D_is_short
  refine okM D.fn sc_write_data (fun vs H Q E h => ?_) (fun cdv A outer s H vs Q E hr h => ?_)
  · obtain ⟨v, d, rfl, _⟩ := h
    rfl
  · obtain ⟨v, d, rfl, hd, hso, hsz, q, qE⟩ := h
    have hu := u65 hr
    refine ⟨_, (pss_cons (ps_par (i := 1) (j := 2) rfl sc_write_data.nd rfl rfl (by decide) rfl rfl (pa_cons (pe_lst (pa_cons (pe_tup (pa_cons (pv 0) (pa_cons pe_int pa_nil))) pa_nil)) (pa_cons (pe_lst pa_nil) pa_nil)) (by rfl))
      (pss_cons (ps_while (passes_of rfl) (pt_cmpR k_gt (pe_callB (w_len (K := K)) rfl T.b_len bb_len (pa_cons (pv 1) pa_nil)) pe_int (nomark _)) (pss_cons (ps_asg (w_bm0 (K := K) PySem.F.plainAttrs_list PySem.F.slot_list_pop PySem.F.type_list_pop mt_pop (pv 1)) (w_gtup (K := K) (n := 2) rfl (pgs_cons (pg_name (i := 3) sc_write_data.nd rfl (Or.inl rfl)) (pgs_cons (pg_name (i := 4) sc_write_data.nd rfl (Or.inl rfl)) pgs_nil))))
      (pss_one (ps_if (pt_cmpR (w_eq (K := K) hu) (pv 4) pe_int (nomark _)) (pss_one (ps_expr (wk_bm (K := K) (pe_bm PySem.F.plainAttrs_list PySem.F.slot_list_append PySem.F.type_list_append mt_append (pv 2) (pa_cons (pv 3) pa_nil))))) (pss_one (ps_if (PW.pt (pw_and (w_tru (K := K) (pe_callB (w_isi (K := K)) rfl T.b_isinstance bb_isinstance (pa_cons (pv 3) (pa_cons (pe_bltn (v := V.ty "tuple") rfl T.b_tuple bb_tuple rfl) pa_nil)))) (pw_and1 (pt_cmpR k_le (pv 4) (k_glob rfl T.g_MOST_DEPTH) (nomark _))))) (pss_cons (ps_expr (wk_bm (K := K) (pe_bm PySem.F.plainAttrs_list PySem.F.slot_list_append PySem.F.type_list_append mt_append (pv 2) (pa_cons pe_str pa_nil))))
      (pss_cons (ps_expr (wk_bm (K := K) (pe_bm PySem.F.plainAttrs_list PySem.F.slot_list_append PySem.F.type_list_append mt_append (pv 1) (pa_cons (pe_tup (pa_cons pe_str (pa_cons pe_int pa_nil))) pa_nil))))
      (pss_one (ps_for (passes_of rfl) rfl (pi_range3 rfl T.b_range (pa_cons (pe_op op_sub (pe_callB (w_len (K := K)) rfl T.b_len bb_len (pa_cons (pv 3) pa_nil)) pe_int) (pa_cons (pe_un un_neg pe_int) (pa_cons (pe_un un_neg pe_int) pa_nil)))) (pg_name (i := 5) sc_write_data.nd rfl (Or.inl rfl)) (pss_cons (ps_expr (wk_bm (K := K) (pe_bm PySem.F.plainAttrs_list PySem.F.slot_list_append PySem.F.type_list_append mt_append (pv 1) (pa_cons (pe_tup (pa_cons (pe_ix (w_ix (K := K)) (pv 3) (pv 5) (fun _ _ => rfl)) (pa_cons (pe_op (w_add (K := K)) (pv 4) pe_int) pa_nil))) pa_nil))))
      (pss_one (ps_if (pt_cmpR k_gt (pv 5) pe_int (nomark _)) (pss_one (ps_expr (wk_bm (K := K) (pe_bm PySem.F.plainAttrs_list PySem.F.slot_list_append PySem.F.type_list_append mt_append (pv 1) (pa_cons (pe_tup (pa_cons pe_str (pa_cons pe_int pa_nil))) pa_nil))))) pss_nil))))))) (pss_one (ps_expr (wk_bm (K := K) (pe_bm PySem.F.plainAttrs_list PySem.F.slot_list_append PySem.F.type_list_append mt_append (pv 2) (pa_cons (pe_call G_atom_text (hr.mono (by decide)) rfl D_atom_text.g D_atom_text.kp D_atom_text.b .nil passMd (pa_cons (pv 3) pa_nil)) pa_nil)))))))))))
      (pss_one (ps_ret (wk_bm (K := K) (pe_bm PySem.F.plainAttrs_str PySem.F.slot_str_join PySem.F.type_str_join (w_join (K := K)) pe_str (pa_cons (pv 2) pa_nil))))))), ?_⟩
    walk_at "lits"
    walk_at "kx"
    refine ⟨sml rfl, fun p np => ?_⟩
    walk_at "kx"
    refine ⟨sml rfl, fun wl nwl => ?_⟩
    walk_at "kx"
    refine ⟨sml rfl, fun fl nfl => ?_⟩
    walk_at "kx"
    refine ⟨_, _, rfl, ?_⟩
    walk_at "kx"
    refine q_while (fun m σ H' => ∃ bs its fs o3 o4 o5, σ = [some v, some (.ref wl), some (.ref fl), o3, o4, o5] ∧ HInv K H wl fl H' bs its fs ∧ TInv d its fs ∧ m = msum its) (sz d)
      ⟨[p], [.dat d 1000], [], none, none, none, rfl, ?_, ⟨?_, Nat.le_of_eq (Nat.zero_add _)⟩, rfl⟩ ?_
    · have x1 : Ex H (upd H p (.tup [v, .int 1])) := Evl.Ex.new np
      have x2 := x1.trans (Evl.Ex.new nwl (o := .lst [V.ref p]))
      have x3 := x2.trans (Evl.Ex.new nfl (o := .lst []))
      have ne : wl ≠ fl := ne_of_none (upd_same) nfl
      have npw : p ≠ wl := ne_of_none (upd_same) nwl
      have npf : p ≠ fl := ne_of_none (by rw [upd_ne npw]; exact upd_same) nfl
      exact ⟨x3, Evl.fresh_back x1 nwl, Evl.fresh_back x2 nfl, ne, by rw [upd_ne ne]; exact upd_same, upd_same, ⟨⟨v, by rw [upd_ne npf, upd_ne npw]; exact upd_same, hd, by decide, hso⟩, trivial⟩⟩
    · show (W [.dat d 1000]).map _ = _
      rw [W_dat]
      cases wr 1000 d with
      | none => rfl
      | some t => show some ([] ++ (t ++ [])) = some t; simp
    · rintro m σ H' ⟨bs, its, fs, o3, o4, o5, rfl, I, T1, rfl⟩
      have hfs : fs.length < sizeLine := by have := T1.2; have := sizeLine_eq; omega
      walk_at "kx"
      refine q_lenL (SqL.of I.w) ?_
      walk_at "kx"
      refine ifT (fun h1 => ?_) (fun h1 => ?_)
      · refine ⟨_, fun σ' H' h => h, ?_⟩
        have hbs : bs ≠ [] := by
          rintro rfl
          simp at h1
        obtain ⟨bs, a, its, i, rfl, rfl, hi, ha⟩ := I.it.last hbs
        walk_at "kx"
        refine ⟨ty_lst I.w, ?_⟩
        refine q_pop I.w (y := .ref a) (by simp) ?_
        have I2 := I.pop hi
        have ha2 := ha.kt (Kt.upd I.w trivial : Kt H' (upd H' wl (.lst (((bs ++ [a]).map V.ref).dropLast))))
        generalize upd H' wl (.lst (((bs ++ [a]).map V.ref).dropLast)) = H2 at I2 ha2
        refine q_gtup ?_
        cases i with
        | lit t =>
          refine ⟨a, _, rfl, SqT.of ha2, rfl, ?_⟩
          walk_at "kx"
          refine ifY rfl ?_
          walk_at "kx"
          refine ⟨ty_lst I2.f, ?_⟩
          walk_at "kx"
          refine q_app I2.f (by rw [List.length_map]; exact hfs) ?_
          exact ⟨msum its, by rw [msum_app]; simp only [msum]; omega, bs, its, fs ++ [t], _, _, _, rfl, I2.found, T1.lit, rfl⟩
        | dat d2 k =>
          obtain ⟨v2, ha2, hd2, hk, hs2⟩ := ha2
          have hlt : msum its < msum (its ++ [.dat d2 k]) := by
            have := sz_pos d2
            rw [msum_app]
            simp only [msum]
            omega
          refine ⟨a, _, rfl, SqT.of ha2, rfl, ?_⟩
          walk_at "kx"
          refine ifF (decide_eq_false (by omega)) ?_
          walk_at "kx"
          refine q_andB (a := isTupD d2) (b := decide ((1001 - (k : Int)) ≤ 1000)) (fun R q => ?_) (fun _ R q => ?_) ?_
          · walk_at "kx"
            refine is_tup (dp_ex I2.ex hd2) ?_
            walk_at "kx"
            exact q
          · walk_at "kx"
            exact q
          refine ifT (fun h2 => ?_) (fun h2 => ?_)
          · rw [Bool.and_eq_true] at h2
            obtain ⟨h2, h3⟩ := h2
            have hk1 := of_decide_eq_true h3
            cases d2 with
            | tuple ds =>
              obtain ⟨k, rfl⟩ : ∃ k', k = k' + 1 := ⟨k - 1, by omega⟩
              cases hd2 with
              | tup hs hall =>
                rename_i a2 vs
                have hvl := dpa_len hall
                have hsos := strOk_tup hs2
                have hm := msum_expd k ds
                have hsz2 : szs ds ≤ 1000000 := by
                  have t2 := T1.2
                  rw [msum_app] at t2
                  simp only [msum, sz] at t2
                  omega
                have hdl := szs_len ds
                walk_at "kx"
                refine ⟨ty_lst I2.f, ?_⟩
                walk_at "kx"
                refine q_app I2.f (by rw [List.length_map]; exact hfs) ?_
                have I3 := I2.found (t := [91])
                generalize upd H2 fl _ = H3 at I3
                walk_at "kx"
                refine ⟨ty_lst I3.w, ?_⟩
                walk_at "kx"
                refine ⟨sml rfl, fun p np => ?_⟩
                have I4 := I3.grow (Evl.Ex.new np (o := .tup [V.str (tx [93]), V.int 0]))
                have hb4 := I4.len
                have hsl := sizeLine_eq
                have t2 := T1.2
                rw [msum_app] at t2
                simp only [msum, M53.sz] at t2
                walk_at "kx"
                refine q_app I4.w (by rw [List.length_map]; omega) ?_
                have I5 := I4.push (i := .lit [93]) upd_same
                generalize upd (upd H3 p _) wl _ = H5 at I5
                walk_at "kx"
                refine q_lenT (Evl.ex_t I5.ex hs) ?_
                walk_at "kx"
                have rg := RgC.neg (i := ((vs.length : Nat) : Int) - 1) (j := -1) (by omega) (by omega) (by decide) (by decide)
                have en : (((vs.length : Nat) : Int) - 1 - -1).toNat = ds.length := by omega
                rw [en] at rg
                refine ⟨_, _, _, _, rfl, rg, ?_⟩
                refine fo_rangeC (fun j σ H' => ∃ bs' o5, σ = [some v, some (.ref wl), some (.ref fl), some (.ref a2), some (.int (1001 - ((k + 1 : Nat) : Int))), o5] ∧ HInv K H wl fl H' bs' (its ++ (.lit [93] :: (preL k ds j).reverse)) (fs ++ [[91]]))
                  ⟨_, o5, rfl, by rw [preL_zero]; exact I5⟩ ?_ ?_
                · rintro j σ H' hj ⟨bs', o5, rfl, J⟩
                  have ei : (((vs.length : Nat) : Int) - 1 + (j : Nat) * -1) = ((ds.length - 1 - j : Nat) : Int) := by omega
                  rw [ei]
                  obtain ⟨d3, hd3⟩ : ∃ d3, ds[ds.length - 1 - j]? = some d3 := ⟨ds[ds.length - 1 - j], List.getElem?_eq_getElem (by omega)⟩
                  obtain ⟨v3, hv3, hdp3⟩ := dpa_get hall hd3
                  have est := preL_step k ds j d3 hj hd3
                  walk_at "kx"
                  refine ⟨ty_lst J.w, ?_⟩
                  walk_at "kx"
                  refine q_ixT (Evl.ex_t J.ex hs) hv3 ?_
                  walk_at "kx"
                  refine ⟨sml rfl, fun p np => ?_⟩
                  have ed : (1001 - ((k + 1 : Nat) : Int) + 1) = 1001 - (k : Int) := by omega
                  rw [ed]
                  have J4 := J.grow (Evl.Ex.new np (o := .tup [v3, V.int (1001 - (k : Int))]))
                  have hJ := J4.len
                  rw [msum_app] at hJ
                  simp only [msum] at hJ
                  rw [msum_rev] at hJ
                  have hmj := preL_msum k ds j (by omega)
                  walk_at "kx"
                  refine q_app J4.w (by rw [List.length_map]; omega) ?_
                  have J5 := J4.push (i := .dat d3 k) ⟨v3, upd_same, hdp3, by omega, strOks_get hsos hd3⟩
                  generalize upd (upd H' p _) wl _ = H6 at J5
                  walk_at "kx"
                  refine ifT (fun h4 => ?_) (fun h4 => ?_)
                  · have h4' := of_decide_eq_true h4
                    walk_at "kx"
                    refine ⟨ty_lst J5.w, ?_⟩
                    walk_at "kx"
                    refine ⟨sml rfl, fun p2 np2 => ?_⟩
                    have J6 := J5.grow (Evl.Ex.new np2 (o := .tup [V.str (tx [44]), V.int 0]))
                    walk_at "kx"
                    refine q_app J6.w (by rw [List.length_map]; simp only [List.length_append, List.length_cons, List.length_nil]; omega) ?_
                    have J7 := J6.push (i := .lit [44]) upd_same
                    refine ⟨bs' ++ [p] ++ [p2], _, rfl, ?_⟩
                    have el : its ++ Itm.lit [93] :: (preL k ds j).reverse ++ [Itm.dat d3 k] ++ [Itm.lit [44]] = its ++ Itm.lit [93] :: (preL k ds (j + 1)).reverse := by
                      rw [est, if_pos (by omega)]
                      simp
                    rw [← el]
                    exact J7
                  · have h4' := of_decide_eq_false h4
                    walk_at "kx"
                    refine ⟨bs' ++ [p], _, rfl, ?_⟩
                    have el : its ++ Itm.lit [93] :: (preL k ds j).reverse ++ [Itm.dat d3 k] = its ++ Itm.lit [93] :: (preL k ds (j + 1)).reverse := by
                      rw [est, if_neg (by omega)]
                      simp
                    rw [← el]
                    exact J5
                · rintro σ H' ⟨bs', o5, rfl, J⟩
                  rw [preL_all] at J
                  refine ⟨_, ?_, bs', _, _, _, _, _, rfl, J, T1.tuple, rfl⟩
                  rw [msum_app, msum_app]
                  simp only [msum, M53.sz]
                  rw [msum_rev]
                  split at hm <;> omega
            | _ => cases h2
          · have ew : wr k d2 = atomT d2 := by
              by_cases ht : isTupD d2 = true
              · cases d2 with
                | tuple ds =>
                  rw [ht, Bool.true_and] at h2
                  have h3 := of_decide_eq_false h2
                  have : k = 0 := by omega
                  subst this
                  exact wr_zero ds
                | _ => cases ht
              · exact wr_atom (by simpa using ht)
            walk_at "kx"
            refine ⟨ty_lst I2.f, ?_⟩
            walk_at "kx"
            refine ⟨v2, d2, rfl, dp_ex I2.ex hd2, fun s e => by subst e; exact strOk_str hs2, fun t et H3 e3 => ?_, fun et H3 e3 => ?_⟩
            · have I3 := I2.grow e3
              walk_at "kx"
              refine q_app I3.f (by rw [List.length_map]; exact hfs) ?_
              exact ⟨msum its, hlt, bs, its, fs ++ [t], _, _, _, rfl, I3.found, T1.atom (by rw [ew]; exact et), rfl⟩
            · exact qE (T1.bad (by rw [ew]; exact et)) H3 (I2.grow e3).ex
      · have hbs : bs = [] := by
          cases bs with
          | nil => rfl
          | cons a r =>
            have := of_decide_eq_false h1
            simp only [List.map_cons, List.length_cons] at this
            omega
        subst hbs
        have hits := I.it.nil
        subst hits
        have e : wr 1000 d = some fs.flatten := by
          rw [← T1.1]
          show some (fs.flatten ++ []) = _
          rw [List.append_nil]
        obtain ⟨hlen, qq⟩ := q _ e
        walk_at "kx"
        refine ⟨ty_str, ?_⟩
        walk_at "kx"
        refine ⟨tx [], fl, fs.map tx, rfl, rfl, .inl (SqL.of (by rw [I.f, List.map_map]; rfl)), ?_, ?_⟩
        · rw [List.map_map]
          have e1 : ((fun x : Str => x.length) ∘ tx) = List.length := by funext l; exact tx_len l
          rw [e1, ← List.length_flatten]
          show fs.flatten.length + _ * 0 ≤ _
          omega
        · rw [join_none]
          exact qq H' I.ex
end
end K66

namespace K66
open PySem PySem.Spec PyProof.Rows L2 KX M53 KM
local macro_rules | `(tactic| walk_at "kx1") => `(tactic| first
  | (with_reducible refine q_seq ?_) | (with_reducible refine q_ifs ?_) | (with_reducible refine q_asg ?_) | (with_reducible refine q_gname ?_) | (with_reducible refine q_ret ?_)
  | (with_reducible refine q_drop ?_) | (with_reducible refine q_next ?_) | (with_reducible refine q_par ?_) | (with_reducible refine q_sfld ?_) | (with_reducible refine q_rs ?_) | (with_reducible refine q_gsub ?_) | (with_reducible refine q_retN ?_)
  | ((with_reducible show tVar _ _ _ _); (refine q_var rfl ?_)) | (with_reducible refine q_c ?_) | (with_reducible refine q_op ?_) | (with_reducible refine q_un ?_) | (with_reducible refine q_neg ?_) | (with_reducible refine q_cb ?_)
  | (with_reducible refine q_nil ?_) | (with_reducible refine q_cons ?_) | (with_reducible refine q_tup ?_) | (with_reducible refine q_lst ?_) | (with_reducible refine q_if ?_)
  | (with_reducible refine q_notT ?_) | (with_reducible refine q_call ?_) | (with_reducible refine q_callS ?_) | (with_reducible refine q_fld ?_)
  | (with_reducible refine q_bm ?_) | (with_reducible refine q_bm0 ?_) | (with_reducible refine q_sl ?_) | (with_reducible refine q_nopart ?_) | (with_reducible refine q_part ?_) | (with_reducible refine q_meth ?_) | (with_reducible refine q_make ?_)
  | (with_reducible refine q_test ?_) | (with_reducible refine q_tB ?_) | (with_reducible refine q_tru ?_) | (with_reducible refine q_not ?_)
  | (with_reducible refine q_blk ?_) | (with_reducible refine q_tv ?_) | (with_reducible refine q_addI ?_) | (with_reducible refine q_subI ?_) | (with_reducible refine q_eqI ?_) | (with_reducible refine q_neI ?_)
  | (with_reducible refine q_for ?_) | (with_reducible refine q_lc ?_) | (with_reducible refine q_iList ?_) | (with_reducible refine q_iTup ?_) | (with_reducible refine q_iStr ?_) | (with_reducible refine q_iRng1 ?_) | (with_reducible refine q_iRng2 ?_) | (with_reducible refine q_iRng3 ?_) | (with_reducible refine q_gcons ?_) | (with_reducible refine q_gnil ?_) | (with_reducible refine q_yes ?_) | (with_reducible refine q_ltI ?_) | (with_reducible refine q_iEnumS ?_) | (with_reducible refine q_pi ?_) | (with_reducible refine q_leI ?_) | (with_reducible refine q_gtI ?_) | (with_reducible refine q_geI ?_) | (with_reducible refine q_leT ?_) | (with_reducible refine q_intI ?_) | (with_reducible refine q_abs ?_) | (with_reducible refine q_eqT ?_) | (with_reducible refine q_neT ?_) | (with_reducible refine q_par3 ?_) | (with_reducible refine q_isN ?_) | (with_reducible refine q_notN ?_))
local macro_rules | `(tactic| walk_at "kx") => `(tactic| repeat walk_at "kx1")
local macro_rules | `(tactic| walk_at "kxs") => `(tactic| repeat (first | walk_at "kx1" | (with_reducible refine q_andT ?_) | (with_reducible refine q_orT ?_) | (with_reducible refine q_chain ?_) | (with_reducible refine q_and ?_) | (with_reducible refine q_or ?_)))
local macro_rules | `(tactic| walk_at "lits") => `(tactic| simp only [lit_0, lit_1, lit_2, lit_3, lit_4, lit_5, lit_6, lit_7, lit_8, lit_9, lit_10, lit_11, lit_12, lit_13, lit_14, lit_15, lit_16, lit_17, lit_18, lit_19, lit_20, lit_21, lit_22, lit_23, lit_24, lit_25, lit_26, lit_27, lit_28, lit_29, lit_30, lit_31, lit_32, lit_33, lit_34, lit_35, lit_36, lit_37, lit_38, lit_39, lit_40, lit_41])

section
variable {P : Program} {w : World} {K : PySem.W.Frag} {mg : Str → Option Value} {base : Heap} {CM : Addr}
def spWholeR (CM : Addr) : Sp := fun vs H Q E => ∃ l, vs = [.str (tx l)] ∧ l.length ≤ 100000 ∧ (okNum l = true → ∀ H', Ex H H' → Q (.int (numVal l)) H') ∧ (okNum l = false → ∀ H', Ex H H' → E (.ref CM) none H')
theorem ok_read_whole {f : Addr} {fd : FuncData} (D : DefAt K mg "read_whole" s_read_whole f fd ["text"]) (T : Txt K mg CM) (nd : base.NoDigits) : FnOk P w K mg base (L2N.CX P w) 1 f fd ["text"] (spWholeR CM) := by
  refine okN D.fn sc_read_whole (fun vs H Q E h => ?_) (fun cdv A outer s H vs Q E hr h => ?_)
  · obtain ⟨l, rfl, _⟩ := h
    rfl
  · obtain ⟨l, rfl, hl, q, qE⟩ := h
    have hu := u65 hr
    have hsl : l.length ≤ sizeLine := by have := sizeLine_eq; omega
    have hbl := body_le l
    refine ⟨_, (pss_cons (ps_set (i := 1) sc_read_whole.nd rfl (Or.inl rfl) (pe_ifExp (pt_cmpR (w_eq (K := K) hu) (pe_slice (w_sl (K := K)) (pv 0) po_none (po_some pe_int)) pe_str (nomark _)) (pe_slice (w_sl (K := K)) (pv 0) (po_some pe_int) po_none) (pv 0)))
      (pss_cons (ps_if (PW.pt (pw_or (pt_not (pt_chain k_le k_le pe_int (pe_callB (w_len (K := K)) rfl T.b_len bb_len (pa_cons (pv 1) pa_nil)) (k_glob rfl T.g_MOST_DIGITS))) (pw_or1 (pt_not (w_tru (K := K) (pe_callB (w_all (K := K) rfl) rfl T.b_all bb_all (pa_cons (pe_lc (own := [("sign", 2)]) rfl sc_read_whole.nd (pi_str (pv 1)) (blkOk_by (N := n_read_whole) (sc := defScope s_read_whole) (by decide +kernel)) (fun _ _ _ _ _ => (pg_name (i := 2) sc_read_whole.nd rfl (Or.inl rfl))) (fun _ _ _ _ _ => pts_nil) (fun _ _ _ _ _ => (pe_cmpR (w_in (K := K) hu) (pv 2) (k_glob rfl T.g_DIGITS) (by rfl)))) pa_nil))))))) (pss_one (ps_rsN rfl tkN T.x_Malformed)) pss_nil)
      (pss_cons (ps_if (PW.pt (pw_and (pt_cmpR (w_eq (K := K) hu) (pe_ix (w_ix (K := K)) (pv 1) pe_int (fun _ _ => rfl)) pe_str (nomark _)) (pw_and1 (pt_cmpR (w_ne (K := K) hu) (pv 0) pe_str (nomark _))))) (pss_one (ps_rsN rfl tkN T.x_Malformed)) pss_nil)
      (pss_one (ps_ret (pe_callTy (kx_int nd) rfl T.b_int bb_int (pa_cons (pv 0) pa_nil))))))), ?_⟩
    walk_at "lits"
    walk_at "kx"
    refine q_slTo 1 hsl ?_
    walk_at "kx"
    -- what stands behind the first statement, at the body
    have rest : ∀ D' : Ends, (okNum l = true → ∀ H', Ex H H' → D'.rt (.int (numVal l)) H') → (okNum l = false → ∀ H', Ex H H' → E (.ref CM) none H') →
        tSeq (tIfS (tOr (tNot (tTest (tChain rLeU rLeU (tC (V.int 1)) (tCB (rLenU K) (tCons (tVar 1) tNil)) (tC (V.int 4000)))))
          (tNot (tTru K (tCB (rAll K) (tCons (tLc (iStr (tVar 1)) (gName 2) tYes (tOp (rInU K) (tVar 2) (tC (V.str (tx [48, 49, 50, 51, 52, 53, 54, 55, 56, 57])))) (List.map (fun x => x.snd) [(Str.ofString "sign", 2)])) tNil)))))
          (tRs CM fun cls d x H => E cls d H) tNext)
          (tSeq (tIfS (tAnd (tTest (tOp (rEqU K) (tOp (rIx K) (tVar 1) (tC (V.int 0))) (tC (V.str (tx [48]))))) (tTest (tOp (rNeU K) (tVar 0) (tC (V.str (tx [48])))))) (tRs CM fun cls d x H => E cls d H) tNext)
            (tRet (tCB rInt (tCons (tVar 0) tNil)))) D' [some (.str (tx l)), some (.str (tx (body l))), none] H := by
      intro D' q qE
      have hbs : (body l).length ≤ sizeLine := by have := sizeLine_eq; omega
      walk_at "kx"
      refine q_or ?_
      walk_at "kx"
      refine q_chainLe (i := 1) (j := ((body l).length : Nat)) (k := 4000) (fun R q => ?_) (fun R q => ?_) (fun R q => ?_) ?_
      · walk_at "kx"
        exact q
      · walk_at "kx"
        refine q_lenS hbs ?_
        exact q
      · walk_at "kx"
        exact q
      walk_at "kx"
      refine ifT (fun h1 => ?_) (fun h1 => ?_)
      · refine ifY rfl ?_
        refine qE ?_ H (Evl.Ex.refl H)
        have h2 : (decide (1 ≤ (body l).length) && decide ((body l).length ≤ 4000)) = false := by
          rw [← Bool.decide_and] at h1 ⊢
          refine decide_eq_false fun h3 => ?_
          have h4 : ((1 : Int) ≤ ((body l).length : Nat) ∧ (((body l).length : Nat) : Int) ≤ 4000) := by omega
          rw [decide_eq_true h4] at h1
          cases h1
        unfold okNum
        rw [h2, Bool.false_and, Bool.false_and]
      · have h2 : (decide (1 ≤ (body l).length) && decide ((body l).length ≤ 4000)) = true := by
          rw [← Bool.decide_and] at h1 ⊢
          refine decide_eq_true ?_
          have := of_decide_eq_true (by simpa using h1)
          omega
        have h3 : 1 ≤ (body l).length := by
          rw [Bool.and_eq_true] at h2
          exact of_decide_eq_true h2.1
        obtain ⟨c, r, eb⟩ : ∃ c r, body l = c :: r := by
          cases e : body l with
          | nil => rw [e] at h3; simp at h3
          | cons c r => exact ⟨c, r, rfl⟩
        walk_at "kx"
        refine ⟨_, rfl, ?_⟩
        refine lc_str (by omega) (fun c => .bl (dig c)) (fun _ => rfl) (fun c _ H1 e1 Q2 q2 => ?_) (fun p H' hp he e => ?_)
        · walk_at "kx"
          have e10 : tx [48, 49, 50, 51, 52, 53, 54, 55, 56, 57] = ("0123456789" : Str) := by decide +kernel
          rw [e10]
          exact q_inS (in_digits c) (q2 H1 (Evl.Ex.refl H1))
        walk_at "kx"
        refine q_all (bs := (body l).map dig) (by rw [e, List.map_map]; rfl) ?_
        have e1 : ((body l).map dig).all id = (body l).all dig := by rw [List.all_map]; rfl
        rw [e1]
        walk_at "kx"
        refine ifT (fun h4 => ?_) (fun h4 => ?_)
        · refine qE ?_ H' he
          unfold okNum
          rw [(by simpa using h4 : (body l).all dig = false), Bool.and_false, Bool.false_and]
        · walk_at "kx"
          refine q_andB (a := decide ([c] = [48])) (b := !decide (l = [48])) (fun R q => ?_) (fun _ R q => ?_) ?_
          · walk_at "kx"
            refine q_ixS (i := 0) (c := c) hbs (by rw [eb]; rfl) ?_
            walk_at "kx"
            exact q
          · walk_at "kx"
            exact q
          have h5 : okNum l = !(decide ([c] = [48]) && !decide (l = [48])) := by
            unfold okNum
            rw [h2, (by simpa using h4 : (body l).all dig = true), Bool.and_self, Bool.true_and, eb]
            rfl
          refine ifT (fun h6 => ?_) (fun h6 => ?_)
          · exact qE (by rw [h5, h6]; rfl) H' he
          · rw [h6] at h5
            walk_at "kx"
            refine .inr (.inr ⟨tx l, numVal l, rfl, int_num' h5, by rw [tx_len]; have := okNum_len h5; omega, q h5 H' he⟩)
    refine ifT (fun h1 => ?_) (fun h1 => ?_)
    · have e1 : body l = l.drop 1 := if_pos (of_decide_eq_true h1)
      rw [e1] at rest
      walk_at "kx"
      refine q_slFrom 1 hsl ?_
      refine rest _ q qE
    · have e1 : body l = l := if_neg (of_decide_eq_false h1)
      rw [e1] at rest
      walk_at "kx"
      refine rest _ q qE
end
end K66

namespace K66
open PySem PySem.Spec PyProof.Rows L2 KX M53 KM
local macro_rules | `(tactic| walk_at "kx1") => `(tactic| first
  | (with_reducible refine q_seq ?_) | (with_reducible refine q_ifs ?_) | (with_reducible refine q_asg ?_) | (with_reducible refine q_gname ?_) | (with_reducible refine q_ret ?_)
  | (with_reducible refine q_drop ?_) | (with_reducible refine q_next ?_) | (with_reducible refine q_par ?_) | (with_reducible refine q_sfld ?_) | (with_reducible refine q_rs ?_) | (with_reducible refine q_gsub ?_) | (with_reducible refine q_retN ?_)
  | ((with_reducible show tVar _ _ _ _); (refine q_var rfl ?_)) | (with_reducible refine q_c ?_) | (with_reducible refine q_op ?_) | (with_reducible refine q_un ?_) | (with_reducible refine q_neg ?_) | (with_reducible refine q_cb ?_)
  | (with_reducible refine q_nil ?_) | (with_reducible refine q_cons ?_) | (with_reducible refine q_tup ?_) | (with_reducible refine q_lst ?_) | (with_reducible refine q_if ?_)
  | (with_reducible refine q_notT ?_) | (with_reducible refine q_call ?_) | (with_reducible refine q_callS ?_) | (with_reducible refine q_fld ?_)
  | (with_reducible refine q_bm ?_) | (with_reducible refine q_bm0 ?_) | (with_reducible refine q_sl ?_) | (with_reducible refine q_nopart ?_) | (with_reducible refine q_part ?_) | (with_reducible refine q_meth ?_) | (with_reducible refine q_make ?_)
  | (with_reducible refine q_test ?_) | (with_reducible refine q_tB ?_) | (with_reducible refine q_tru ?_) | (with_reducible refine q_not ?_)
  | (with_reducible refine q_blk ?_) | (with_reducible refine q_tv ?_) | (with_reducible refine q_addI ?_) | (with_reducible refine q_subI ?_) | (with_reducible refine q_eqI ?_) | (with_reducible refine q_neI ?_)
  | (with_reducible refine q_for ?_) | (with_reducible refine q_lc ?_) | (with_reducible refine q_iList ?_) | (with_reducible refine q_iTup ?_) | (with_reducible refine q_iStr ?_) | (with_reducible refine q_iRng1 ?_) | (with_reducible refine q_iRng2 ?_) | (with_reducible refine q_iRng3 ?_) | (with_reducible refine q_gcons ?_) | (with_reducible refine q_gnil ?_) | (with_reducible refine q_yes ?_) | (with_reducible refine q_ltI ?_) | (with_reducible refine q_iEnumS ?_) | (with_reducible refine q_pi ?_) | (with_reducible refine q_leI ?_) | (with_reducible refine q_gtI ?_) | (with_reducible refine q_geI ?_) | (with_reducible refine q_leT ?_) | (with_reducible refine q_intI ?_) | (with_reducible refine q_abs ?_) | (with_reducible refine q_eqT ?_) | (with_reducible refine q_neT ?_) | (with_reducible refine q_par3 ?_) | (with_reducible refine q_isN ?_) | (with_reducible refine q_notN ?_))
local macro_rules | `(tactic| walk_at "kx") => `(tactic| repeat walk_at "kx1")
local macro_rules | `(tactic| walk_at "kxs") => `(tactic| repeat (first | walk_at "kx1" | (with_reducible refine q_andT ?_) | (with_reducible refine q_orT ?_) | (with_reducible refine q_chain ?_) | (with_reducible refine q_and ?_) | (with_reducible refine q_or ?_)))
local macro_rules | `(tactic| walk_at "lits") => `(tactic| simp only [lit_0, lit_1, lit_2, lit_3, lit_4, lit_5, lit_6, lit_7, lit_8, lit_9, lit_10, lit_11, lit_12, lit_13, lit_14, lit_15, lit_16, lit_17, lit_18, lit_19, lit_20, lit_21, lit_22, lit_23, lit_24, lit_25, lit_26, lit_27, lit_28, lit_29, lit_30, lit_31, lit_32, lit_33, lit_34, lit_35, lit_36, lit_37, lit_38, lit_39, lit_40, lit_41])

/-- what SIGNS tells -/
def sgnV (l : T) : Option V := if l = [43] then some (.bl true) else if l = [45] then some (.bl false) else if l = [46] then some (.str (tx [])) else none
structure Signs (K : PySem.W.Frag) (w : World) (mg : Str → Option Value) (dS : Addr) : Prop where
  g : ∃ u, mg "SIGNS" = some u ∧ RelV (.ref dS) u
  lk : ∃ es n, KDict K w dS es n
  no : ∀ l, sgnV l = none → PySem.W.nsIn K dS (tx l) = some none
  yes : ∀ l v, sgnV l = some v → ∃ u, PySem.W.nsIn K dS (tx l) = some (some u) ∧ RelV v u
section
variable {P : Program} {w : World} {K : PySem.W.Frag} {mg : Str → Option Value} {base : Heap} {CM dS : Addr}
/-- the value of data that are no tuple -/
def valD : PyData → V
  | .bool b => .bl b
  | .int i => .int i
  | .str s => .str s
  | _ => .non
def spAtomR (CM : Addr) : Sp := fun vs H Q E => ∃ l, vs = [.str (tx l)] ∧ l.length ≤ 100000 ∧ (∀ d, rdAtom l = some d → ∀ H', Ex H H' → Q (valD d) H') ∧ (rdAtom l = none → ∀ H', Ex H H' → E (.ref CM) none H')
theorem ok_read_atom {f f1 f2 : Addr} {fd fd1 fd2 : FuncData} (D : DefAt K mg "read_atom" s_read_atom f fd ["piece"]) (T : Txt K mg CM) (S : Signs K w mg dS) (nd : base.NoDigits)
    (D_is_word : DefAt K mg "is_word" s_is_word f1 fd1 ["value"]) (D_read_whole : DefAt K mg "read_whole" s_read_whole f2 fd2 ["text"]) : FnOk P w K mg base (L2N.CX P w) 2 f fd ["piece"] (spAtomR CM) := by
  have G_is_word : FnOk P w K mg base CX0 1 f1 fd1 ["value"] (spIsWord K) := ok_is_word D_is_word T
  have G_read_whole : FnOk P w K mg base (L2N.CX P w) 1 f2 fd2 ["text"] (spWholeR CM) := ok_read_whole D_read_whole T nd
  obtain ⟨es, n, kd_SIGNS⟩ := S.lk
  refine okN D.fn sc_read_atom (fun vs H Q E h => ?_) (fun cdv A outer s H vs Q E hr h => ?_)
  · obtain ⟨l, rfl, _⟩ := h
    rfl
  · obtain ⟨l, rfl, hl, q, qE⟩ := h
    have hu := u65 hr
    refine ⟨_, (pss_cons (ps_if (pt_cmpR (op_in_kd kd_SIGNS) (pv 0) (k_glob rfl S.g) (by rfl)) (pss_one (ps_ret (pe_ix ix_kdict (k_glob rfl S.g) (pv 0) (fun _ _ => rfl)))) pss_nil)
      (pss_one (ps_ret (pe_ifExp (w_tru (K := K) (pe_call G_is_word (hr.mono (by decide)) rfl D_is_word.g D_is_word.kp D_is_word.b .nil pass0 (pa_cons (pv 0) pa_nil))) (pv 0) (pe_call G_read_whole (hr.mono (by decide)) rfl D_read_whole.g D_read_whole.kp D_read_whole.b .nil passN (pa_cons (pv 0) pa_nil)))))), ?_⟩
    walk_at "kx"
    cases hsg : sgnV l with
    | some v =>
      obtain ⟨u, hu1, hu2⟩ := S.yes l v hsg
      refine ⟨tx l, some u, rfl, rfl, hu1, ?_⟩
      walk_at "kx"
      refine ifY rfl ?_
      walk_at "kx"
      refine ⟨_, tx l, v, rfl, rfl, ⟨es, n, u, kd_SIGNS.at_, kd_SIGNS.lit, hu1, hu2⟩, ?_⟩
      have ev : ∃ d, rdAtom l = some d ∧ valD d = v := by
        unfold sgnV at hsg
        unfold rdAtom
        split at hsg
        · cases hsg
          exact ⟨_, if_pos (by assumption), rfl⟩
        · rename_i h1
          split at hsg
          · rename_i h2
            cases hsg
            exact ⟨.bool false, by rw [if_neg h1, if_pos h2], rfl⟩
          · rename_i h2
            split at hsg
            · rename_i h3
              cases hsg
              exact ⟨.str (tx []), by rw [if_neg h1, if_neg h2, if_pos h3], rfl⟩
            · cases hsg
      obtain ⟨d, e1, rfl⟩ := ev
      exact q d e1 H (Evl.Ex.refl H)
    | none =>
      have e0 : rdAtom l = if isWord l = true then some (.str (tx l)) else if okNum l = true then some (.int (numVal l)) else none := by
        unfold sgnV at hsg
        unfold rdAtom
        by_cases h1 : l = [43]
        · rw [if_pos h1] at hsg; cases hsg
        · rw [if_neg h1] at hsg ⊢
          by_cases h2 : l = [45]
          · rw [if_pos h2] at hsg; cases hsg
          · rw [if_neg h2] at hsg ⊢
            by_cases h3 : l = [46]
            · rw [if_pos h3] at hsg; cases hsg
            · rw [if_neg h3]
      refine ⟨tx l, none, rfl, rfl, S.no l hsg, ?_⟩
      walk_at "kx"
      refine ifF rfl ?_
      walk_at "kx"
      refine ⟨.str (tx l), .str (tx l), rfl, .str _, fun s e => by cases e; rw [tx_len]; have := sizeLine_eq; omega, fun H1 e1 => ?_⟩
      walk_at "kx"
      have ew : wordD (.str (tx l)) = isWord l := by simp only [wordD, tx_list]
      rw [ew]
      refine ifT (fun h1 => ?_) (fun h1 => ?_)
      · rw [if_pos h1] at e0
        walk_at "kx"
        exact q _ e0 H1 e1
      · rw [if_neg (by rw [h1]; exact Bool.false_ne_true)] at e0
        walk_at "kx"
        refine ⟨l, rfl, hl, fun ho H2 e2 => ?_, fun ho H2 e2 => ?_⟩
        · rw [if_pos ho] at e0
          exact q _ e0 H2 (e1.trans e2)
        · rw [if_neg (by rw [ho]; exact Bool.false_ne_true)] at e0
          exact qE e0 H2 (e1.trans e2)
end
end K66

namespace K66
open PySem PySem.Spec PyProof.Rows L2 KX M53 KM
local macro_rules | `(tactic| walk_at "kx1") => `(tactic| first
  | (with_reducible refine q_seq ?_) | (with_reducible refine q_ifs ?_) | (with_reducible refine q_asg ?_) | (with_reducible refine q_gname ?_) | (with_reducible refine q_ret ?_)
  | (with_reducible refine q_drop ?_) | (with_reducible refine q_next ?_) | (with_reducible refine q_par ?_) | (with_reducible refine q_sfld ?_) | (with_reducible refine q_rs ?_) | (with_reducible refine q_gsub ?_) | (with_reducible refine q_retN ?_)
  | ((with_reducible show tVar _ _ _ _); (refine q_var rfl ?_)) | (with_reducible refine q_c ?_) | (with_reducible refine q_op ?_) | (with_reducible refine q_un ?_) | (with_reducible refine q_neg ?_) | (with_reducible refine q_cb ?_)
  | (with_reducible refine q_nil ?_) | (with_reducible refine q_cons ?_) | (with_reducible refine q_tup ?_) | (with_reducible refine q_lst ?_) | (with_reducible refine q_if ?_)
  | (with_reducible refine q_notT ?_) | (with_reducible refine q_call ?_) | (with_reducible refine q_callS ?_) | (with_reducible refine q_fld ?_)
  | (with_reducible refine q_bm ?_) | (with_reducible refine q_bm0 ?_) | (with_reducible refine q_sl ?_) | (with_reducible refine q_nopart ?_) | (with_reducible refine q_part ?_) | (with_reducible refine q_meth ?_) | (with_reducible refine q_make ?_)
  | (with_reducible refine q_test ?_) | (with_reducible refine q_tB ?_) | (with_reducible refine q_tru ?_) | (with_reducible refine q_not ?_)
  | (with_reducible refine q_blk ?_) | (with_reducible refine q_tv ?_) | (with_reducible refine q_addI ?_) | (with_reducible refine q_subI ?_) | (with_reducible refine q_eqI ?_) | (with_reducible refine q_neI ?_)
  | (with_reducible refine q_for ?_) | (with_reducible refine q_lc ?_) | (with_reducible refine q_iList ?_) | (with_reducible refine q_iTup ?_) | (with_reducible refine q_iStr ?_) | (with_reducible refine q_iRng1 ?_) | (with_reducible refine q_iRng2 ?_) | (with_reducible refine q_iRng3 ?_) | (with_reducible refine q_gcons ?_) | (with_reducible refine q_gnil ?_) | (with_reducible refine q_yes ?_) | (with_reducible refine q_ltI ?_) | (with_reducible refine q_iEnumS ?_) | (with_reducible refine q_pi ?_) | (with_reducible refine q_leI ?_) | (with_reducible refine q_gtI ?_) | (with_reducible refine q_geI ?_) | (with_reducible refine q_leT ?_) | (with_reducible refine q_intI ?_) | (with_reducible refine q_abs ?_) | (with_reducible refine q_eqT ?_) | (with_reducible refine q_neT ?_) | (with_reducible refine q_par3 ?_) | (with_reducible refine q_isN ?_) | (with_reducible refine q_notN ?_))
local macro_rules | `(tactic| walk_at "kx") => `(tactic| repeat walk_at "kx1")
local macro_rules | `(tactic| walk_at "kxs") => `(tactic| repeat (first | walk_at "kx1" | (with_reducible refine q_andT ?_) | (with_reducible refine q_orT ?_) | (with_reducible refine q_chain ?_) | (with_reducible refine q_and ?_) | (with_reducible refine q_or ?_)))
local macro_rules | `(tactic| walk_at "lits") => `(tactic| simp only [lit_0, lit_1, lit_2, lit_3, lit_4, lit_5, lit_6, lit_7, lit_8, lit_9, lit_10, lit_11, lit_12, lit_13, lit_14, lit_15, lit_16, lit_17, lit_18, lit_19, lit_20, lit_21, lit_22, lit_23, lit_24, lit_25, lit_26, lit_27, lit_28, lit_29, lit_30, lit_31, lit_32, lit_33, lit_34, lit_35, lit_36, lit_37, lit_38, lit_39, lit_40, lit_41])

section
variable {P : Program} {w : World} {K : PySem.W.Frag} {mg : Str → Option Value} {base : Heap} {CM dS : Addr}
def spPieces : Sp := fun vs H Q _ => ∃ l, vs = [.str (tx l)] ∧ l.length ≤ 100000 ∧ ∀ p H', H p = none → Ex H H' → H' p = some (.lst ((pcs [] l).map fun t => .str (tx t))) → Q (.ref p) H'
theorem ok_pieces_of {f : Addr} {fd : FuncData} (D : DefAt K mg "pieces_of" s_pieces_of f fd ["text"]) (T : Txt K mg CM) : FnOk P w K mg base CX0 1 f fd ["text"] spPieces := by
  refine D.fn.ok sc_pieces_of (fun vs H Q E h => ?_) (fun cdv A outer s H vs Q E hr h => ?_)
  · obtain ⟨l, rfl, _⟩ := h
    rfl
  · obtain ⟨l, rfl, hl, q⟩ := h
    have hu := u65 hr
    have hsl : l.length ≤ sizeLine := by have := sizeLine_eq; omega
    have hpl := pcs_len l []
    have hs0 := sizeLine_eq
    refine ⟨_, (pss_cons (ps_par (i := 1) (j := 2) rfl sc_pieces_of.nd rfl rfl (by decide) rfl rfl (pa_cons (pe_lst pa_nil) (pa_cons pe_int pa_nil)) (by rfl))
      (pss_cons (ps_for PassesOwn.never rfl (pi_enumS rfl T.b_enumerate (pa_cons (pv 0) pa_nil)) (w_gtup (K := K) (n := 2) rfl (pgs_cons (pg_name (i := 3) sc_pieces_of.nd rfl (Or.inl rfl)) (pgs_cons (pg_name (i := 4) sc_pieces_of.nd rfl (Or.inl rfl)) pgs_nil))) (pss_one (ps_if (pt_cmpR (w_in (K := K) hu) (pv 4) pe_str (by rfl)) (pss_cons (ps_if (pt_cmpR k_lt (pv 2) (pv 3) (nomark _)) (pss_one (ps_expr (wk_bm (K := K) (pe_bm PySem.F.plainAttrs_list PySem.F.slot_list_append PySem.F.type_list_append mt_append (pv 1) (pa_cons (pe_slice (w_sl (K := K)) (pv 0) (po_some (pv 2)) (po_some (pv 3))) pa_nil))))) pss_nil)
      (pss_cons (ps_expr (wk_bm (K := K) (pe_bm PySem.F.plainAttrs_list PySem.F.slot_list_append PySem.F.type_list_append mt_append (pv 1) (pa_cons (pv 4) pa_nil))))
      (pss_one (ps_set (i := 2) sc_pieces_of.nd rfl (Or.inl rfl) (pe_op (w_add (K := K)) (pv 3) pe_int))))) pss_nil)))
      (pss_one (ps_ret (pe_op (w_add (K := K)) (pv 1) (pe_ifExp (pt_cmpR k_lt (pv 2) (pe_callB (w_len (K := K)) rfl T.b_len bb_len (pa_cons (pv 0) pa_nil)) (nomark _)) (pe_lst (pa_cons (pe_slice (w_sl (K := K)) (pv 0) (po_some (pv 2)) po_none) pa_nil)) (pe_lst pa_nil))))))), ?_⟩
    walk_at "lits"
    walk_at "kx"
    refine ⟨sml rfl, fun fl nfl => ?_⟩
    walk_at "kx"
    refine ⟨_, _, rfl, ?_⟩
    walk_at "kx"
    refine ⟨_, rfl, ?_⟩
    refine fo_enumS (fun i σ H' => i ≤ l.length ∧ ∃ (s : Nat) (fs : List (List Nat)) (o3 o4 : Option V), σ = [some (.str (tx l)), some (.ref fl), some (.int (s : Nat)), o3, o4] ∧ Ex H H' ∧ H' fl = some (.lst (fs.map fun t => .str (tx t))) ∧ s ≤ i ∧ fs ++ pcs ((l.drop s).take (i - s)) (l.drop i) = pcs [] l)
      ⟨Nat.zero_le _, 0, [], none, none, rfl, Evl.Ex.new nfl, upd_same, Nat.le_refl _, rfl⟩ ?_ ?_
    · rintro i c σ H' B hc nB ⟨hi, s, fs, o3, o4, rfl, e1, hf, hsi, ep⟩
      obtain ⟨hil, ec⟩ := List.getElem?_eq_some_iff.mp hc
      have ed : l.drop i = c :: l.drop (i + 1) := by rw [List.drop_eq_getElem_cons hil, ec]
      have e2 := e1.trans (Evl.Ex.new nB (o := .tup [.int (i : Nat), .str (tx [c])]))
      have hf2 : upd H' B (.tup [.int (i : Nat), .str (tx [c])]) fl = some (.lst (fs.map fun t => .str (tx t))) := Evl.Ex.new nB _ _ hf
      have hB : upd H' B (.tup [.int (i : Nat), .str (tx [c])]) B = _ := upd_same
      generalize upd H' B (.tup [.int (i : Nat), .str (tx [c])]) = H2 at e2 hf2 hB
      have hfl := congrArg List.length ep
      rw [List.length_append] at hfl
      refine q_gtup ⟨B, _, rfl, SqT.of hB, rfl, ?_⟩
      walk_at "kx"
      refine q_inS (in_sep c) ?_
      walk_at "kx"
      have cur_nil : (l.drop s).take (i - s) = [] ↔ ¬ s < i := by
        rw [← List.length_eq_zero_iff, List.length_take, List.length_drop]
        omega
      refine ifT (fun h1 => ?_) (fun h1 => ?_)
      · rw [ed, pcs_sep h1] at ep
        walk_at "kx"
        have fin : ∀ (fs2 : List (List Nat)) (H3 : Hp), fs2 = fs ++ tok ((l.drop s).take (i - s)) → Ex H H3 → H3 fl = some (.lst (fs2.map fun t => .str (tx t))) → ∃ (s' : Nat) (fs' : List (List Nat)) (o3 o4 : Option V),
            [some (V.str (tx l)), some (.ref fl), some (.int ((i : Nat) + 1)), some (.int (i : Nat)), some (.str (tx [c]))] = [some (V.str (tx l)), some (.ref fl), some (.int (s' : Nat)), o3, o4] ∧
            Ex H (upd H3 fl (.lst ((fs2.map fun t => V.str (tx t)) ++ [.str (tx [c])]))) ∧ (upd H3 fl (.lst ((fs2.map fun t => V.str (tx t)) ++ [.str (tx [c])]))) fl = some (.lst (fs'.map fun t => .str (tx t))) ∧ s' ≤ i + 1 ∧ fs' ++ pcs ((l.drop s').take (i + 1 - s')) (l.drop (i + 1)) = pcs [] l := by
          intro fs2 H3 e3 e4 h3
          refine ⟨i + 1, fs2 ++ [[c]], _, _, rfl, Evl.Ex.mut e4 nfl, by rw [upd_same, List.map_append]; rfl, Nat.le_refl _, ?_⟩
          rw [Nat.sub_self, List.take_zero, e3, ← ep]
          simp
        by_cases hsi2 : s < i
        · have ht : tok ((l.drop s).take (i - s)) = [(l.drop s).take (i - s)] := if_neg (fun z => cur_nil.mp z hsi2)
          refine ifY (decide_eq_true (by omega)) ?_
          walk_at "kx"
          refine ⟨ty_lst hf2, ?_⟩
          walk_at "kx"
          refine q_slMid s i hsl hi ?_
          walk_at "kx"
          refine q_app hf2 (by rw [List.length_map]; omega) ?_
          have e3 := Evl.Ex.mut (o := .lst ((fs.map fun t => V.str (tx t)) ++ [.str (tx ((l.drop s).take (i - s)))])) e2 nfl
          have hf3 : upd H2 fl (.lst ((fs.map fun t => V.str (tx t)) ++ [.str (tx ((l.drop s).take (i - s)))])) fl = _ := upd_same
          generalize upd H2 fl _ = H3 at e3 hf3
          have hf4 : H3 fl = some (.lst ((fs ++ [(l.drop s).take (i - s)]).map fun t => .str (tx t))) := by rw [hf3, List.map_append]; rfl
          walk_at "kx"
          refine ⟨ty_lst hf4, ?_⟩
          walk_at "kx"
          refine q_app hf4 (by rw [List.length_map, List.length_append]; simp only [List.length_cons, List.length_nil]; omega) ?_
          walk_at "kx"
          exact ⟨by omega, fin _ H3 (by rw [ht]) e3 hf4⟩
        · have ht : tok ((l.drop s).take (i - s)) = [] := if_pos (cur_nil.mpr hsi2)
          refine ifF (decide_eq_false (by omega)) ?_
          walk_at "kx"
          refine ⟨ty_lst hf2, ?_⟩
          walk_at "kx"
          refine q_app hf2 (by rw [List.length_map]; omega) ?_
          walk_at "kx"
          exact ⟨by omega, fin _ H2 (by rw [ht, List.append_nil]) e2 hf2⟩
      · rw [ed, pcs_no h1] at ep
        walk_at "kx"
        refine ⟨by omega, s, fs, _, _, rfl, e2, hf2, by omega, ?_⟩
        rw [← ep]
        congr 2
        have e5 : i + 1 - s = (i - s) + 1 := by omega
        rw [e5, List.take_add_one, List.getElem?_drop]
        congr 1
        have e6 : s + (i - s) = i := by omega
        rw [e6, hc]
        rfl
    · rintro σ H' ⟨hi, s, fs, o3, o4, rfl, e1, hf, hsi, ep⟩
      have hfl := congrArg List.length ep
      rw [List.length_append] at hfl
      walk_at "kx"
      refine q_lenS hsl ?_
      walk_at "kx"
      rw [List.drop_length] at ep
      have ep2 : fs ++ tok (l.drop s) = pcs [] l := by
        rw [← ep]
        have e7 : (l.drop s).take (l.length - s) = l.drop s := List.take_of_length_le (by rw [List.length_drop]; exact Nat.le_refl _)
        rw [e7]
        rfl
      by_cases h2 : s < l.length
      · have ht : tok (l.drop s) = [l.drop s] := if_neg (fun z => by have := congrArg List.length z; rw [List.length_drop] at this; simp at this; omega)
        refine ifY (decide_eq_true (by omega)) ?_
        walk_at "kx"
        refine q_slFrom s hsl ?_
        walk_at "kx"
        refine ⟨sml rfl, fun p2 np2 => ?_⟩
        have npf : fl ≠ p2 := ne_of_none hf np2
        refine q_cat (by rw [upd_ne npf]; exact hf) upd_same (by rw [List.length_map]; simp only [List.length_cons, List.length_nil]; omega) (fun p np => ?_)
        have e3 := e1.trans (Evl.Ex.new np2 (o := .lst [V.str (tx (l.drop s))]))
        refine q p _ (Evl.fresh_back e3 np) (e3.trans (Evl.Ex.new np)) ?_
        rw [upd_same, ← ep2, ht, List.map_append]
        rfl
      · have ht : tok (l.drop s) = [] := if_pos (List.drop_eq_nil_of_le (by omega))
        refine ifF (decide_eq_false (by omega)) ?_
        walk_at "kx"
        refine ⟨sml rfl, fun p2 np2 => ?_⟩
        have npf : fl ≠ p2 := ne_of_none hf np2
        refine q_cat (by rw [upd_ne npf]; exact hf) upd_same (by rw [List.length_map]; simp only [List.length_nil]; omega) (fun p np => ?_)
        have e3 := e1.trans (Evl.Ex.new np2 (o := .lst []))
        refine q p _ (Evl.fresh_back e3 np) (e3.trans (Evl.Ex.new np)) ?_
        rw [upd_same, ← ep2, ht, List.append_nil, List.append_nil]
end
end K66

namespace K66
open PySem PySem.Spec PyProof.Rows L2 KX M53 KM
local macro_rules | `(tactic| walk_at "kx1") => `(tactic| first
  | (with_reducible refine q_seq ?_) | (with_reducible refine q_ifs ?_) | (with_reducible refine q_asg ?_) | (with_reducible refine q_gname ?_) | (with_reducible refine q_ret ?_)
  | (with_reducible refine q_drop ?_) | (with_reducible refine q_next ?_) | (with_reducible refine q_par ?_) | (with_reducible refine q_sfld ?_) | (with_reducible refine q_rs ?_) | (with_reducible refine q_gsub ?_) | (with_reducible refine q_retN ?_)
  | ((with_reducible show tVar _ _ _ _); (refine q_var rfl ?_)) | (with_reducible refine q_c ?_) | (with_reducible refine q_op ?_) | (with_reducible refine q_un ?_) | (with_reducible refine q_neg ?_) | (with_reducible refine q_cb ?_)
  | (with_reducible refine q_nil ?_) | (with_reducible refine q_cons ?_) | (with_reducible refine q_tup ?_) | (with_reducible refine q_lst ?_) | (with_reducible refine q_if ?_)
  | (with_reducible refine q_notT ?_) | (with_reducible refine q_call ?_) | (with_reducible refine q_callS ?_) | (with_reducible refine q_fld ?_)
  | (with_reducible refine q_bm ?_) | (with_reducible refine q_bm0 ?_) | (with_reducible refine q_sl ?_) | (with_reducible refine q_nopart ?_) | (with_reducible refine q_part ?_) | (with_reducible refine q_meth ?_) | (with_reducible refine q_make ?_)
  | (with_reducible refine q_test ?_) | (with_reducible refine q_tB ?_) | (with_reducible refine q_tru ?_) | (with_reducible refine q_not ?_)
  | (with_reducible refine q_blk ?_) | (with_reducible refine q_tv ?_) | (with_reducible refine q_addI ?_) | (with_reducible refine q_subI ?_) | (with_reducible refine q_eqI ?_) | (with_reducible refine q_neI ?_)
  | (with_reducible refine q_for ?_) | (with_reducible refine q_lc ?_) | (with_reducible refine q_iList ?_) | (with_reducible refine q_iTup ?_) | (with_reducible refine q_iStr ?_) | (with_reducible refine q_iRng1 ?_) | (with_reducible refine q_iRng2 ?_) | (with_reducible refine q_iRng3 ?_) | (with_reducible refine q_gcons ?_) | (with_reducible refine q_gnil ?_) | (with_reducible refine q_yes ?_) | (with_reducible refine q_ltI ?_) | (with_reducible refine q_iEnumS ?_) | (with_reducible refine q_pi ?_) | (with_reducible refine q_leI ?_) | (with_reducible refine q_gtI ?_) | (with_reducible refine q_geI ?_) | (with_reducible refine q_leT ?_) | (with_reducible refine q_intI ?_) | (with_reducible refine q_abs ?_) | (with_reducible refine q_eqT ?_) | (with_reducible refine q_neT ?_) | (with_reducible refine q_par3 ?_) | (with_reducible refine q_isN ?_) | (with_reducible refine q_notN ?_))
local macro_rules | `(tactic| walk_at "kx") => `(tactic| repeat walk_at "kx1")
local macro_rules | `(tactic| walk_at "kxs") => `(tactic| repeat (first | walk_at "kx1" | (with_reducible refine q_andT ?_) | (with_reducible refine q_orT ?_) | (with_reducible refine q_chain ?_) | (with_reducible refine q_and ?_) | (with_reducible refine q_or ?_)))
local macro_rules | `(tactic| walk_at "lits") => `(tactic| simp only [lit_0, lit_1, lit_2, lit_3, lit_4, lit_5, lit_6, lit_7, lit_8, lit_9, lit_10, lit_11, lit_12, lit_13, lit_14, lit_15, lit_16, lit_17, lit_18, lit_19, lit_20, lit_21, lit_22, lit_23, lit_24, lit_25, lit_26, lit_27, lit_28, lit_29, lit_30, lit_31, lit_32, lit_33, lit_34, lit_35, lit_36, lit_37, lit_38, lit_39, lit_40, lit_41])

/-! ### a reader's object -/
def rf (lt : Addr) (b : Bool) (ld : Addr) : List (Str × V) := [("tuples", .ref lt), ("ready", .bl b), ("told", .ref ld)]
theorem n_tr : ¬ (("tuples" : Str) = "ready") := by decide +kernel
theorem n_tt : ¬ (("tuples" : Str) = "told") := by decide +kernel
theorem n_rt : ¬ (("ready" : Str) = "told") := by decide +kernel
theorem rf_tuples (lt : Addr) (b : Bool) (ld : Addr) : (rf lt b ld).lookup ("tuples" : Str) = some (.ref lt) := by
  unfold rf
  rw [List.lookup_cons, beq_self_eq_true]
theorem rf_ready (lt : Addr) (b : Bool) (ld : Addr) : (rf lt b ld).lookup ("ready" : Str) = some (.bl b) := by
  unfold rf
  rw [List.lookup_cons, beq_eq_false_iff_ne.mpr (fun z => n_tr z.symm)]
  show List.lookup _ _ = _
  rw [List.lookup_cons, beq_self_eq_true]
theorem rf_told (lt : Addr) (b : Bool) (ld : Addr) : (rf lt b ld).lookup ("told" : Str) = some (.ref ld) := by
  unfold rf
  rw [List.lookup_cons, beq_eq_false_iff_ne.mpr (fun z => n_tt z.symm)]
  show List.lookup _ _ = _
  rw [List.lookup_cons, beq_eq_false_iff_ne.mpr (fun z => n_rt z.symm)]
  show List.lookup _ _ = _
  rw [List.lookup_cons, beq_self_eq_true]
theorem rf_no (lt : Addr) (b : Bool) (ld : Addr) {m : Str} (h1 : ¬ m = "tuples") (h2 : ¬ m = "ready") (h3 : ¬ m = "told") : (rf lt b ld).lookup m = none := by
  unfold rf
  rw [List.lookup_cons, beq_eq_false_iff_ne.mpr h1]
  show List.lookup _ _ = _
  rw [List.lookup_cons, beq_eq_false_iff_ne.mpr h2]
  show List.lookup _ _ = _
  rw [List.lookup_cons, beq_eq_false_iff_ne.mpr h3]
  rfl
theorem rf_put (lt : Addr) (b b' : Bool) (ld : Addr) : putF "ready" (.bl b') (rf lt b ld) = rf lt b' ld := by
  unfold rf
  show (if ("tuples" : Str) = "ready" then _ else (("tuples" : Str), V.ref lt) :: (if ("ready" : Str) = "ready" then (("ready" : Str), V.bl b') :: [("told", V.ref ld)] else _)) = _
  rw [if_neg n_tr, if_pos rfl]
theorem rf_init (lt : Addr) (b : Bool) (ld : Addr) : putF "told" (.ref ld) (putF "ready" (.bl b) (putF "tuples" (.ref lt) [])) = rf lt b ld := by
  show putF "told" (.ref ld) (if ("tuples" : Str) = "ready" then _ else (("tuples" : Str), V.ref lt) :: [(("ready" : Str), V.bl b)]) = _
  rw [if_neg n_tr]
  show (if ("tuples" : Str) = "told" then _ else (("tuples" : Str), V.ref lt) :: (if ("ready" : Str) = "told" then _ else (("ready" : Str), V.bl b) :: [(("told" : Str), V.ref ld)])) = _
  rw [if_neg n_tt, if_neg n_rt]
  rfl
def Stk (K : PySem.W.Frag) (H : Hp) : List Addr → List (List PyData) → Prop
  | [], [] => True
  | a :: as, x :: xs => (∃ vs, H a = some (.lst vs) ∧ DpAll K H vs x) ∧ Stk K H as xs
  | _, _ => False
structure RdD where
  dx : Addr
  lt : Addr
  ld : Addr
  as : List Addr
structure RdAt (K : PySem.W.Frag) (C : Addr) (H0 H : Hp) (r : Addr) (S : RS) (D : RdD) : Prop where
  ex : Ex H0 H
  ob : H r = some (.ins C D.dx (rf D.lt S.ready D.ld))
  tu : H D.lt = some (.lst (D.as.map V.ref))
  to : ∃ vd, H D.ld = some (.lst vd) ∧ DpAll K H vd S.told
  st : Stk K H D.as S.stack
  nr : H0 r = none
  nt : H0 D.lt = none
  nl : H0 D.ld = none
  na : ∀ a ∈ D.as, H0 a = none
  nd : D.as.Nodup
  ta : D.lt ∉ D.as
  la : D.ld ∉ D.as
  tl : D.lt ≠ D.ld
  fl : flatRS S = true
def Rd (K : PySem.W.Frag) (C : Addr) (H0 H : Hp) (r : Addr) (S : RS) : Prop := ∃ D, RdAt K C H0 H r S D
section
variable {K : PySem.W.Frag} {C r : Addr} {H0 H H' : Hp} {S : RS} {D : RdD}
theorem Stk.keep : ∀ {as : List Addr} {xs : List (List PyData)}, (∀ x ∈ xs, flatDs x = true) → Kt H H' → (∀ a ∈ as, ∀ vs, H a = some (.lst vs) → H' a = some (.lst vs)) → Stk K H as xs → Stk K H' as xs
  | [], [], _, _, _, _ => trivial
  | a :: as, x :: xs, f, k, h, ⟨⟨vs, h1, h2⟩, h3⟩ => ⟨⟨vs, h a (by simp) vs h1, dpa_kt k (f x (by simp)) h2⟩, Stk.keep (fun y hy => f y (by simp [hy])) k (fun b hb => h b (by simp [hb])) h3⟩
  | [], _ :: _, _, _, _, h => h.elim
  | _ :: _, [], _, _, _, h => h.elim
theorem Stk.len : ∀ {as : List Addr} {xs : List (List PyData)}, Stk K H as xs → as.length = xs.length
  | [], [], _ => rfl
  | _ :: _, _ :: _, ⟨_, h⟩ => by simp [Stk.len h]
  | [], _ :: _, h => h.elim
  | _ :: _, [], h => h.elim
theorem Stk.app : ∀ {as : List Addr} {xs : List (List PyData)} {a : Addr} {x : List PyData} {vs : List V}, Stk K H as xs → H a = some (.lst vs) → DpAll K H vs x → Stk K H (as ++ [a]) (xs ++ [x])
  | [], [], _, _, _, _, h1, h2 => ⟨⟨_, h1, h2⟩, trivial⟩
  | _ :: _, _ :: _, _, _, _, ⟨h, h3⟩, h1, h2 => ⟨h, Stk.app h3 h1 h2⟩
  | [], _ :: _, _, _, _, h, _, _ => h.elim
  | _ :: _, [], _, _, _, h, _, _ => h.elim
theorem Stk.last : ∀ {as : List Addr} {xs : List (List PyData)} {x : List PyData}, Stk K H as (xs ++ [x]) → ∃ as0 a vs, as = as0 ++ [a] ∧ Stk K H as0 xs ∧ H a = some (.lst vs) ∧ DpAll K H vs x
  | [], [], _, h => h.elim
  | [], _ :: _, _, h => h.elim
  | [a], [], x, ⟨⟨vs, h1, h2⟩, _⟩ => ⟨[], a, vs, rfl, trivial, h1, h2⟩
  | _ :: _ :: _, [], _, ⟨_, h⟩ => h.elim
  | a :: as, y :: xs, x, ⟨h, h3⟩ => by
    obtain ⟨as0, b, vs, e, g1, g2, g3⟩ := Stk.last h3
    exact ⟨a :: as0, b, vs, by rw [e]; rfl, ⟨h, g1⟩, g2, g3⟩
theorem flat_all (h : flatRS S = true) : (∀ x ∈ S.stack, flatDs x = true) ∧ flatDs S.told = true := by
  unfold flatRS at h
  rw [Bool.and_eq_true] at h
  exact ⟨List.all_eq_true.mp h.1, h.2⟩
/-- all stands but p, which may be changed -/
theorem RdAt.but {p : Addr} {o : HO} (R : RdAt K C H0 H r S D) (hp : H0 p = none) : Ex H0 (upd H p o) := Evl.Ex.mut R.ex hp
theorem RdAt.rlt (R : RdAt K C H0 H r S D) : r ≠ D.lt := ne_of R.ob R.tu (fun z => by cases z)
theorem RdAt.rld (R : RdAt K C H0 H r S D) : r ≠ D.ld := by
  obtain ⟨vd, h, _⟩ := R.to
  exact ne_of R.ob h (fun z => by cases z)
theorem Stk.mem : ∀ {as : List Addr} {xs : List (List PyData)} {a : Addr}, Stk K H as xs → a ∈ as → ∃ vs, H a = some (.lst vs)
  | a :: as, x :: xs, b, ⟨⟨vs, h1, _⟩, h3⟩, hb => by
    rcases List.mem_cons.mp hb with rfl | hb
    · exact ⟨vs, h1⟩
    · exact Stk.mem h3 hb
  | [], _, _, _, hb => by cases hb
  | _ :: _, [], _, h, _ => h.elim
theorem RdAt.ra (R : RdAt K C H0 H r S D) : r ∉ D.as := fun h => by
  obtain ⟨vs, e⟩ := R.st.mem h
  rw [R.ob] at e
  cases e
theorem RdAt.grow (R : RdAt K C H0 H r S D) (e : Ex H H') : RdAt K C H0 H' r S D := by
  obtain ⟨vd, h1, h2⟩ := R.to
  exact ⟨R.ex.trans e, e _ _ R.ob, e _ _ R.tu, ⟨vd, e _ _ h1, dpa_ex e h2⟩, R.st.keep (flat_all R.fl).1 (Kt.of_ex e) (fun a _ vs h => e _ _ h), R.nr, R.nt, R.nl, R.na, R.nd, R.ta, R.la, R.tl, R.fl⟩
theorem RdAt.setReady (R : RdAt K C H0 H r S D) (b : Bool) : RdAt K C H0 (upd H r (.ins C D.dx (rf D.lt b D.ld))) r ⟨S.stack, b, S.told⟩ D := by
  obtain ⟨vd, h1, h2⟩ := R.to
  have k : Kt H (upd H r (.ins C D.dx (rf D.lt b D.ld))) := Kt.upd R.ob trivial
  exact ⟨R.but R.nr, upd_same, by rw [upd_ne R.rlt.symm]; exact R.tu, ⟨vd, by rw [upd_ne R.rld.symm]; exact h1, dpa_kt k (flat_all R.fl).2 h2⟩,
    R.st.keep (flat_all R.fl).1 k (fun a ha vs h => by rw [upd_ne (by rintro rfl; exact R.ra ha)]; exact h), R.nr, R.nt, R.nl, R.na, R.nd, R.ta, R.la, R.tl, R.fl⟩
theorem RdAt.toldPut {vd : List V} {v : V} {d : PyData} (R : RdAt K C H0 H r S D) (h1 : H D.ld = some (.lst vd)) (h2 : DpAll K H vd S.told) (hd : Dp K H v d) (hf : flatD d = true) :
    RdAt K C H0 (upd H D.ld (.lst (vd ++ [v]))) r ⟨S.stack, S.ready, S.told ++ [d]⟩ D := by
  have k : Kt H (upd H D.ld (.lst (vd ++ [v]))) := Kt.upd h1 trivial
  refine ⟨R.but R.nl, by rw [upd_ne R.rld]; exact R.ob, by rw [upd_ne R.tl]; exact R.tu, ⟨_, upd_same, dpa_app (dpa_kt k (flat_all R.fl).2 h2) (.cons (dp_kt k hf hd) .nil)⟩,
    R.st.keep (flat_all R.fl).1 k (fun a ha vs h => by rw [upd_ne (by rintro rfl; exact R.la ha)]; exact h), R.nr, R.nt, R.nl, R.na, R.nd, R.ta, R.la, R.tl, ?_⟩
  have := flat_all R.fl
  have h3 := R.fl
  unfold flatRS at h3 ⊢
  rw [Bool.and_eq_true] at h3 ⊢
  refine ⟨h3.1, ?_⟩
  show flatDs (S.told ++ [d]) = true
  rw [flatDs_app, h3.2]
  simp [flatDs, hf]
theorem RdAt.innerPut {as0 : List Addr} {a : Addr} {st0 : List (List PyData)} {x : List PyData} {vs : List V} {v : V} {d : PyData} {b : Bool} {told : List PyData} {dx lt ld : Addr}
    (R : RdAt K C H0 H r ⟨st0 ++ [x], b, told⟩ ⟨dx, lt, ld, as0 ++ [a]⟩) (h0 : Stk K H as0 st0) (h1 : H a = some (.lst vs)) (h2 : DpAll K H vs x) (hd : Dp K H v d) (hf : flatD d = true) :
    RdAt K C H0 (upd H a (.lst (vs ++ [v]))) r ⟨st0 ++ [x ++ [d]], b, told⟩ ⟨dx, lt, ld, as0 ++ [a]⟩ := by
  have k : Kt H (upd H a (.lst (vs ++ [v]))) := Kt.upd h1 trivial
  have fa := flat_all R.fl
  have hra : r ≠ a := fun z => R.ra (by simp [z])
  have hta : lt ≠ a := fun z => R.ta (by simp [z])
  have hla : ld ≠ a := fun z => R.la (by simp [z])
  have nd := R.nd
  rw [List.nodup_append] at nd
  obtain ⟨vd, g1, g2⟩ := R.to
  refine ⟨R.but (R.na a (by simp)), by rw [upd_ne hra]; exact R.ob, by rw [upd_ne hta]; exact R.tu, ⟨vd, by rw [upd_ne hla]; exact g1, dpa_kt k fa.2 g2⟩, ?_, R.nr, R.nt, R.nl, R.na, R.nd, R.ta, R.la, R.tl, ?_⟩
  · refine Stk.app (h0.keep (fun y hy => fa.1 y (by simp [hy])) k fun b hb vs h => ?_) upd_same (dpa_app (dpa_kt k (fa.1 x (by simp)) h2) (.cons (dp_kt k hf hd) .nil))
    rw [upd_ne (fun z => nd.2.2 b hb a (by simp) z)]
    exact h
  · have h3 := R.fl
    unfold flatRS at h3 ⊢
    simp only [List.all_append, List.all_cons, List.all_nil, Bool.and_true, flatDs_app, flatDs, hf, Bool.and_eq_true] at h3 ⊢
    exact ⟨⟨h3.1.1, h3.1.2⟩, h3.2⟩
theorem RdAt.pushNew {p : Addr} {st0 : List (List PyData)} {b : Bool} {told : List PyData} {dx lt ld : Addr} {as0 : List Addr} (R : RdAt K C H0 H r ⟨st0, b, told⟩ ⟨dx, lt, ld, as0⟩) (np : H p = none) :
    RdAt K C H0 (upd (upd H p (.lst [])) lt (.lst (as0.map V.ref ++ [.ref p]))) r ⟨st0 ++ [[]], b, told⟩ ⟨dx, lt, ld, as0 ++ [p]⟩ := by
  have R1 := R.grow (Evl.Ex.new np (o := .lst []))
  have hpa : p ∉ as0 := fun h => by
    obtain ⟨vs, e⟩ := R.st.mem h
    rw [np] at e
    cases e
  have hpt : lt ≠ p := ne_of_none R.tu np
  obtain ⟨vd0, g0, _⟩ := R.to
  have hpl : ld ≠ p := ne_of_none g0 np
  obtain ⟨vd, g1, g2⟩ := R1.to
  have fa := flat_all R.fl
  have k : Kt (upd H p (.lst [])) (upd (upd H p (.lst [])) lt (.lst (as0.map V.ref ++ [.ref p]))) := Kt.upd R1.tu trivial
  refine ⟨R1.but R.nt, by rw [upd_ne R1.rlt]; exact R1.ob, by rw [upd_same, List.map_append]; rfl, ⟨vd, by rw [upd_ne R.tl.symm]; exact g1, dpa_kt k fa.2 g2⟩, ?_, R.nr, R.nt, R.nl, ?_, ?_, ?_, ?_, R.tl, ?_⟩
  · refine Stk.app (R1.st.keep fa.1 k fun c hc vs h => by rw [upd_ne (by rintro rfl; exact R.ta hc)]; exact h) (vs := []) (by rw [upd_ne hpt.symm]; exact upd_same) .nil
  · intro c hc
    rcases List.mem_append.mp hc with h | h
    · exact R.na c h
    · rw [List.mem_singleton.mp h]
      exact Evl.fresh_back R.ex np
  · rw [List.nodup_append]
    exact ⟨R.nd, by simp, fun c hc e he z => hpa (by rw [← List.mem_singleton.mp he, ← z]; exact hc)⟩
  · intro h
    rcases List.mem_append.mp h with h | h
    · exact R.ta h
    · exact hpt (List.mem_singleton.mp h)
  · intro h
    rcases List.mem_append.mp h with h | h
    · exact R.la h
    · exact hpl (List.mem_singleton.mp h)
  · have h3 := R.fl
    unfold flatRS at h3 ⊢
    simp only [List.all_append, List.all_cons, List.all_nil, Bool.and_true, flatDs, Bool.and_eq_true] at h3 ⊢
    exact h3
theorem RdAt.popLast {as0 : List Addr} {a : Addr} {st0 : List (List PyData)} {x : List PyData} {b : Bool} {told : List PyData} {dx lt ld : Addr}
    (R : RdAt K C H0 H r ⟨st0 ++ [x], b, told⟩ ⟨dx, lt, ld, as0 ++ [a]⟩) (h0 : Stk K H as0 st0) : RdAt K C H0 (upd H lt (.lst ((as0 ++ [a]).map V.ref).dropLast)) r ⟨st0, b, told⟩ ⟨dx, lt, ld, as0⟩ := by
  have fa := flat_all R.fl
  have k : Kt H (upd H lt (.lst ((as0 ++ [a]).map V.ref).dropLast)) := Kt.upd R.tu trivial
  obtain ⟨vd, g1, g2⟩ := R.to
  have nd := R.nd
  rw [List.nodup_append] at nd
  refine ⟨R.but R.nt, by rw [upd_ne R.rlt]; exact R.ob, by rw [upd_same, List.map_append]; simp, ⟨vd, by rw [upd_ne R.tl.symm]; exact g1, dpa_kt k fa.2 g2⟩, ?_, R.nr, R.nt, R.nl, fun c hc => R.na c (by simp [hc]), nd.1, fun h => R.ta (by simp [h]), fun h => R.la (by simp [h]), R.tl, ?_⟩
  · exact h0.keep (fun y hy => fa.1 y (by simp [hy])) k fun c hc vs h => by rw [upd_ne (by rintro rfl; exact R.ta (by simp [hc]))]; exact h
  · have h3 := R.fl
    unfold flatRS at h3 ⊢
    simp only [List.all_append, List.all_cons, List.all_nil, Bool.and_true, Bool.and_eq_true] at h3 ⊢
    exact ⟨h3.1.1, h3.2⟩
end
end K66

namespace K66
open PySem PySem.Spec PyProof.Rows L2 KX M53 KM
local macro_rules | `(tactic| walk_at "kx1") => `(tactic| first
  | (with_reducible refine q_seq ?_) | (with_reducible refine q_ifs ?_) | (with_reducible refine q_asg ?_) | (with_reducible refine q_gname ?_) | (with_reducible refine q_ret ?_)
  | (with_reducible refine q_drop ?_) | (with_reducible refine q_next ?_) | (with_reducible refine q_par ?_) | (with_reducible refine q_sfld ?_) | (with_reducible refine q_rs ?_) | (with_reducible refine q_gsub ?_) | (with_reducible refine q_retN ?_)
  | ((with_reducible show tVar _ _ _ _); (refine q_var rfl ?_)) | (with_reducible refine q_c ?_) | (with_reducible refine q_op ?_) | (with_reducible refine q_un ?_) | (with_reducible refine q_neg ?_) | (with_reducible refine q_cb ?_)
  | (with_reducible refine q_nil ?_) | (with_reducible refine q_cons ?_) | (with_reducible refine q_tup ?_) | (with_reducible refine q_lst ?_) | (with_reducible refine q_if ?_)
  | (with_reducible refine q_notT ?_) | (with_reducible refine q_call ?_) | (with_reducible refine q_callS ?_) | (with_reducible refine q_fld ?_)
  | (with_reducible refine q_bm ?_) | (with_reducible refine q_bm0 ?_) | (with_reducible refine q_sl ?_) | (with_reducible refine q_nopart ?_) | (with_reducible refine q_part ?_) | (with_reducible refine q_meth ?_) | (with_reducible refine q_make ?_)
  | (with_reducible refine q_test ?_) | (with_reducible refine q_tB ?_) | (with_reducible refine q_tru ?_) | (with_reducible refine q_not ?_)
  | (with_reducible refine q_blk ?_) | (with_reducible refine q_tv ?_) | (with_reducible refine q_addI ?_) | (with_reducible refine q_subI ?_) | (with_reducible refine q_eqI ?_) | (with_reducible refine q_neI ?_)
  | (with_reducible refine q_for ?_) | (with_reducible refine q_lc ?_) | (with_reducible refine q_iList ?_) | (with_reducible refine q_iTup ?_) | (with_reducible refine q_iStr ?_) | (with_reducible refine q_iRng1 ?_) | (with_reducible refine q_iRng2 ?_) | (with_reducible refine q_iRng3 ?_) | (with_reducible refine q_gcons ?_) | (with_reducible refine q_gnil ?_) | (with_reducible refine q_yes ?_) | (with_reducible refine q_ltI ?_) | (with_reducible refine q_iEnumS ?_) | (with_reducible refine q_pi ?_) | (with_reducible refine q_leI ?_) | (with_reducible refine q_gtI ?_) | (with_reducible refine q_geI ?_) | (with_reducible refine q_leT ?_) | (with_reducible refine q_intI ?_) | (with_reducible refine q_abs ?_) | (with_reducible refine q_eqT ?_) | (with_reducible refine q_neT ?_) | (with_reducible refine q_par3 ?_) | (with_reducible refine q_isN ?_) | (with_reducible refine q_notN ?_))
local macro_rules | `(tactic| walk_at "kx") => `(tactic| repeat walk_at "kx1")
local macro_rules | `(tactic| walk_at "kxs") => `(tactic| repeat (first | walk_at "kx1" | (with_reducible refine q_andT ?_) | (with_reducible refine q_orT ?_) | (with_reducible refine q_chain ?_) | (with_reducible refine q_and ?_) | (with_reducible refine q_or ?_)))
local macro_rules | `(tactic| walk_at "lits") => `(tactic| simp only [lit_0, lit_1, lit_2, lit_3, lit_4, lit_5, lit_6, lit_7, lit_8, lit_9, lit_10, lit_11, lit_12, lit_13, lit_14, lit_15, lit_16, lit_17, lit_18, lit_19, lit_20, lit_21, lit_22, lit_23, lit_24, lit_25, lit_26, lit_27, lit_28, lit_29, lit_30, lit_31, lit_32, lit_33, lit_34, lit_35, lit_36, lit_37, lit_38, lit_39, lit_40, lit_41])

structure RdT (K : PySem.W.Frag) (C : Addr) : Prop where
  cl : Cls K C
  n1 : NoAttr K C "tuples"
  n2 : NoAttr K C "ready"
  n3 : NoAttr K C "told"
section
variable {P : Program} {w : World} {K : PySem.W.Frag} {mg : Str → Option Value} {base : Heap} {CM dS C : Addr}
def spRInit (K : PySem.W.Frag) (C : Addr) : Sp := fun vs H Q _ => ∃ H0 r dx, vs = [.ref r] ∧ H0 r = none ∧ Ex H0 H ∧ H r = some (.ins C dx []) ∧ ∀ H', Rd K C H0 H' r ⟨[], true, []⟩ → Q .non H'
theorem ok_rinit {f : Addr} {fd : FuncData} (F : Fun K "__init__" "DataReader.__init__" s_DataReader___init__ f fd) (T : Txt K mg CM) (RT : RdT K C) : FnOk P w K mg base CX0 1 f fd ["self"] (spRInit K C) := by
  refine F.ok sc_DataReader___init__ (fun vs H Q E h => ?_) (fun cdv A outer s H vs Q E hr h => ?_)
  · obtain ⟨H0, r, dx, rfl, _⟩ := h
    rfl
  · obtain ⟨H0, r, dx, rfl, nr, ex, hr0, q⟩ := h
    refine ⟨_, (pss_cons (w_sfld (K := K) (pv 0) (pe_lst pa_nil))
      (pss_cons (w_sfld (K := K) (pv 0) pe_bl)
      (pss_one (w_sfld (K := K) (pv 0) (pe_lst pa_nil))))), ?_⟩
    walk_at "kx"
    refine ⟨sml rfl, fun lt nlt => ?_⟩
    walk_at "kx"
    have r1 : r ≠ lt := ne_of_none hr0 nlt
    refine ⟨r, C, dx, [], rfl, by rw [upd_ne r1]; exact hr0, RT.cl, RT.n1, by decide, ?_⟩
    walk_at "kx"
    refine ⟨r, C, dx, _, rfl, upd_same, RT.cl, RT.n2, by show 1 < 1000; decide, ?_⟩
    walk_at "kx"
    refine ⟨sml rfl, fun ld nld => ?_⟩
    walk_at "kx"
    have r2 : r ≠ ld := ne_of_none upd_same nld
    have tl : lt ≠ ld := ne_of_none (by rw [upd_ne r1.symm, upd_ne r1.symm]; exact upd_same) nld
    refine ⟨r, C, dx, _, rfl, by rw [upd_ne r2]; exact upd_same, RT.cl, RT.n3, ?_, ?_⟩
    · show (putF "ready" (.bl true) (putF "tuples" (.ref lt) [])).length < 1000
      show (if ("tuples" : Str) = "ready" then _ else (("tuples" : Str), V.ref lt) :: [(("ready" : Str), V.bl true)]).length < 1000
      rw [if_neg n_tr]
      show 2 < 1000
      decide
    · rw [rf_init]
      have x1 : Ex H0 (upd H lt (.lst [])) := ex.trans (Evl.Ex.new nlt)
      have x2 := Evl.Ex.mut (o := .ins C dx (putF "tuples" (.ref lt) [])) x1 nr
      have x3 := Evl.Ex.mut (o := .ins C dx (putF "ready" (.bl true) (putF "tuples" (.ref lt) []))) x2 nr
      have x4 := x3.trans (Evl.Ex.new nld (o := .lst []))
      refine q _ ⟨⟨dx, lt, ld, []⟩, Evl.Ex.mut x4 nr, upd_same, ?_, ⟨[], ?_, .nil⟩, trivial, nr, Evl.fresh_back ex nlt, Evl.fresh_back x3 nld, by simp, List.nodup_nil, by simp, by simp, tl, rfl⟩
      · rw [upd_ne r1.symm, upd_ne tl, upd_ne r1.symm, upd_ne r1.symm]
        exact upd_same
      · rw [upd_ne r2.symm]
        exact upd_same
def spM (K : PySem.W.Frag) (C CM : Addr) (m : RS → Option RS) : Sp := fun vs H Q E => ∃ H0 r S, vs = [.ref r] ∧ Rd K C H0 H r S ∧ wt S ≤ 300000 ∧
  (∀ S', m S = some S' → ∀ H', Rd K C H0 H' r S' → Q .non H') ∧ (m S = none → ∀ H', Ex H0 H' → E (.ref CM) none H')
def spItemR (K : PySem.W.Frag) (C CM : Addr) : Sp := fun vs H Q E => ∃ H0 r v S d, vs = [.ref r, v] ∧ Rd K C H0 H r S ∧ wt S ≤ 300000 ∧ Dp K H v d ∧ flatD d = true ∧
  (∀ S', itemS S d = some S' → ∀ H', Rd K C H0 H' r S' → Q .non H') ∧ (itemS S d = none → ∀ H', Ex H0 H' → E (.ref CM) none H')
theorem wt_told {st : List (List PyData)} {b : Bool} {told : List PyData} : told.length ≤ wt ⟨st, b, told⟩ := Nat.le_add_left _ _
theorem wt_stack {st : List (List PyData)} {b : Bool} {told : List PyData} : st.length ≤ wt ⟨st, b, told⟩ := by
  unfold wt
  have : st.length ≤ (st.map fun x => x.length + 1).sum := by
    induction st with
    | nil => exact Nat.le_refl _
    | cons x r ih => simp only [List.length_cons, List.map_cons, List.sum_cons]; omega
  show st.length ≤ (st.map fun x => x.length + 1).sum + told.length
  omega
theorem wt_last {st : List (List PyData)} {x : List PyData} {b : Bool} {told : List PyData} : x.length ≤ wt ⟨st ++ [x], b, told⟩ := by
  unfold wt
  show x.length ≤ ((st ++ [x]).map fun x => x.length + 1).sum + told.length
  simp only [List.map_append, List.map_cons, List.map_nil, List.sum_append, List.sum_cons, List.sum_nil]
  omega
theorem ok_ritem {f : Addr} {fd : FuncData} (D : MethAt K C "item" "DataReader.item" s_DataReader_item f fd ["self", "value"]) (T : Txt K mg CM) (RT : RdT K C) : FnOk P w K mg base (L2N.CX P w) 1 f fd ["self", "value"] (spItemR K C CM) := by
  refine okN D.fn sc_DataReader_item (fun vs H Q E h => ?_) (fun cdv A outer s H vs Q E hr h => ?_)
  · obtain ⟨H0, r, v, S, d, rfl, _⟩ := h
    rfl
  · obtain ⟨H0, r, v, ⟨st, b, told⟩, d, rfl, ⟨⟨dx, lt, ld, as⟩, R⟩, hw, hd, hf, q, qE⟩ := h
    have hs0 := sizeLine_eq
    have hu := u65 hr
    refine ⟨_, (pss_cons (ps_if (pt_not (w_tru (K := K) (w_fld (K := K) (pv 0)))) (pss_one (ps_rsN rfl tkN T.x_Malformed)) pss_nil)
      (pss_cons (ps_if (pt_cmpR k_gt (pe_callB (w_len (K := K)) rfl T.b_len bb_len (pa_cons (w_fld (K := K) (pv 0)) pa_nil)) pe_int (nomark _)) (pss_one (ps_expr (wk_bm (K := K) (pe_bm PySem.F.plainAttrs_list PySem.F.slot_list_append PySem.F.type_list_append mt_append (pe_ix (w_ix (K := K)) (w_fld (K := K) (pv 0)) (pe_un un_neg pe_int) (fun _ _ => rfl)) (pa_cons (pv 1) pa_nil))))) (pss_one (ps_expr (wk_bm (K := K) (pe_bm PySem.F.plainAttrs_list PySem.F.slot_list_append PySem.F.type_list_append mt_append (w_fld (K := K) (pv 0)) (pa_cons (pv 1) pa_nil))))))
      (pss_one (w_sfld (K := K) (pv 0) pe_bl)))), ?_⟩
    walk_at "kx"
    refine ⟨r, C, dx, _, _, rfl, R.ob, RT.cl, RT.n2, rf_ready _ _ _, ?_⟩
    walk_at "kx"
    cases b with
    | false =>
      refine ifY rfl ?_
      exact qE (item_no _ _ _) H R.ex
    | true =>
      refine ifF rfl ?_
      walk_at "kx"
      refine ⟨r, C, dx, _, _, rfl, R.ob, RT.cl, RT.n1, rf_tuples _ _ _, ?_⟩
      walk_at "kx"
      refine q_lenL (SqL.of R.tu) ?_
      walk_at "kx"
      rcases List.eq_nil_or_concat st with rfl | ⟨st0, x, rfl⟩
      · have ha : as = [] := by have := R.st.len; simpa using this
        subst ha
        refine ifF rfl ?_
        walk_at "kx"
        refine ⟨r, C, dx, _, _, rfl, R.ob, RT.cl, RT.n3, rf_told _ _ _, ?_⟩
        obtain ⟨vd, h1, h2⟩ := R.to
        refine ⟨ty_lst h1, ?_⟩
        walk_at "kx"
        have hl : vd.length = told.length := dpa_len h2
        have hl2 := @wt_told [] true told
        refine q_app h1 (by omega) ?_
        have R2 := R.toldPut h1 h2 hd hf
        walk_at "kx"
        refine ⟨r, C, dx, _, rfl, R2.ob, RT.cl, RT.n2, by show 3 < 1000; decide, ?_⟩
        rw [rf_put]
        exact q _ (item_nil _ _) _ ⟨_, R2.setReady false⟩
      · rw [List.concat_eq_append] at *
        obtain ⟨as0, a, vs, rfl, h0, h1, h2⟩ := R.st.last
        refine ifY (decide_eq_true (by simp)) ?_
        walk_at "kx"
        refine ⟨r, C, dx, _, _, rfl, R.ob, RT.cl, RT.n1, rf_tuples _ _ _, ?_⟩
        walk_at "kx"
        refine q_ixLast (xs := as0.map V.ref) (v := .ref a) (by have e := SqL.of (K := K) R.tu; rw [List.map_append] at e; exact e) ?_
        refine ⟨ty_lst h1, ?_⟩
        walk_at "kx"
        have hl : vs.length = x.length := dpa_len h2
        have hl2 := @wt_last st0 x true told
        refine q_app h1 (by omega) ?_
        have R2 := R.innerPut h0 h1 h2 hd hf
        walk_at "kx"
        refine ⟨r, C, dx, _, rfl, R2.ob, RT.cl, RT.n2, by show 3 < 1000; decide, ?_⟩
        rw [rf_put]
        exact q _ (item_app _ _ _ _) _ ⟨_, R2.setReady false⟩
theorem ok_ropen {f : Addr} {fd : FuncData} (D : MethAt K C "open_one" "DataReader.open_one" s_DataReader_open_one f fd ["self"]) (T : Txt K mg CM) (RT : RdT K C) : FnOk P w K mg base (L2N.CX P w) 1 f fd ["self"] (spM K C CM openS) := by
  refine okN D.fn sc_DataReader_open_one (fun vs H Q E h => ?_) (fun cdv A outer s H vs Q E hr h => ?_)
  · obtain ⟨H0, r, S, rfl, _⟩ := h
    rfl
  · obtain ⟨H0, r, ⟨st, b, told⟩, rfl, ⟨⟨dx, lt, ld, as⟩, R⟩, hw, q, qE⟩ := h
    have hs0 := sizeLine_eq
    have hu := u65 hr
    have hal : as.length = st.length := R.st.len
    refine ⟨_, (pss_cons (ps_if (PW.pt (pw_or (pt_not (w_tru (K := K) (w_fld (K := K) (pv 0)))) (pw_or1 (pt_cmpR k_ge (pe_callB (w_len (K := K)) rfl T.b_len bb_len (pa_cons (w_fld (K := K) (pv 0)) pa_nil)) (k_glob rfl T.g_MOST_DEPTH) (nomark _))))) (pss_one (ps_rsN rfl tkN T.x_Malformed)) pss_nil)
      (pss_one (ps_expr (wk_bm (K := K) (pe_bm PySem.F.plainAttrs_list PySem.F.slot_list_append PySem.F.type_list_append mt_append (w_fld (K := K) (pv 0)) (pa_cons (pe_lst pa_nil) pa_nil)))))), ?_⟩
    walk_at "kx"
    refine q_orB (a := !b) (b := decide ((1000 : Int) ≤ ((as.map V.ref).length : Nat))) (fun R1 q => ?_) (fun _ R1 q => ?_) ?_
    · walk_at "kx"
      refine ⟨r, C, dx, _, _, rfl, R.ob, RT.cl, RT.n2, rf_ready _ _ _, ?_⟩
      walk_at "kx"
      exact q
    · walk_at "kx"
      refine ⟨r, C, dx, _, _, rfl, R.ob, RT.cl, RT.n1, rf_tuples _ _ _, ?_⟩
      walk_at "kx"
      refine q_lenL (SqL.of R.tu) ?_
      walk_at "kx"
      exact q
    rw [List.length_map, hal]
    refine ifT (fun h1 => ?_) (fun h1 => ?_)
    · refine qE ?_ H R.ex
      unfold openS
      refine if_pos ?_
      rw [Bool.or_eq_true] at h1
      rcases h1 with h1 | h1
      · exact .inl (by simpa using h1)
      · have := of_decide_eq_true h1
        exact .inr (by show 1000 ≤ st.length; omega)
    · rw [Bool.or_eq_false_iff] at h1
      have h2 := of_decide_eq_false h1.2
      have h3 : b = true := by simpa using h1.1
      subst h3
      walk_at "kx"
      refine ⟨r, C, dx, _, _, rfl, R.ob, RT.cl, RT.n1, rf_tuples _ _ _, ?_⟩
      refine ⟨ty_lst R.tu, ?_⟩
      walk_at "kx"
      refine ⟨sml rfl, fun p np => ?_⟩
      walk_at "kx"
      have hl2 := @wt_stack st true told
      have np2 : lt ≠ p := ne_of_none R.tu np
      refine q_app (by rw [upd_ne np2]; exact R.tu) (by rw [List.length_map]; show as.length < _; omega) ?_
      refine q ⟨st ++ [[]], true, told⟩ ?_ _ ⟨_, R.pushNew np⟩
      unfold openS
      exact if_neg (fun z => z.elim (fun e => by cases e) (fun e => by have e' : 1000 ≤ st.length := e; omega))
theorem ok_rcomma {f : Addr} {fd : FuncData} (D : MethAt K C "comma" "DataReader.comma" s_DataReader_comma f fd ["self"]) (T : Txt K mg CM) (RT : RdT K C) : FnOk P w K mg base (L2N.CX P w) 1 f fd ["self"] (spM K C CM commaS) := by
  refine okN D.fn sc_DataReader_comma (fun vs H Q E h => ?_) (fun cdv A outer s H vs Q E hr h => ?_)
  · obtain ⟨H0, r, S, rfl, _⟩ := h
    rfl
  · obtain ⟨H0, r, ⟨st, b, told⟩, rfl, ⟨⟨dx, lt, ld, as⟩, R⟩, hw, q, qE⟩ := h
    have hu := u65 hr
    have hal : as.length = st.length := R.st.len
    refine ⟨_, (pss_cons (ps_if (PW.pt (pw_or (w_tru (K := K) (w_fld (K := K) (pv 0))) (pw_or1 (pt_cmpR (w_eq (K := K) hu) (pe_callB (w_len (K := K)) rfl T.b_len bb_len (pa_cons (w_fld (K := K) (pv 0)) pa_nil)) pe_int (nomark _))))) (pss_one (ps_rsN rfl tkN T.x_Malformed)) pss_nil)
      (pss_one (w_sfld (K := K) (pv 0) pe_bl))), ?_⟩
    walk_at "kx"
    refine q_orB (a := b) (b := decide ((((as.map V.ref).length : Nat) : Int) = 0)) (fun R1 q => ?_) (fun _ R1 q => ?_) ?_
    · walk_at "kx"
      refine ⟨r, C, dx, _, _, rfl, R.ob, RT.cl, RT.n2, rf_ready _ _ _, ?_⟩
      walk_at "kx"
      exact q
    · walk_at "kx"
      refine ⟨r, C, dx, _, _, rfl, R.ob, RT.cl, RT.n1, rf_tuples _ _ _, ?_⟩
      walk_at "kx"
      refine q_lenL (SqL.of R.tu) ?_
      walk_at "kx"
      exact q
    rw [List.length_map, hal]
    refine ifT (fun h1 => ?_) (fun h1 => ?_)
    · refine qE ?_ H R.ex
      unfold commaS
      refine if_pos ?_
      rw [Bool.or_eq_true] at h1
      rcases h1 with h1 | h1
      · exact .inl h1
      · have := of_decide_eq_true h1
        exact .inr (List.length_eq_zero_iff.mp (by show st.length = 0; omega))
    · rw [Bool.or_eq_false_iff] at h1
      have h2 := of_decide_eq_false h1.2
      walk_at "kx"
      refine ⟨r, C, dx, _, rfl, R.ob, RT.cl, RT.n2, by show 3 < 1000; decide, ?_⟩
      rw [rf_put]
      refine q ⟨st, true, told⟩ ?_ _ ⟨_, R.setReady true⟩
      unfold commaS
      refine if_neg (fun z => z.elim (fun e => ?_) (fun e => ?_))
      · have e' : b = true := e
        rw [h1.1] at e'
        cases e'
      · have e' : st = [] := e
        rw [e'] at h2
        exact h2 rfl
theorem ok_rclose {f f1 : Addr} {fd fd1 : FuncData} (D : MethAt K C "close_one" "DataReader.close_one" s_DataReader_close_one f fd ["self"]) (D_DataReader_item : MethAt K C "item" "DataReader.item" s_DataReader_item f1 fd1 ["self", "value"]) (T : Txt K mg CM) (RT : RdT K C) :
    FnOk P w K mg base (L2N.CX P w) 2 f fd ["self"] (spM K C CM closeS) := by
  have G_DataReader_item : FnOk P w K mg base (L2N.CX P w) 1 f1 fd1 ["self", "value"] (spItemR K C CM) := ok_ritem D_DataReader_item T RT
  refine okN D.fn sc_DataReader_close_one (fun vs H Q E h => ?_) (fun cdv A outer s H vs Q E hr h => ?_)
  · obtain ⟨H0, r, S, rfl, _⟩ := h
    rfl
  · obtain ⟨H0, r, ⟨st, b, told⟩, rfl, ⟨⟨dx, lt, ld, as⟩, R⟩, hw, q, qE⟩ := h
    have hu := u65 hr
    have hal : as.length = st.length := R.st.len
    refine ⟨_, (pss_cons (ps_if (PW.pt (pw_or (pt_cmpR (w_eq (K := K) hu) (pe_callB (w_len (K := K)) rfl T.b_len bb_len (pa_cons (w_fld (K := K) (pv 0)) pa_nil)) pe_int (nomark _)) (pw_or1 (PW.pt (pw_and (w_tru (K := K) (w_fld (K := K) (pv 0))) (pw_and1 (pt_cmpR k_gt (pe_callB (w_len (K := K)) rfl T.b_len bb_len (pa_cons (pe_ix (w_ix (K := K)) (w_fld (K := K) (pv 0)) (pe_un un_neg pe_int) (fun _ _ => rfl)) pa_nil)) pe_int (nomark _)))))))) (pss_one (ps_rsN rfl tkN T.x_Malformed)) pss_nil)
      (pss_cons (ps_set (i := 1) sc_DataReader_close_one.nd rfl (Or.inl rfl) (pe_callTy (w_tuple (K := K)) rfl T.b_tuple bb_tuple (pa_cons (w_bm0 (K := K) PySem.F.plainAttrs_list PySem.F.slot_list_pop PySem.F.type_list_pop mt_pop (w_fld (K := K) (pv 0))) pa_nil)))
      (pss_cons (w_sfld (K := K) (pv 0) pe_bl)
      (pss_one (ps_expr (pe_meth (pv 0) RT.cl D_DataReader_item.m G_DataReader_item (hr.mono (by decide)) D_DataReader_item.b .nil passN (pa_cons (pv 1) pa_nil))))))), ?_⟩
    walk_at "kxs"
    refine ⟨r, C, dx, _, _, rfl, R.ob, RT.cl, RT.n1, rf_tuples _ _ _, ?_⟩
    walk_at "kx"
    refine q_lenL (SqL.of R.tu) ?_
    walk_at "kx"
    rcases List.eq_nil_or_concat st with rfl | ⟨st0, x, rfl⟩
    · have ha : as = [] := by simpa using hal
      subst ha
      refine ifY rfl (ifY rfl ?_)
      exact qE (close_nil _ _) H R.ex
    · rw [List.concat_eq_append] at *
      obtain ⟨as0, a, vs, rfl, h0, h1, h2⟩ := R.st.last
      refine ifF (decide_eq_false (by rw [List.length_map, List.length_append]; simp only [List.length_cons, List.length_nil]; omega)) ?_
      refine q_andB (a := b) (b := decide ((0 : Int) < (vs.length : Nat))) (fun R1 q => ?_) (fun _ R1 q => ?_) ?_
      · walk_at "kx"
        refine ⟨r, C, dx, _, _, rfl, R.ob, RT.cl, RT.n2, rf_ready _ _ _, ?_⟩
        walk_at "kx"
        exact q
      · walk_at "kx"
        refine ⟨r, C, dx, _, _, rfl, R.ob, RT.cl, RT.n1, rf_tuples _ _ _, ?_⟩
        walk_at "kx"
        refine q_ixLast (xs := as0.map V.ref) (v := .ref a) (by have e := SqL.of (K := K) R.tu; rw [List.map_append] at e; exact e) ?_
        walk_at "kx"
        refine q_lenL (SqL.of h1) ?_
        walk_at "kx"
        exact q
      have hl : vs.length = x.length := dpa_len h2
      have ec := close_app st0 x told b
      have e1 : (b && decide ((0 : Int) < (vs.length : Nat))) = decide (b = true ∧ x ≠ []) := by
        rw [hl, Bool.decide_and, Bool.decide_eq_true]
        congr 1
        rw [decide_eq_decide]
        cases x with
        | nil => simp
        | cons y r => simp
      rw [e1]
      refine ifT (fun h3 => ?_) (fun h3 => ?_)
      · refine qE ?_ H R.ex
        rw [ec, if_pos (of_decide_eq_true h3)]
      · rw [if_neg (of_decide_eq_false h3)] at ec
        walk_at "kx"
        refine ⟨r, C, dx, _, _, rfl, R.ob, RT.cl, RT.n1, rf_tuples _ _ _, ?_⟩
        refine ⟨ty_lst R.tu, ?_⟩
        refine q_pop R.tu (y := .ref a) (by simp) ?_
        have R2 := R.popLast h0
        have fa := flat_all R.fl
        have fx : flatDs x = true := fa.1 x (by simp)
        have k2 : Kt H (upd H lt (.lst ((as0 ++ [a]).map V.ref).dropLast)) := Kt.upd R.tu trivial
        have hta : a ≠ lt := fun z => R.ta (by simp [z])
        have h1' : upd H lt (.lst ((as0 ++ [a]).map V.ref).dropLast) a = some (.lst vs) := by rw [upd_ne hta]; exact h1
        have h2' := dpa_kt k2 fx h2
        generalize upd H lt (.lst ((as0 ++ [a]).map V.ref).dropLast) = H2 at R2 h1' h2'
        walk_at "kx"
        refine ⟨a, vs, rfl, .inl ⟨SqL.of h1', fun l nl => ?_⟩⟩
        have R3 := R2.grow (Evl.Ex.new nl (o := .tup vs))
        have hd3 : Dp K (upd H2 l (.tup vs)) (.ref l) (.tuple x) := .tup (SqT.of upd_same) (dpa_ex (Evl.Ex.new nl) h2')
        generalize upd H2 l (.tup vs) = H3 at R3 hd3
        walk_at "kx"
        refine ⟨r, C, dx, _, rfl, R3.ob, RT.cl, RT.n2, by show 3 < 1000; decide, ?_⟩
        rw [rf_put]
        have R4 := R3.setReady true
        have hd4 : Dp K (upd H3 r (.ins C dx (rf lt true ld))) (.ref l) (.tuple x) := dp_kt (Kt.upd R3.ob trivial) (by simpa only [flatD] using fx) hd3
        generalize upd H3 r (.ins C dx (rf lt true ld)) = H4 at R4 hd4
        walk_at "kx"
        refine ⟨r, dx, _, rfl, R4.ob, rf_no _ _ _ (by decide +kernel) (by decide +kernel) (by decide +kernel), ?_⟩
        walk_at "kx"
        refine ⟨H0, r, .ref l, ⟨st0, true, told⟩, .tuple x, rfl, ⟨_, R4⟩, ?_, hd4, by simpa only [flatD] using fx, fun S' e H' R' => q S' (by rw [ec]; exact e) H' R', fun e H' x' => qE (by rw [ec]; exact e) H' x'⟩
        refine Nat.le_trans ?_ hw
        unfold wt
        simp only [List.map_append, List.map_cons, List.map_nil, List.sum_append, List.sum_cons, List.sum_nil]
        omega
end
end K66

namespace K66
open PySem PySem.Spec PyProof.Rows L2 KX M53 KM
local macro_rules | `(tactic| walk_at "kx1") => `(tactic| first
  | (with_reducible refine q_seq ?_) | (with_reducible refine q_ifs ?_) | (with_reducible refine q_asg ?_) | (with_reducible refine q_gname ?_) | (with_reducible refine q_ret ?_)
  | (with_reducible refine q_drop ?_) | (with_reducible refine q_next ?_) | (with_reducible refine q_par ?_) | (with_reducible refine q_sfld ?_) | (with_reducible refine q_rs ?_) | (with_reducible refine q_gsub ?_) | (with_reducible refine q_retN ?_)
  | ((with_reducible show tVar _ _ _ _); (refine q_var rfl ?_)) | (with_reducible refine q_c ?_) | (with_reducible refine q_op ?_) | (with_reducible refine q_un ?_) | (with_reducible refine q_neg ?_) | (with_reducible refine q_cb ?_)
  | (with_reducible refine q_nil ?_) | (with_reducible refine q_cons ?_) | (with_reducible refine q_tup ?_) | (with_reducible refine q_lst ?_) | (with_reducible refine q_if ?_)
  | (with_reducible refine q_notT ?_) | (with_reducible refine q_call ?_) | (with_reducible refine q_callS ?_) | (with_reducible refine q_fld ?_)
  | (with_reducible refine q_bm ?_) | (with_reducible refine q_bm0 ?_) | (with_reducible refine q_sl ?_) | (with_reducible refine q_nopart ?_) | (with_reducible refine q_part ?_) | (with_reducible refine q_meth ?_) | (with_reducible refine q_make ?_)
  | (with_reducible refine q_test ?_) | (with_reducible refine q_tB ?_) | (with_reducible refine q_tru ?_) | (with_reducible refine q_not ?_)
  | (with_reducible refine q_blk ?_) | (with_reducible refine q_tv ?_) | (with_reducible refine q_addI ?_) | (with_reducible refine q_subI ?_) | (with_reducible refine q_eqI ?_) | (with_reducible refine q_neI ?_)
  | (with_reducible refine q_for ?_) | (with_reducible refine q_lc ?_) | (with_reducible refine q_iList ?_) | (with_reducible refine q_iTup ?_) | (with_reducible refine q_iStr ?_) | (with_reducible refine q_iRng1 ?_) | (with_reducible refine q_iRng2 ?_) | (with_reducible refine q_iRng3 ?_) | (with_reducible refine q_gcons ?_) | (with_reducible refine q_gnil ?_) | (with_reducible refine q_yes ?_) | (with_reducible refine q_ltI ?_) | (with_reducible refine q_iEnumS ?_) | (with_reducible refine q_pi ?_) | (with_reducible refine q_leI ?_) | (with_reducible refine q_gtI ?_) | (with_reducible refine q_geI ?_) | (with_reducible refine q_leT ?_) | (with_reducible refine q_intI ?_) | (with_reducible refine q_abs ?_) | (with_reducible refine q_eqT ?_) | (with_reducible refine q_neT ?_) | (with_reducible refine q_par3 ?_) | (with_reducible refine q_isN ?_) | (with_reducible refine q_notN ?_))
local macro_rules | `(tactic| walk_at "kx") => `(tactic| repeat walk_at "kx1")
local macro_rules | `(tactic| walk_at "kxs") => `(tactic| repeat (first | walk_at "kx1" | (with_reducible refine q_andT ?_) | (with_reducible refine q_orT ?_) | (with_reducible refine q_chain ?_) | (with_reducible refine q_and ?_) | (with_reducible refine q_or ?_)))
local macro_rules | `(tactic| walk_at "lits") => `(tactic| simp only [lit_0, lit_1, lit_2, lit_3, lit_4, lit_5, lit_6, lit_7, lit_8, lit_9, lit_10, lit_11, lit_12, lit_13, lit_14, lit_15, lit_16, lit_17, lit_18, lit_19, lit_20, lit_21, lit_22, lit_23, lit_24, lit_25, lit_26, lit_27, lit_28, lit_29, lit_30, lit_31, lit_32, lit_33, lit_34, lit_35, lit_36, lit_37, lit_38, lit_39, lit_40, lit_41])

section
variable {P : Program} {w : World} {K : PySem.W.Frag} {mg : Str → Option Value} {base : Heap} {CM dS C : Addr}
theorem valD_dp {H : Hp} {d : PyData} {l : List Nat} (h : rdAtom l = some d) : Dp K H (valD d) d := by
  unfold rdAtom at h
  split at h
  · cases h; exact .bl _
  · split at h
    · cases h; exact .bl _
    · split at h
      · cases h; exact .str _
      · split at h
        · cases h; exact .str _
        · split at h
          · cases h; exact .int _
          · cases h
def spTakeR (K : PySem.W.Frag) (C CM : Addr) : Sp := fun vs H Q E => ∃ H0 r S p, vs = [.ref r, .str (tx p)] ∧ Rd K C H0 H r S ∧ wt S ≤ 300000 ∧ p.length ≤ 100000 ∧
  (∀ S', takeS S p = some S' → ∀ H', Rd K C H0 H' r S' → Q .non H') ∧ (takeS S p = none → ∀ H', Ex H0 H' → E (.ref CM) none H')
theorem ok_rtake {f f1 f2 f3 f4 f5 : Addr} {fd fd1 fd2 fd3 fd4 fd5 : FuncData} (D : MethAt K C "take" "DataReader.take" s_DataReader_take f fd ["self", "piece"]) (T : Txt K mg CM) (RT : RdT K C)
    (D_DataReader_item : MethAt K C "item" "DataReader.item" s_DataReader_item f1 fd1 ["self", "value"])
    (D_DataReader_open_one : MethAt K C "open_one" "DataReader.open_one" s_DataReader_open_one f2 fd2 ["self"])
    (D_DataReader_close_one : MethAt K C "close_one" "DataReader.close_one" s_DataReader_close_one f3 fd3 ["self"])
    (D_DataReader_comma : MethAt K C "comma" "DataReader.comma" s_DataReader_comma f4 fd4 ["self"])
    (D_read_atom : DefAt K mg "read_atom" s_read_atom f5 fd5 ["piece"])
    (G_read_atom : FnOk P w K mg base (L2N.CX P w) 2 f5 fd5 ["piece"] (spAtomR CM)) :
    FnOk P w K mg base (L2N.CX P w) 3 f fd ["self", "piece"] (spTakeR K C CM) := by
  have G_DataReader_item : FnOk P w K mg base (L2N.CX P w) 1 f1 fd1 ["self", "value"] (spItemR K C CM) := ok_ritem D_DataReader_item T RT
  have G_DataReader_open_one : FnOk P w K mg base (L2N.CX P w) 1 f2 fd2 ["self"] (spM K C CM openS) := ok_ropen D_DataReader_open_one T RT
  have G_DataReader_close_one : FnOk P w K mg base (L2N.CX P w) 2 f3 fd3 ["self"] (spM K C CM closeS) := ok_rclose D_DataReader_close_one D_DataReader_item T RT
  have G_DataReader_comma : FnOk P w K mg base (L2N.CX P w) 1 f4 fd4 ["self"] (spM K C CM commaS) := ok_rcomma D_DataReader_comma T RT
  refine okN D.fn sc_DataReader_take (fun vs H Q E h => ?_) (fun cdv A outer s H vs Q E hr h => ?_)
  · obtain ⟨H0, r, S, p, rfl, _⟩ := h
    rfl
  · obtain ⟨H0, r, S, p, rfl, ⟨⟨dx, lt, ld, as⟩, R⟩, hw, hp, q, qE⟩ := h
    have hu := u65 hr
    have hno : ∀ {m : Str}, ¬ m = "tuples" → ¬ m = "ready" → ¬ m = "told" → (rf lt S.ready ld).lookup m = none := fun h1 h2 h3 => rf_no _ _ _ h1 h2 h3
    unfold takeS at q qE
    refine ⟨_, (pss_one (ps_if (pt_cmpR (w_eq (K := K) hu) (pv 1) pe_str (nomark _)) (pss_one (ps_expr (pe_meth0 (pv 0) RT.cl D_DataReader_open_one.m G_DataReader_open_one (hr.mono (by decide)) D_DataReader_open_one.b .nil passN))) (pss_one (ps_if (pt_cmpR (w_eq (K := K) hu) (pv 1) pe_str (nomark _)) (pss_one (ps_expr (pe_meth0 (pv 0) RT.cl D_DataReader_close_one.m G_DataReader_close_one (hr.mono (by decide)) D_DataReader_close_one.b .nil passN))) (pss_one (ps_if (pt_cmpR (w_eq (K := K) hu) (pv 1) pe_str (nomark _)) (pss_one (ps_expr (pe_meth0 (pv 0) RT.cl D_DataReader_comma.m G_DataReader_comma (hr.mono (by decide)) D_DataReader_comma.b .nil passN))) (pss_one (ps_expr (pe_meth (pv 0) RT.cl D_DataReader_item.m G_DataReader_item (hr.mono (by decide)) D_DataReader_item.b .nil passN (pa_cons (pe_call G_read_atom (hr.mono (by decide)) rfl D_read_atom.g D_read_atom.kp D_read_atom.b .nil passN (pa_cons (pv 1) pa_nil)) pa_nil)))))))))), ?_⟩
    walk_at "lits"
    walk_at "kx"
    refine ifT (fun h1 => ?_) (fun h1 => ?_)
    · rw [if_pos (of_decide_eq_true h1)] at q qE
      walk_at "kx"
      refine ⟨r, dx, _, rfl, R.ob, hno (by decide +kernel) (by decide +kernel) (by decide +kernel), ?_⟩
      walk_at "kx"
      exact ⟨H0, r, S, rfl, ⟨_, R⟩, hw, q, qE⟩
    rw [if_neg (of_decide_eq_false h1)] at q qE
    walk_at "kx"
    refine ifT (fun h1 => ?_) (fun h1 => ?_)
    · rw [if_pos (of_decide_eq_true h1)] at q qE
      walk_at "kx"
      refine ⟨r, dx, _, rfl, R.ob, hno (by decide +kernel) (by decide +kernel) (by decide +kernel), ?_⟩
      walk_at "kx"
      exact ⟨H0, r, S, rfl, ⟨_, R⟩, hw, q, qE⟩
    rw [if_neg (of_decide_eq_false h1)] at q qE
    walk_at "kx"
    refine ifT (fun h1 => ?_) (fun h1 => ?_)
    · rw [if_pos (of_decide_eq_true h1)] at q qE
      walk_at "kx"
      refine ⟨r, dx, _, rfl, R.ob, hno (by decide +kernel) (by decide +kernel) (by decide +kernel), ?_⟩
      walk_at "kx"
      exact ⟨H0, r, S, rfl, ⟨_, R⟩, hw, q, qE⟩
    rw [if_neg (of_decide_eq_false h1)] at q qE
    walk_at "kx"
    refine ⟨r, dx, _, rfl, R.ob, hno (by decide +kernel) (by decide +kernel) (by decide +kernel), ?_⟩
    walk_at "kx"
    refine ⟨p, rfl, hp, fun d e H' x' => ?_, fun e H' x' => ?_⟩
    · rw [e] at q qE
      have R2 := R.grow x'
      walk_at "kx"
      exact ⟨H0, r, _, S, d, rfl, ⟨_, R2⟩, hw, valD_dp e, (rdAtom_flat e).1, q, qE⟩
    · rw [e] at qE
      exact qE rfl H' (R.ex.trans x')
end
end K66

namespace K66
open PySem PySem.Spec PyProof.Rows L2 KX M53 KM
local macro_rules | `(tactic| walk_at "kx1") => `(tactic| first
  | (with_reducible refine q_seq ?_) | (with_reducible refine q_ifs ?_) | (with_reducible refine q_asg ?_) | (with_reducible refine q_gname ?_) | (with_reducible refine q_ret ?_)
  | (with_reducible refine q_drop ?_) | (with_reducible refine q_next ?_) | (with_reducible refine q_par ?_) | (with_reducible refine q_sfld ?_) | (with_reducible refine q_rs ?_) | (with_reducible refine q_gsub ?_) | (with_reducible refine q_retN ?_)
  | ((with_reducible show tVar _ _ _ _); (refine q_var rfl ?_)) | (with_reducible refine q_c ?_) | (with_reducible refine q_op ?_) | (with_reducible refine q_un ?_) | (with_reducible refine q_neg ?_) | (with_reducible refine q_cb ?_)
  | (with_reducible refine q_nil ?_) | (with_reducible refine q_cons ?_) | (with_reducible refine q_tup ?_) | (with_reducible refine q_lst ?_) | (with_reducible refine q_if ?_)
  | (with_reducible refine q_notT ?_) | (with_reducible refine q_call ?_) | (with_reducible refine q_callS ?_) | (with_reducible refine q_fld ?_)
  | (with_reducible refine q_bm ?_) | (with_reducible refine q_bm0 ?_) | (with_reducible refine q_sl ?_) | (with_reducible refine q_nopart ?_) | (with_reducible refine q_part ?_) | (with_reducible refine q_meth ?_) | (with_reducible refine q_make ?_)
  | (with_reducible refine q_test ?_) | (with_reducible refine q_tB ?_) | (with_reducible refine q_tru ?_) | (with_reducible refine q_not ?_)
  | (with_reducible refine q_blk ?_) | (with_reducible refine q_tv ?_) | (with_reducible refine q_addI ?_) | (with_reducible refine q_subI ?_) | (with_reducible refine q_eqI ?_) | (with_reducible refine q_neI ?_)
  | (with_reducible refine q_for ?_) | (with_reducible refine q_lc ?_) | (with_reducible refine q_iList ?_) | (with_reducible refine q_iTup ?_) | (with_reducible refine q_iStr ?_) | (with_reducible refine q_iRng1 ?_) | (with_reducible refine q_iRng2 ?_) | (with_reducible refine q_iRng3 ?_) | (with_reducible refine q_gcons ?_) | (with_reducible refine q_gnil ?_) | (with_reducible refine q_yes ?_) | (with_reducible refine q_ltI ?_) | (with_reducible refine q_iEnumS ?_) | (with_reducible refine q_pi ?_) | (with_reducible refine q_leI ?_) | (with_reducible refine q_gtI ?_) | (with_reducible refine q_geI ?_) | (with_reducible refine q_leT ?_) | (with_reducible refine q_intI ?_) | (with_reducible refine q_abs ?_) | (with_reducible refine q_eqT ?_) | (with_reducible refine q_neT ?_) | (with_reducible refine q_par3 ?_) | (with_reducible refine q_isN ?_) | (with_reducible refine q_notN ?_))
local macro_rules | `(tactic| walk_at "kx") => `(tactic| repeat walk_at "kx1")
local macro_rules | `(tactic| walk_at "kxs") => `(tactic| repeat (first | walk_at "kx1" | (with_reducible refine q_andT ?_) | (with_reducible refine q_orT ?_) | (with_reducible refine q_chain ?_) | (with_reducible refine q_and ?_) | (with_reducible refine q_or ?_)))
local macro_rules | `(tactic| walk_at "lits") => `(tactic| simp only [lit_0, lit_1, lit_2, lit_3, lit_4, lit_5, lit_6, lit_7, lit_8, lit_9, lit_10, lit_11, lit_12, lit_13, lit_14, lit_15, lit_16, lit_17, lit_18, lit_19, lit_20, lit_21, lit_22, lit_23, lit_24, lit_25, lit_26, lit_27, lit_28, lit_29, lit_30, lit_31, lit_32, lit_33, lit_34, lit_35, lit_36, lit_37, lit_38, lit_39, lit_40, lit_41])

section
variable {P : Program} {w : World} {K : PySem.W.Frag} {mg : Str → Option Value} {base : Heap} {CM dS C : Addr}
def spReadD (K : PySem.W.Frag) (CM : Addr) : Sp := fun vs H Q E => ∃ v d, vs = [v] ∧ Dp K H v d ∧ (∀ l, d = .str (tx l) → l.length ≤ 100000) ∧
  (∀ l d', d = .str (tx l) → rd l = some d' → ∀ v' H', Ex H H' → Dp K H' v' d' → Q v' H') ∧ ((∀ l, d = .str (tx l) → rd l = none) → ∀ H', Ex H H' → E (.ref CM) none H')
theorem RdAt.withP {H0 H H2 : Hp} {r p : Addr} {S : RS} {D : RdD} {o : HO} (R : RdAt K C H0 H r S D) (np : H p = none) (e : Ex H H2) (hp : H2 p = some o) : RdAt K C (upd H0 p o) H2 r S D := by
  have R2 := R.grow e
  obtain ⟨vd, h1, _⟩ := R.to
  refine ⟨fun a x h => ?_, R2.ob, R2.tu, R2.to, R2.st, ?_, ?_, ?_, fun a ha => ?_, R2.nd, R2.ta, R2.la, R2.tl, R2.fl⟩
  · by_cases z : a = p
    · subst z
      rw [upd_same] at h
      cases h
      exact hp
    · rw [upd_ne z] at h
      exact R2.ex a x h
  · rw [upd_ne (ne_of_none R.ob np)]
    exact R.nr
  · rw [upd_ne (ne_of_none R.tu np)]
    exact R.nt
  · rw [upd_ne (ne_of_none h1 np)]
    exact R.nl
  · obtain ⟨vs, e3⟩ := R.st.mem ha
    rw [upd_ne (ne_of_none e3 np)]
    exact R.na a ha
theorem runS_app : ∀ (a b : List T) (S : RS), runS S (a ++ b) = (runS S a).bind fun S' => runS S' b
  | [], b, S => rfl
  | p :: ps, b, S => by
    show runS S (p :: (ps ++ b)) = _
    simp only [runS]
    cases takeS S p with
    | none => rfl
    | some S' => exact runS_app ps b S'
theorem runS_wt : ∀ (a : List T) (S S' : RS), runS S a = some S' → wt S' ≤ wt S + a.length
  | [], S, S', h => by cases h; exact Nat.le_refl _
  | p :: ps, S, S', h => by
    simp only [runS] at h
    split at h
    · cases h
    · rename_i S1 e
      have h1 := take_wt e
      have h2 := runS_wt ps S1 S' h
      simp only [List.length_cons]
      omega
theorem ok_read_data {f f1 f2 f3 f4 f5 f6 f7 f8 : Addr} {fd fd1 fd2 fd3 fd4 fd5 fd6 fd7 fd8 : FuncData} (D : DefAt K mg "read_data" s_read_data f fd ["text"]) (T : Txt K mg CM) (RT : RdT K C)
    (D_DataReader_item : MethAt K C "item" "DataReader.item" s_DataReader_item f1 fd1 ["self", "value"])
    (D_DataReader_open_one : MethAt K C "open_one" "DataReader.open_one" s_DataReader_open_one f2 fd2 ["self"])
    (D_DataReader_close_one : MethAt K C "close_one" "DataReader.close_one" s_DataReader_close_one f3 fd3 ["self"])
    (D_DataReader_comma : MethAt K C "comma" "DataReader.comma" s_DataReader_comma f4 fd4 ["self"])
    (D_read_atom : DefAt K mg "read_atom" s_read_atom f5 fd5 ["piece"])
    (G_read_atom : FnOk P w K mg base (L2N.CX P w) 2 f5 fd5 ["piece"] (spAtomR CM))
    (D_DataReader_take : MethAt K C "take" "DataReader.take" s_DataReader_take f6 fd6 ["self", "piece"])
    (D_pieces_of : DefAt K mg "pieces_of" s_pieces_of f7 fd7 ["text"])
    (D_DataReader : ClassAt K mg "DataReader" "DataReader.__init__" C s_DataReader___init__ f8 fd8 ["self"]) :
    FnOk P w K mg base (L2N.CX P w) 4 f fd ["text"] (spReadD K CM) := by
  have G_DataReader_take : FnOk P w K mg base (L2N.CX P w) 3 f6 fd6 ["self", "piece"] (spTakeR K C CM) := ok_rtake D_DataReader_take T RT D_DataReader_item D_DataReader_open_one D_DataReader_close_one D_DataReader_comma D_read_atom G_read_atom
  have G_pieces_of : FnOk P w K mg base CX0 1 f7 fd7 ["text"] spPieces := ok_pieces_of D_pieces_of T
  have G_DataReader : FnOk P w K mg base CX0 1 f8 fd8 ["self"] (spRInit K C) := ok_rinit D_DataReader.fn T RT
  refine okN D.fn sc_read_data (fun vs H Q E h => ?_) (fun cdv A outer s H vs Q E hr h => ?_)
  · obtain ⟨v, d, rfl, _⟩ := h
    rfl
  · obtain ⟨v, d, rfl, hd, hl0, q, qE⟩ := h
    have hu := u65 hr
    refine ⟨_, (pss_cons (ps_if (pt_not (w_tru (K := K) (pe_callB (w_isi (K := K)) rfl T.b_isinstance bb_isinstance (pa_cons (pv 0) (pa_cons (pe_bltn (v := V.ty "str") rfl T.b_str bb_str rfl) pa_nil))))) (pss_one (ps_rsN rfl tkN T.x_Malformed)) pss_nil)
      (pss_cons (ps_set (i := 1) sc_read_data.nd rfl (Or.inl rfl) (pe_make0 D_DataReader.mkr G_DataReader (hr.mono (by decide)) rfl D_DataReader.gC D_DataReader.b .nil pass0))
      (pss_cons (ps_for (passes_of rfl) rfl (w_ilist (K := K) (pe_call G_pieces_of (hr.mono (by decide)) rfl D_pieces_of.g D_pieces_of.kp D_pieces_of.b .nil pass0 (pa_cons (pv 0) pa_nil))) (pg_name (i := 2) sc_read_data.nd rfl (Or.inl rfl)) (pss_one (ps_expr (pe_meth (pv 1) RT.cl D_DataReader_take.m G_DataReader_take (hr.mono (by decide)) D_DataReader_take.b .nil passN (pa_cons (pv 2) pa_nil)))))
      (pss_cons (ps_if (PW.pt (pw_or (pt_cmpR k_gt (pe_callB (w_len (K := K)) rfl T.b_len bb_len (pa_cons (w_fld (K := K) (pv 1)) pa_nil)) pe_int (nomark _)) (pw_or1 (pt_cmpR (w_ne (K := K) hu) (pe_callB (w_len (K := K)) rfl T.b_len bb_len (pa_cons (w_fld (K := K) (pv 1)) pa_nil)) pe_int (nomark _))))) (pss_one (ps_rsN rfl tkN T.x_Malformed)) pss_nil)
      (pss_one (ps_ret (pe_ix (w_ix (K := K)) (w_fld (K := K) (pv 1)) pe_int (fun _ _ => rfl)))))))), ?_⟩
    walk_at "kx"
    refine is_str hd ?_
    walk_at "kx"
    cases hs : isStrD d with
    | false =>
      refine ifY rfl ?_
      refine qE (fun l e => ?_) H (Evl.Ex.refl H)
      subst e
      cases hs
    | true =>
      refine ifF rfl ?_
      obtain ⟨l, rfl⟩ : ∃ l, d = .str (tx l) := by
        cases d with
        | str x => exact ⟨x.cps.toList, by rw [tx_of]⟩
        | _ => cases hs
      have hv : v = .str (tx l) := by cases hd; rfl
      subst hv
      have hl := hl0 l rfl
      have hpl := pcs_len l []
      have hpe := pcs_each l [] l.length (by simp)
      walk_at "kx"
      refine fun r dx nr ndx hne => ?_
      have nr1 : upd H dx (.own r) r = none := by rw [upd_ne hne.symm]; exact nr
      refine ⟨H, r, dx, rfl, nr, (Evl.Ex.new ndx).trans (Evl.Ex.new nr1), upd_same, fun H1 R0 => ⟨rfl, ?_⟩⟩
      walk_at "kx"
      refine ⟨l, rfl, hl, fun p H2 np e2 hp => ?_⟩
      obtain ⟨D0, R0⟩ := R0
      have R1 := R0.withP np e2 hp
      have eH : Ex H (upd H p (.lst ((pcs [] l).map fun t => .str (tx t)))) := by
        refine Evl.Ex.new ?_
        exact Evl.fresh_back R0.ex np
      have hpin : upd H p (.lst ((pcs [] l).map fun t => V.str (tx t))) p = _ := upd_same
      generalize upd H p (.lst ((pcs [] l).map fun t => V.str (tx t))) = HH at R1 eH hpin
      refine ⟨p, rfl, ⟨_, SqL.of hp⟩, ?_⟩
      refine fo_list (xs := (pcs [] l).map fun t => V.str (tx t)) (fun i σ H' => ∃ (S : RS) (o : Option V), σ = [some (.str (tx l)), some (.ref r), o] ∧ Rd K C HH H' r S ∧ runS ⟨[], true, []⟩ ((pcs [] l).take i) = some S) ⟨_, none, rfl, ⟨_, R1⟩, rfl⟩ ?_ ?_ ?_
      · rintro i σ H' hi ⟨S, o, rfl, ⟨D', R'⟩, _⟩
        exact SqL.of (R'.ex _ _ hpin)
      · rintro i x σ H' hx ⟨S, o, rfl, ⟨D', R'⟩, er⟩
        rw [List.getElem?_map, Option.map_eq_some_iff] at hx
        obtain ⟨t, ht, rfl⟩ := hx
        walk_at "kx"
        refine ⟨r, D'.dx, _, rfl, R'.ob, rf_no _ _ _ (by decide +kernel) (by decide +kernel) (by decide +kernel), ?_⟩
        walk_at "kx"
        have hw := runS_wt _ _ _ er
        have hi : i < (pcs [] l).length := (List.getElem?_eq_some_iff.mp ht).1
        have et : (pcs [] l).take (i + 1) = (pcs [] l).take i ++ [t] := by rw [List.take_add_one, ht]; rfl
        rw [List.length_take] at hw
        have h0 : wt ⟨[], true, []⟩ = 0 := rfl
        refine ⟨HH, r, S, t, rfl, ⟨_, R'⟩, by omega, Nat.le_trans (hpe t (List.mem_of_getElem? ht)) hl, fun S' e H3 R3 => ?_, fun e H3 e3 => ?_⟩
        · walk_at "kx"
          refine ⟨S', _, rfl, R3, ?_⟩
          rw [et, runS_app, er]
          show runS S [t] = some S'
          simp only [runS, e]
        · refine qE (fun l' el => ?_) H3 (eH.trans e3)
          have el' : l = l' := by
            have := PyData.str.inj el
            exact tx_inj this
          subst el'
          have es : pcs [] l = (pcs [] l).take i ++ t :: (pcs [] l).drop (i + 1) := by
            have := List.drop_eq_getElem_cons hi
            rw [(List.getElem?_eq_some_iff.mp ht).2] at this
            rw [← this, List.take_append_drop]
          unfold rd
          rw [es, runS_app, er]
          show (match runS S (t :: _) with | none => none | some S => _) = none
          simp only [runS, e]
      · rintro σ H' ⟨S, o, rfl, ⟨⟨dx', lt, ld, as⟩, R'⟩, er⟩
        rw [List.length_map, List.take_length] at er
        have hal : as.length = S.stack.length := R'.st.len
        have hs0 := sizeLine_eq
        have hw := runS_wt _ _ _ er
        have h0 : wt ⟨[], true, []⟩ = 0 := rfl
        have hl1 := @wt_stack S.stack S.ready S.told
        have hl2 := @wt_told S.stack S.ready S.told
        obtain ⟨vd, g1, g2⟩ := R'.to
        have hvd : vd.length = S.told.length := dpa_len g2
        walk_at "kx"
        refine q_orB (a := decide ((0 : Int) < ((as.map V.ref).length : Nat))) (b := !decide (((vd.length : Nat) : Int) = 1)) (fun R1 q => ?_) (fun _ R1 q => ?_) ?_
        · walk_at "kx"
          refine ⟨r, C, dx', _, _, rfl, R'.ob, RT.cl, RT.n1, rf_tuples _ _ _, ?_⟩
          walk_at "kx"
          refine q_lenL (SqL.of R'.tu) ?_
          walk_at "kx"
          exact q
        · walk_at "kx"
          refine ⟨r, C, dx', _, _, rfl, R'.ob, RT.cl, RT.n3, rf_told _ _ _, ?_⟩
          walk_at "kx"
          refine q_lenL (SqL.of g1) ?_
          walk_at "kx"
          exact q
        rw [List.length_map, hal, hvd]
        have erd : rd l = if S.stack ≠ [] ∨ S.told.length ≠ 1 then none else S.told.head? := by
          unfold rd
          rw [er]
        refine ifT (fun h1 => ?_) (fun h1 => ?_)
        · refine qE (fun l' el => ?_) H' (eH.trans R'.ex)
          have el' : l = l' := tx_inj (PyData.str.inj el)
          subst el'
          rw [erd]
          refine if_pos ?_
          rw [Bool.or_eq_true] at h1
          rcases h1 with h1 | h1
          · have := of_decide_eq_true h1
            exact .inl (fun z => by rw [z] at this; simp at this)
          · refine .inr fun e => ?_
            rw [e] at h1
            cases h1
        · rw [Bool.or_eq_false_iff] at h1
          have h2 := of_decide_eq_false h1.1
          have h3 : ((S.told.length : Nat) : Int) = 1 := by simpa using h1.2
          have h4 : S.told.length = 1 := by omega
          have h5 : S.stack = [] := List.length_eq_zero_iff.mp (by omega)
          rw [if_neg (fun z => z.elim (fun e => e h5) (fun e => e h4))] at erd
          obtain ⟨dd, ed⟩ := List.length_eq_one_iff.mp h4
          rw [ed] at erd g2
          cases g2 with
          | cons g3 g4 =>
            cases g4
            walk_at "kx"
            refine ⟨r, C, dx', _, _, rfl, R'.ob, RT.cl, RT.n3, rf_told _ _ _, ?_⟩
            walk_at "kx"
            refine q_ixL (SqL.of g1) (i := 0) rfl ?_
            exact q l dd rfl erd _ H' (eH.trans R'.ex) g3
end
end K66

/-! plain data: what a value is, without the heap -/
namespace KD
open PySem PySem.Spec PyProof.Rows L2 KX
inductive D where
  | non | bl (b : Bool) | int (i : Int) | str (l : List Nat) | tup (ds : List D) | lst (ds : List D) | fn (a : Addr) | obj (C : Addr) (ns : List Str) (ds : List D)
deriving Inhabited
mutual
def py : D → PyData
  | .non => .none
  | .bl b => .bool b
  | .int i => .int i
  | .str l => .str (tx l)
  | .tup ds => .tuple (pys ds)
  | .lst ds => .list (pys ds)
  | .fn _ => .none
  | .obj _ _ _ => .none
def pys : List D → List PyData
  | [] => []
  | d :: ds => py d :: pys ds
end
mutual
/-- no function, no object within -/
def dat : D → Bool
  | .non | .bl _ | .int _ | .str _ => true
  | .tup ds | .lst ds => dats ds
  | .fn _ | .obj _ _ _ => false
def dats : List D → Bool
  | [] => true
  | d :: ds => dat d && dats ds
end
mutual
def dep : D → Nat
  | .tup ds | .lst ds => deps ds + 1
  | _ => 0
def deps : List D → Nat
  | [] => 0
  | d :: ds => max (dep d) (deps ds)
end
mutual
theorem dep_py : ∀ d : D, (py d).depth = dep d
  | .non => rfl
  | .bl _ => rfl
  | .int _ => rfl
  | .str _ => rfl
  | .fn _ => rfl
  | .obj _ _ _ => rfl
  | .tup ds => by simp only [py, PyData.depth, dep, deps_pys ds]
  | .lst ds => by simp only [py, PyData.depth, dep, deps_pys ds]
theorem deps_pys : ∀ ds : List D, PyData.depthAll (pys ds) = deps ds
  | [] => rfl
  | d :: ds => by simp only [pys, PyData.depthAll, deps, dep_py d, deps_pys ds]
end
mutual
theorem plain_py : ∀ d : D, (py d).plain = true
  | .non => rfl
  | .bl _ => rfl
  | .int _ => rfl
  | .str _ => rfl
  | .fn _ => rfl
  | .obj _ _ _ => rfl
  | .tup ds => by simp only [py, PyData.plain, plains_pys ds]
  | .lst ds => by simp only [py, PyData.plain, plains_pys ds]
theorem plains_pys : ∀ ds : List D, PyData.plainAll (pys ds) = true
  | [] => rfl
  | d :: ds => by simp only [pys, PyData.plainAll, plain_py d, plains_pys ds, Bool.and_self]
end
/-- Python's == -/
def eqD (d e : D) : Bool := PyData.eqv (py d) (py e)
def eqDs (ds es : List D) : Bool := PyData.eqvAll (pys ds) (pys es)
theorem eqD_str (a b : List Nat) : eqD (.str a) (.str b) = decide (a = b) := by
  show (tx a == tx b) = _
  by_cases h : a = b
  · subst h; simp
  · rw [decide_eq_false h]
    exact beq_eq_false_iff_ne.mpr fun z => h (tx_inj z)
theorem eqD_int (a b : Int) : eqD (.int a) (.int b) = decide (a = b) := by
  show (a == b) = _
  exact Bool.beq_eq_decide_eq a b
theorem eqD_bl (a b : Bool) : eqD (.bl a) (.bl b) = (a == b) := rfl
theorem eqD_non : eqD .non .non = true := rfl
theorem eqD_tup (a b : List D) : eqD (.tup a) (.tup b) = eqDs a b := rfl
theorem eqD_lst (a b : List D) : eqD (.lst a) (.lst b) = eqDs a b := rfl
theorem eqDs_nil : eqDs [] [] = true := rfl
theorem eqDs_cons (a b : D) (as bs : List D) : eqDs (a :: as) (b :: bs) = (eqD a b && eqDs as bs) := rfl
theorem eqDs_nc (b : D) (bs : List D) : eqDs [] (b :: bs) = false := rfl
theorem eqDs_cn (b : D) (bs : List D) : eqDs (b :: bs) [] = false := rfl
mutual
/-- data without truths: == is sameness -/
def nob : D → Bool
  | .non | .int _ | .str _ => true
  | .bl _ | .fn _ | .obj _ _ _ => false
  | .tup ds | .lst ds => nobs ds
def nobs : List D → Bool
  | [] => true
  | d :: ds => nob d && nobs ds
end
mutual
theorem eqD_iff : ∀ d e : D, nob d = true → nob e = true → (eqD d e = true ↔ d = e)
  | .non, .non, _, _ => by simp [eqD_non]
  | .non, .int _, _, _ => by simp [eqD, py, PyData.eqv]
  | .non, .str _, _, _ => by simp [eqD, py, PyData.eqv]
  | .non, .tup _, _, _ => by simp [eqD, py, PyData.eqv]
  | .non, .lst _, _, _ => by simp [eqD, py, PyData.eqv]
  | .int _, .non, _, _ => by simp [eqD, py, PyData.eqv]
  | .int i, .int j, _, _ => by simp [eqD_int]
  | .int _, .str _, _, _ => by simp [eqD, py, PyData.eqv]
  | .int _, .tup _, _, _ => by simp [eqD, py, PyData.eqv]
  | .int _, .lst _, _, _ => by simp [eqD, py, PyData.eqv]
  | .str _, .non, _, _ => by simp [eqD, py, PyData.eqv]
  | .str _, .int _, _, _ => by simp [eqD, py, PyData.eqv]
  | .str a, .str b, _, _ => by simp [eqD_str]
  | .str _, .tup _, _, _ => by simp [eqD, py, PyData.eqv]
  | .str _, .lst _, _, _ => by simp [eqD, py, PyData.eqv]
  | .tup _, .non, _, _ => by simp [eqD, py, PyData.eqv]
  | .tup _, .int _, _, _ => by simp [eqD, py, PyData.eqv]
  | .tup _, .str _, _, _ => by simp [eqD, py, PyData.eqv]
  | .tup a, .tup b, h1, h2 => by
    rw [eqD_tup, eqDs_iff a b (by simpa [nob] using h1) (by simpa [nob] using h2)]
    simp
  | .tup _, .lst _, _, _ => by simp [eqD, py, PyData.eqv]
  | .lst _, .non, _, _ => by simp [eqD, py, PyData.eqv]
  | .lst _, .int _, _, _ => by simp [eqD, py, PyData.eqv]
  | .lst _, .str _, _, _ => by simp [eqD, py, PyData.eqv]
  | .lst _, .tup _, _, _ => by simp [eqD, py, PyData.eqv]
  | .lst a, .lst b, h1, h2 => by
    rw [eqD_lst, eqDs_iff a b (by simpa [nob] using h1) (by simpa [nob] using h2)]
    simp
  | .bl _, _, h, _ => by cases h
  | .fn _, _, h, _ => by cases h
  | .obj _ _ _, _, h, _ => by cases h
  | .non, .bl _, _, h => by cases h
  | .int _, .bl _, _, h => by cases h
  | .str _, .bl _, _, h => by cases h
  | .tup _, .bl _, _, h => by cases h
  | .lst _, .bl _, _, h => by cases h
  | .non, .fn _, _, h => by cases h
  | .int _, .fn _, _, h => by cases h
  | .str _, .fn _, _, h => by cases h
  | .tup _, .fn _, _, h => by cases h
  | .lst _, .fn _, _, h => by cases h
  | .non, .obj _ _ _, _, h => by cases h
  | .int _, .obj _ _ _, _, h => by cases h
  | .str _, .obj _ _ _, _, h => by cases h
  | .tup _, .obj _ _ _, _, h => by cases h
  | .lst _, .obj _ _ _, _, h => by cases h
theorem eqDs_iff : ∀ ds es : List D, nobs ds = true → nobs es = true → (eqDs ds es = true ↔ ds = es)
  | [], [], _, _ => by simp [eqDs_nil]
  | [], _ :: _, _, _ => by simp [eqDs_nc]
  | _ :: _, [], _, _ => by simp [eqDs_cn]
  | d :: ds, e :: es, h1, h2 => by
    simp only [nobs, Bool.and_eq_true] at h1 h2
    rw [eqDs_cons, Bool.and_eq_true, eqD_iff d e h1.1 h2.1, eqDs_iff ds es h1.2 h2.2]
    simp
end
theorem pys_map : ∀ ds : List D, pys ds = ds.map py
  | [] => rfl
  | d :: ds => by simp [pys, pys_map ds]
theorem dats_iff : ∀ ds : List D, dats ds = true ↔ ∀ d ∈ ds, dat d = true
  | [] => by simp [dats]
  | d :: ds => by simp [dats, dats_iff ds]
theorem nobs_iff : ∀ ds : List D, nobs ds = true ↔ ∀ d ∈ ds, nob d = true
  | [] => by simp [nobs]
  | d :: ds => by simp [nobs, nobs_iff ds]

/-! ### a value that is data -/
def SqF (H : Hp) (a : Addr) (xs : List V) : Prop := ∃ o, H a = some (.frz o (.lst xs))
theorem SqF.r {H : Hp} {a : Addr} {xs : List V} (h : SqF H a xs) : Rd H a (.lst xs) := .inr h
theorem SqF.l {K : PySem.W.Frag} {H : Hp} {a : Addr} {xs : List V} (h : SqF H a xs) : SqL K H a xs := .inl (.inr h)
mutual
inductive Fz (K : PySem.W.Frag) (fo : Addr → Prop) (H : Hp) : V → D → Prop
  | non : Fz K fo H .non .non
  | bl (b : Bool) : Fz K fo H (.bl b) (.bl b)
  | int (i : Int) : Fz K fo H (.int i) (.int i)
  | str (l : List Nat) : Fz K fo H (.str (tx l)) (.str l)
  | tup {a : Addr} {xs : List V} {ds : List D} : SqT K H a xs → FzA K fo H xs ds → Fz K fo H (.ref a) (.tup ds)
  | lst {a : Addr} {xs : List V} {ds : List D} : SqF H a xs → FzA K fo H xs ds → Fz K fo H (.ref a) (.lst ds)
  | fn (a : Addr) : Fz K fo H (.ref a) (.fn a)
  | obj {a C dx : Addr} {ns : List Str} {xs : List V} {ds : List D} : H a = some (.ins C dx (ns.zip xs)) → ¬ fo a → ns.length = ds.length → FzA K fo H xs ds → Fz K fo H (.ref a) (.obj C ns ds)
inductive FzA (K : PySem.W.Frag) (fo : Addr → Prop) (H : Hp) : List V → List D → Prop
  | nil : FzA K fo H [] []
  | cons {v : V} {vs : List V} {d : D} {ds : List D} : Fz K fo H v d → FzA K fo H vs ds → FzA K fo H (v :: vs) (d :: ds)
end
/-- what stands: tuples, what is frozen, objects that are not foreign -/
structure Kp (fo : Addr → Prop) (H H' : Hp) : Prop where
  tup : ∀ a xs, H a = some (.tup xs) → H' a = some (.tup xs)
  frz : ∀ a o u, H a = some (.frz o u) → H' a = some (.frz o u)
  ins : ∀ a C dx fs, ¬ fo a → H a = some (.ins C dx fs) → H' a = some (.ins C dx fs)
theorem Kp.refl {fo : Addr → Prop} {H : Hp} : Kp fo H H := ⟨fun _ _ h => h, fun _ _ _ h => h, fun _ _ _ _ _ h => h⟩
theorem Kp.trans {fo : Addr → Prop} {H H1 H2 : Hp} (a : Kp fo H H1) (b : Kp fo H1 H2) : Kp fo H H2 := ⟨fun x xs h => b.tup x xs (a.tup x xs h), fun x o u h => b.frz x o u (a.frz x o u h), fun x C dx fs n h => b.ins x C dx fs n (a.ins x C dx fs n h)⟩
theorem Kp.of_ex {fo : Addr → Prop} {H H' : Hp} (e : Ex H H') : Kp fo H H' := ⟨fun a xs h => e a _ h, fun a o u h => e a _ h, fun a _ _ _ _ h => e a _ h⟩
theorem Kp.upd {fo : Addr → Prop} {H : Hp} {p : Addr} {vs : List V} {o : HO} (h : H p = some (.lst vs)) : Kp fo H (L2.upd H p o) := by
  refine ⟨fun a xs e => ?_, fun a ob u e => ?_, fun a C dx fs _ e => ?_⟩ <;>
  · rw [upd_ne (by rintro rfl; rw [h] at e; cases e)]
    exact e
section
variable {K : PySem.W.Frag} {fo : Addr → Prop} {H H' : Hp}
theorem Kp.t (e : Kp fo H H') {a : Addr} {xs : List V} (h : SqT K H a xs) : SqT K H' a xs := by
  rcases h with (h | ⟨o, h⟩) | h
  · exact .inl (.inl (e.tup _ _ h))
  · exact .inl (.inr ⟨o, e.frz _ _ _ h⟩)
  · exact .inr h
theorem Kp.f (e : Kp fo H H') {a : Addr} {xs : List V} (h : SqF H a xs) : SqF H' a xs := by
  obtain ⟨o, h⟩ := h
  exact ⟨o, e.frz _ _ _ h⟩
mutual
theorem fz_kp (e : Kp fo H H') : ∀ {d : D} {v : V}, Fz K fo H v d → Fz K fo H' v d
  | .non, _, h => by cases h; exact .non
  | .bl _, _, h => by cases h; exact .bl _
  | .int _, _, h => by cases h; exact .int _
  | .str _, _, h => by cases h; exact .str _
  | .fn _, _, h => by cases h; exact .fn _
  | .tup ds, _, h => by
    cases h with
    | tup hs ha => exact .tup (e.t hs) (fza_kp e ha)
  | .lst ds, _, h => by
    cases h with
    | lst hs ha => exact .lst (e.f hs) (fza_kp e ha)
  | .obj C ns ds, _, h => by
    cases h with
    | obj h1 h2 h3 h4 => exact .obj (e.ins _ _ _ _ h2 h1) h2 h3 (fza_kp e h4)
theorem fza_kp (e : Kp fo H H') : ∀ {ds : List D} {vs : List V}, FzA K fo H vs ds → FzA K fo H' vs ds
  | [], _, h => by cases h; exact .nil
  | d :: ds, _, h => by
    cases h with
    | cons h1 h2 => exact .cons (fz_kp e h1) (fza_kp e h2)
end
mutual
theorem dp_of : ∀ {d : D} {v : V}, dat d = true → Fz K fo H v d → Dp K H v (py d)
  | .non, _, _, h => by cases h; exact .non
  | .bl _, _, _, h => by cases h; exact .bl _
  | .int _, _, _, h => by cases h; exact .int _
  | .str _, _, _, h => by cases h; exact .str _
  | .fn _, _, z, h => by cases z
  | .obj _ _ _, _, z, h => by cases z
  | .tup ds, _, z, h => by
    cases h with
    | tup hs ha => exact .tup hs (dpa_of (by simpa [dat] using z) ha)
  | .lst ds, _, z, h => by
    cases h with
    | lst hs ha => exact .lst hs.l (dpa_of (by simpa [dat] using z) ha)
theorem dpa_of : ∀ {ds : List D} {vs : List V}, dats ds = true → FzA K fo H vs ds → DpAll K H vs (pys ds)
  | [], _, _, h => by cases h; exact .nil
  | d :: ds, _, z, h => by
    simp only [dats, Bool.and_eq_true] at z
    cases h with
    | cons h1 h2 => exact .cons (dp_of z.1 h1) (dpa_of z.2 h2)
end
theorem fza_len : ∀ {ds : List D} {vs : List V}, FzA K fo H vs ds → vs.length = ds.length
  | [], _, h => by cases h; rfl
  | d :: ds, _, h => by
    cases h with
    | cons h1 h2 => simp only [List.length_cons]; rw [fza_len h2]
theorem fza_get : ∀ {ds : List D} {vs : List V} {i : Nat} {d : D}, FzA K fo H vs ds → ds[i]? = some d → ∃ v, vs[i]? = some v ∧ Fz K fo H v d
  | [], _, i, d, h, e => by simp at e
  | d0 :: ds, _, i, d, h, e => by
    cases h with
    | cons h1 h2 =>
      cases i with
      | zero => simp at e; subst e; exact ⟨_, rfl, h1⟩
      | succ i =>
        obtain ⟨v, a, b⟩ := fza_get h2 (by simpa using e)
        exact ⟨v, by simpa using a, b⟩
theorem fza_getV : ∀ {ds : List D} {vs : List V} {i : Nat} {v : V}, FzA K fo H vs ds → vs[i]? = some v → ∃ d, ds[i]? = some d ∧ Fz K fo H v d
  | [], _, i, d, h, e => by cases h; simp at e
  | d0 :: ds, _, i, d, h, e => by
    cases h with
    | cons h1 h2 =>
      cases i with
      | zero => simp at e; subst e; exact ⟨_, rfl, h1⟩
      | succ i =>
        obtain ⟨v, a, b⟩ := fza_getV (i := i) h2 (by simpa using e)
        exact ⟨v, by simpa using a, b⟩
theorem fza_app : ∀ {ds es : List D} {vs ws : List V}, FzA K fo H vs ds → FzA K fo H ws es → FzA K fo H (vs ++ ws) (ds ++ es)
  | [], es, _, ws, h, h' => by cases h; exact h'
  | d :: ds, es, _, ws, h, h' => by
    cases h with
    | cons h1 h2 => exact .cons h1 (fza_app h2 h')
theorem fza_one {v : V} {d : D} (h : Fz K fo H v d) : FzA K fo H [v] [d] := .cons h .nil
theorem fza_take : ∀ (n : Nat) {ds : List D} {vs : List V}, FzA K fo H vs ds → FzA K fo H (vs.take n) (ds.take n)
  | 0, _, _, _ => by simp only [List.take_zero]; exact .nil
  | n + 1, [], _, h => by cases h; simp only [List.take_nil]; exact .nil
  | n + 1, d :: ds, _, h => by
    cases h with
    | cons h1 h2 => simp only [List.take_succ_cons]; exact .cons h1 (fza_take n h2)
theorem fza_drop : ∀ (n : Nat) {ds : List D} {vs : List V}, FzA K fo H vs ds → FzA K fo H (vs.drop n) (ds.drop n)
  | 0, _, _, h => h
  | n + 1, [], _, h => by cases h; simp only [List.drop_nil]; exact .nil
  | n + 1, d :: ds, _, h => by
    cases h with
    | cons h1 h2 => simp only [List.drop_succ_cons]; exact fza_drop n h2
theorem fza_set : ∀ (i : Nat) {ds : List D} {vs : List V} {v : V} {d : D}, FzA K fo H vs ds → Fz K fo H v d → FzA K fo H (vs.set i v) (ds.set i d)
  | _, [], _, _, _, h, _ => by cases h; exact .nil
  | 0, d :: ds, _, _, _, h, q => by
    cases h with
    | cons h1 h2 => exact .cons q h2
  | i + 1, d :: ds, _, _, _, h, q => by
    cases h with
    | cons h1 h2 => exact .cons h1 (fza_set i h2 q)
theorem fza_map {α : Type} (f : α → V) (g : α → D) : ∀ l : List α, (∀ x ∈ l, Fz K fo H (f x) (g x)) → FzA K fo H (l.map f) (l.map g)
  | [], _ => .nil
  | x :: l, h => .cons (h x (by simp)) (fza_map f g l fun y hy => h y (by simp [hy]))
end
end KD

/-! readings over data -/
namespace KD
open PySem PySem.Spec PyProof.Rows L2 KX
/-- what a slot holds: data, or a list that is the def's own -/
inductive Sl where
  | d (d : D) | own (ds : List D)
abbrev Env := List (Option Sl)
/-- what an expression gives: data, a new list, the list of a slot -/
inductive RV where
  | d (d : D) | new (ds : List D) | var (i : Nat)
/-- what is held around, beside a def's own slots: told by a state of type T, over the cells ch -/
structure Wld (T : Type) where
  At : (Addr → Prop) → T → Hp → Prop
  loc : ∀ ch t H H', At ch t H → (∀ a o, ch a → H a = some o → H' a = some o) → At ch t H'
/-- around a def: fo: addresses that data keep off; ch: of these, what may change -/
structure Ct {T : Type} (Wd : Wld T) where
  H0 : Hp
  fo : Addr → Prop
  ch : Addr → Prop
  sub : ∀ a, ch a → fo a
  dom : ∀ a, fo a → H0 a ≠ none
  fl : Hp → Prop
  flk : ∀ H H', fl H → Kp fo H H' → fl H'
abbrev Ct.at_ {T : Type} {Wd : Wld T} (C : Ct Wd) (t : T) (H : Hp) : Prop := Wd.At C.ch t H
theorem Ct.loc {T : Type} {Wd : Wld T} (C : Ct Wd) (t : T) (H H' : Hp) (h : C.at_ t H) (k : ∀ a o, C.ch a → H a = some o → H' a = some o) : C.at_ t H' := Wd.loc C.ch t H H' h k
def own (ρ : Env) (i : Nat) : Prop := ∃ ds, ρ[i]? = some (some (.own ds))
section
variable {T : Type} {Wd : Wld T}
structure RelR (C : Ct Wd) (τ : T) (H : Hp) : Prop where
  at_ : C.at_ τ H
  bt : ∀ b o, ¬ C.ch b → C.H0 b = some o → H b = some o
  dm : ∀ b, H b = none → C.H0 b = none
  fl : C.fl H
def SlOk (C : Ct Wd) (K : PySem.W.Frag) (σ : L2.St) (H : Hp) (i : Nat) : Sl → Prop
  | .d d => ∃ v, σ[i]? = some (some v) ∧ Fz K C.fo H v d
  | .own ds => ∃ a vs, σ[i]? = some (some (.ref a)) ∧ C.H0 a = none ∧ H a = some (.lst vs) ∧ FzA K C.fo H vs ds
structure Rel (C : Ct Wd) (K : PySem.W.Frag) (ρ : Env) (τ : T) (σ : L2.St) (H : Hp) : Prop where
  r : RelR C τ H
  ln : ρ.length = σ.length
  sl : ∀ i s, ρ[i]? = some (some s) → SlOk C K σ H i s
  dj : ∀ i j a, i ≠ j → own ρ i → own ρ j → σ[i]? = some (some (.ref a)) → σ[j]? ≠ some (some (.ref a))
def VR (C : Ct Wd) (K : PySem.W.Frag) (ρ : Env) (σ : L2.St) (H : Hp) (v : V) : RV → Prop
  | .d d => Fz K C.fo H v d
  | .new ds => ∃ a vs, v = .ref a ∧ C.H0 a = none ∧ H a = some (.lst vs) ∧ FzA K C.fo H vs ds ∧ ∀ i, own ρ i → σ[i]? ≠ some (some (.ref a))
  | .var i => σ[i]? = some (some v)
structure Stp (C : Ct Wd) (ρ : Env) (σ : L2.St) (H : Hp) (ρ' : Env) (H' : Hp) : Prop where
  kp : Kp C.fo H H'
  st : ∀ b o, ¬ C.ch b → (∀ i, own ρ i → σ[i]? ≠ some (some (.ref b))) → H b = some o → H' b = some o
  ow : ∀ i, own ρ' i → own ρ i
  dm : ∀ b, H' b = none → H b = none
/-- a new list is new since H -/
def NewAt (H : Hp) (v : V) : RV → Prop
  | .new _ => ∃ a, v = .ref a ∧ H a = none
  | _ => True
variable {C : Ct Wd} {K : PySem.W.Frag} {ρ ρ' ρ2 : Env} {τ τ' : T} {σ : L2.St} {H H' H2 : Hp} {v : V}
theorem Stp.refl : Stp C ρ σ H ρ H := ⟨.refl, fun _ _ _ _ h => h, fun _ h => h, fun _ h => h⟩
theorem Stp.trans (a : Stp C ρ σ H ρ' H') (b : Stp C ρ' σ H' ρ2 H2) : Stp C ρ σ H ρ2 H2 :=
  ⟨a.kp.trans b.kp, fun x o n m h => b.st x o n (fun i hi => m i (a.ow i hi)) (a.st x o n m h), fun i h => a.ow i (b.ow i h), fun x h => a.dm x (b.dm x h)⟩
theorem Stp.ex (e : Ex H H') : Stp C ρ σ H ρ H' := ⟨.of_ex e, fun b o _ _ h => e b o h, fun _ h => h, fun b h => by
    cases q : H b with
    | none => rfl
    | some o => rw [e _ _ q] at h; cases h⟩
theorem NewAt.stp {rv : RV} (h : NewAt H' v rv) (s : Stp C ρ σ H ρ' H') : NewAt H v rv := by
  cases rv with
  | d d => trivial
  | new ds => obtain ⟨a, e, n⟩ := h; exact ⟨a, e, s.dm a n⟩
  | var i => trivial
theorem VR.stp {rv : RV} (h : VR C K ρ σ H v rv) (s : Stp C ρ σ H ρ' H') : VR C K ρ' σ H' v rv := by
  cases rv with
  | d d => exact fz_kp s.kp h
  | new ds =>
    obtain ⟨a, vs, rfl, h1, h2, h3, h4⟩ := h
    have nch : ¬ C.ch a := fun z => C.dom a (C.sub a z) h1
    exact ⟨a, vs, rfl, h1, s.st a _ nch h4 h2, fza_kp s.kp h3, fun i hi => h4 i (s.ow i hi)⟩
  | var i => exact h
theorem Rel.nofo (r : Rel C K ρ τ σ H) {a : Addr} (h : C.H0 a = none) : ¬ C.fo a := fun z => C.dom a z h
theorem Rel.noch (r : Rel C K ρ τ σ H) {a : Addr} (h : C.H0 a = none) : ¬ C.ch a := fun z => C.dom a (C.sub a z) h
theorem Rel.ex (r : Rel C K ρ τ σ H) (e : Ex H H') : Rel C K ρ τ σ H' := by
  refine ⟨⟨C.loc _ _ _ r.r.at_ fun a o _ h => e a o h, fun b o n h => e _ _ (r.r.bt b o n h), fun b h => r.r.dm b ?_, C.flk _ _ r.r.fl (.of_ex e)⟩, r.ln, fun i s h => ?_, r.dj⟩
  · cases q : H b with
    | none => rfl
    | some o => rw [e _ _ q] at h; cases h
  · have h1 := r.sl i s h
    cases s with
    | d d => obtain ⟨v, a, b⟩ := h1; exact ⟨v, a, fz_kp (.of_ex e) b⟩
    | own ds => obtain ⟨a, vs, h2, h3, h4, h5⟩ := h1; exact ⟨a, vs, h2, h3, e _ _ h4, fza_kp (.of_ex e) h5⟩

/-! ### readings -/
end
abbrev Exn := Nat × List Nat
abbrev DX (T : Type) := Exn → Env → T → Prop
abbrev DE (T : Type) := DX T → Env → T → (RV → Env → T → Prop) → Prop
abbrev DF (T : Type) := DX T → Env → T → (D → Env → T → Prop) → Prop
abbrev DT (T : Type) := DX T → Env → T → (Bool → Env → T → Prop) → Prop
abbrev DA (T : Type) := DX T → Env → T → (List D → Env → T → Prop) → Prop
structure DEnds (T : Type) where
  nx : Env → T → Prop
  rt : D → T → Prop
  bk : Env → T → Prop := fun _ _ => False
  ct : Env → T → Prop := fun _ _ => False
abbrev DS (T : Type) := DX T → DEnds T → Env → T → Prop
abbrev DG (T : Type) := D → DX T → Env → T → (Env → T → Prop) → Prop
def enc (e : Exn) : Value := .str (tx e.2) e.1
def XOk (K : PySem.W.Frag) (W : WX) {T : Type} {Wd : Wld T} (C : Ct Wd) (xc : DX T) : Prop := ∀ e σ H ρ τ, xc e ρ τ → Rel C K ρ τ σ H → W (enc e) none σ H
def toTE (K : PySem.W.Frag) (W : WX) {T : Type} (Wd : Wld T) (t : DE T) : TE := fun σ H Q => ∃ (C : Ct Wd) (ρ : Env) (τ : T) (Qd : RV → Env → T → Prop) (xc : DX T), Rel C K ρ τ σ H ∧ t xc ρ τ Qd ∧ XOk K W C xc ∧
  ∀ v H' rv ρ' τ', Qd rv ρ' τ' → Rel C K ρ' τ' σ H' → VR C K ρ' σ H' v rv → NewAt H v rv → Stp C ρ σ H ρ' H' → Q v H'
def toTF (K : PySem.W.Frag) (W : WX) {T : Type} (Wd : Wld T) (t : DF T) : TE := fun σ H Q => ∃ (C : Ct Wd) (ρ : Env) (τ : T) (Qd : D → Env → T → Prop) (xc : DX T), Rel C K ρ τ σ H ∧ t xc ρ τ Qd ∧ XOk K W C xc ∧
  ∀ v H' d ρ' τ', Qd d ρ' τ' → Rel C K ρ' τ' σ H' → Fz K C.fo H' v d → Stp C ρ σ H ρ' H' → Q v H'
def toTT (K : PySem.W.Frag) (W : WX) {T : Type} (Wd : Wld T) (t : DT T) : TT := fun σ H Q => ∃ (C : Ct Wd) (ρ : Env) (τ : T) (Qd : Bool → Env → T → Prop) (xc : DX T), Rel C K ρ τ σ H ∧ t xc ρ τ Qd ∧ XOk K W C xc ∧
  ∀ b H' ρ' τ', Qd b ρ' τ' → Rel C K ρ' τ' σ H' → Stp C ρ σ H ρ' H' → Q b H'
def toTA (K : PySem.W.Frag) (W : WX) {T : Type} (Wd : Wld T) (t : DA T) : TA := fun σ H Q => ∃ (C : Ct Wd) (ρ : Env) (τ : T) (Qd : List D → Env → T → Prop) (xc : DX T), Rel C K ρ τ σ H ∧ t xc ρ τ Qd ∧ XOk K W C xc ∧
  ∀ vs H' ds ρ' τ', Qd ds ρ' τ' → Rel C K ρ' τ' σ H' → FzA K C.fo H' vs ds → Stp C ρ σ H ρ' H' → Q vs H'
def toTS (K : PySem.W.Frag) (W : WX) {T : Type} (Wd : Wld T) (t : DS T) : TS := fun D σ H => ∃ (C : Ct Wd) (ρ : Env) (τ : T) (Dd : DEnds T) (xc : DX T), Rel C K ρ τ σ H ∧ t xc Dd ρ τ ∧ XOk K W C xc ∧
  (∀ σ' H' ρ' τ', Rel C K ρ' τ' σ' H' → (Dd.nx ρ' τ' → D.nx σ' H') ∧ (Dd.bk ρ' τ' → D.bk σ' H') ∧ (Dd.ct ρ' τ' → D.ct σ' H')) ∧
  ∀ v H' d τ', Dd.rt d τ' → RelR C τ' H' → Fz K C.fo H' v d → D.rt v H'
def toTG (K : PySem.W.Frag) (W : WX) {T : Type} (Wd : Wld T) (g : DG T) : TG := fun v σ H R => ∃ (C : Ct Wd) (ρ : Env) (τ : T) (d : D) (Qd : Env → T → Prop) (xc : DX T), Rel C K ρ τ σ H ∧ Fz K C.fo H v d ∧ g d xc ρ τ Qd ∧ XOk K W C xc ∧
  ∀ σ' H' ρ' τ', Qd ρ' τ' → Rel C K ρ' τ' σ' H' → R σ' H'
section
variable {X : Cx} {e : Expr} {t1 t2 : TE}
theorem pe_imp (h : PE X e t1) (w : ∀ σ H Q, t2 σ H Q → t1 σ H Q) : PE X e t2 := ⟨fun pins s σ H Q I q => h.run pins s σ H Q I (w σ H Q q)⟩
theorem pt_imp {t1 t2 : TT} (h : PT X e t1) (w : ∀ σ H Q, t2 σ H Q → t1 σ H Q) : PT X e t2 := ⟨fun pins s σ H Q I q => h.run pins s σ H Q I (w σ H Q q)⟩
theorem pw_imp {t1 t2 : TT} (h : PW X e t1) (w : ∀ σ H Q, t2 σ H Q → t1 σ H Q) : PW X e t2 := ⟨fun wh pins s σ H Q I q => h.run wh pins s σ H Q I (w σ H Q q)⟩
theorem pa_imp {es : List Expr} {t1 t2 : TA} (h : PA X es t1) (w : ∀ σ H Q, t2 σ H Q → t1 σ H Q) : PA X es t2 := ⟨fun pos pins s σ H Q I q => h.run pos pins s σ H Q I (w σ H Q q)⟩
theorem ps_imp {st : Stmt} {t1 t2 : TS} (h : PS X st t1) (w : ∀ D σ H, t2 D σ H → t1 D σ H) : PS X st t2 := ⟨fun pins s σ H D I q => h.run pins s σ H D I (w D σ H q)⟩
theorem pss_imp {st : List Stmt} {t1 t2 : TS} (h : PSs X st t1) (w : ∀ D σ H, t2 D σ H → t1 D σ H) : PSs X st t2 := ⟨fun pins s σ H D I q => h.run pins s σ H D I (w D σ H q)⟩
theorem pg_imp {t1 t2 : TG} (h : PG X e t1) (w : ∀ v σ H Q, t2 v σ H Q → t1 v σ H Q) : PG X e t2 := ⟨fun pins s σ H v u Q I r q => h.run pins s σ H v u Q I r (w v σ H Q q)⟩
theorem pi_imp {tg : Expr} {t1 t2 : TI} (h : PI X tg e t1) (w : ∀ σ H R, t2 σ H R → t1 σ H R) : PI X tg e t2 := ⟨fun pins s σ H R I q => h.run pins s σ H R I (w σ H R q)⟩
/-- a tracked list is frozen -/
theorem inv_frz {pins : List (Addr × Obj)} {σ : L2.St} {H : Hp} {s : Shared} {a : Addr} {vs : List V} (I : Inv X pins σ H s) (h : H a = some (.lst vs)) : ∃ o, Inv X pins σ (upd H a (.frz o (.lst vs))) s := by
  obtain ⟨z, its, n, r, e⟩ := I.hok a _ h
  refine ⟨_, I.un (h' := s.heap) (t' := s.toks) (Un.write (x := a) (e := a) (by rw [h]; trivial) (.inl rfl) (fun _ _ _ q => q) ⟨_, e⟩) (I.hok.write (by rw [h]; trivial) (.inl rfl) (fun _ _ _ q => q) ⟨_, e⟩ ⟨e, z, its, n, r, e⟩)⟩
/-- a value, a list in it frozen if that is wanted -/
def tFrz (t : TE) : TE := fun σ H Q => t σ H fun v H1 => Q v H1 ∨ ∃ a vs, v = .ref a ∧ H1 a = some (.lst vs) ∧ ∀ o, Q v (upd H1 a (.frz o (.lst vs)))
theorem pe_frz (h : PE X e t1) : PE X e (tFrz t1) := by
  refine ⟨fun pins s σ H Q I q => thn (h.run pins s σ H _ I q) fun u s1 ⟨v, H1, I1, r1, q1⟩ => ?_⟩
  rcases q1 with q1 | ⟨a, vs, rfl, h1, q1⟩
  · exact ⟨v, H1, I1, r1, q1⟩
  · obtain ⟨o, I2⟩ := inv_frz I1 h1
    exact ⟨_, _, I2, r1, q1 o⟩
end
section
variable {T : Type} {Wd : Wld T} {C : Ct Wd} {K : PySem.W.Frag} {ρ ρ' ρ2 : Env} {τ τ' : T} {σ : L2.St} {H H' H2 : Hp} {v : V} {W : WX}
theorem set_get {α : Type} {l : List α} {i j : Nat} {x y : α} (h : (l.set i x)[j]? = some y) : (i = j ∧ i < l.length ∧ x = y) ∨ (i ≠ j ∧ l[j]? = some y) := by
  by_cases e : i = j
  · subst e
    by_cases hl : i < l.length
    · rw [List.getElem?_set_self hl] at h
      exact .inl ⟨rfl, hl, Option.some.inj h⟩
    · rw [List.getElem?_eq_none (by simpa using hl)] at h
      cases h
  · rw [List.getElem?_set_ne e] at h
    exact .inr ⟨e, h⟩
/-- a list that is nobody's is changed -/
theorem Rel.newN {a : Addr} {vs : List V} {u0 : HO} {ρ0 : Env} {H0 : Hp} (r : Rel C K ρ τ σ H) (h0 : C.H0 a = none) (h1 : H a = some (.lst vs)) (no : ∀ i, own ρ i → σ[i]? ≠ some (some (.ref a))) (s : Stp C ρ0 σ H0 ρ H) (nw : H0 a = none) :
    Rel C K ρ τ σ (upd H a u0) ∧ Stp C ρ0 σ H0 ρ (upd H a u0) ∧ Kp C.fo H (upd H a u0) := by
  have kp : Kp C.fo H (upd H a u0) := .upd h1
  have oth : ∀ b u, b ≠ a → H b = some u → upd H a u0 b = some u := fun b u n h => by rw [upd_ne n]; exact h
  refine ⟨⟨⟨C.loc _ _ _ r.r.at_ fun b u hb h => oth b u (fun z => r.noch (z ▸ h0) hb) h, fun b u n h => ?_, fun b h => ?_, C.flk _ _ r.r.fl kp⟩, r.ln, fun i s h => ?_, r.dj⟩, ⟨s.kp.trans kp, fun b u n m h => ?_, s.ow, fun b h => ?_⟩, kp⟩
  · exact oth b u (fun z => by rw [z, h0] at h; cases h) (r.r.bt b u n h)
  · by_cases z : b = a
    · rw [z]; exact h0
    · rw [upd_ne z] at h; exact r.r.dm b h
  · have h2 := r.sl i s h
    cases s with
    | d d => obtain ⟨v, x, y⟩ := h2; exact ⟨v, x, fz_kp kp y⟩
    | own es =>
      obtain ⟨b, ws, x1, x2, x3, x4⟩ := h2
      exact ⟨b, ws, x1, x2, oth b _ (fun z => no i ⟨es, h⟩ (z ▸ x1)) x3, fza_kp kp x4⟩
  · exact oth b u (fun z => by rw [z, nw] at h; cases h) (s.st b u n m h)
  · by_cases z : b = a
    · rw [z]; exact nw
    · rw [upd_ne z] at h; exact s.dm b h
/-- a list that is nobody's is frozen -/
theorem Rel.frzN {a : Addr} {vs : List V} {o : Obj} {ρ0 : Env} {H0 : Hp} (r : Rel C K ρ τ σ H) (h0 : C.H0 a = none) (h1 : H a = some (.lst vs)) (no : ∀ i, own ρ i → σ[i]? ≠ some (some (.ref a))) (s : Stp C ρ0 σ H0 ρ H) (nw : H0 a = none) :
    Rel C K ρ τ σ (upd H a (.frz o (.lst vs))) ∧ Stp C ρ0 σ H0 ρ (upd H a (.frz o (.lst vs))) ∧ Kp C.fo H (upd H a (.frz o (.lst vs))) := r.newN h0 h1 no s nw
/-- the list of a slot is frozen -/
theorem Rel.frzO {i : Nat} {a : Addr} {vs : List V} {ds : List D} {o : Obj} {ρ0 : Env} {H0 : Hp} (r : Rel C K ρ τ σ H) (hi : ρ[i]? = some (some (.own ds))) (ha : σ[i]? = some (some (.ref a))) (h0 : C.H0 a = none) (h1 : H a = some (.lst vs)) (hv : FzA K C.fo H vs ds) (s : Stp C ρ0 σ H0 ρ H) :
    Rel C K (ρ.set i (some (.d (.lst ds)))) τ σ (upd H a (.frz o (.lst vs))) ∧ Stp C ρ0 σ H0 (ρ.set i (some (.d (.lst ds)))) (upd H a (.frz o (.lst vs))) ∧ Fz K C.fo (upd H a (.frz o (.lst vs))) (.ref a) (.lst ds) := by
  have kp : Kp C.fo H (upd H a (.frz o (.lst vs))) := .upd h1
  have fz : Fz K C.fo (upd H a (.frz o (.lst vs))) (.ref a) (.lst ds) := .lst ⟨o, upd_same⟩ (fza_kp kp hv)
  have oth : ∀ b u, b ≠ a → H b = some u → upd H a (.frz o (.lst vs)) b = some u := fun b u n h => by rw [upd_ne n]; exact h
  have ow : ∀ j, own (ρ.set i (some (.d (.lst ds)))) j → own ρ j ∧ j ≠ i := by
    rintro j ⟨es, h⟩
    rcases set_get h with ⟨_, _, z⟩ | ⟨ne, h⟩
    · cases z
    · exact ⟨⟨es, h⟩, Ne.symm ne⟩
  refine ⟨⟨⟨C.loc _ _ _ r.r.at_ fun b u hb h => oth b u (fun z => r.noch (z ▸ h0) hb) h, fun b u n h => ?_, fun b h => ?_, C.flk _ _ r.r.fl kp⟩, by simpa using r.ln, fun j s h => ?_, fun j k b ne hj hk => r.dj j k b ne (ow j hj).1 (ow k hk).1⟩, ⟨s.kp.trans kp, fun b u n m h => ?_, fun j hj => s.ow j (ow j hj).1, fun b h => ?_⟩, fz⟩
  · exact oth b u (fun z => by rw [z, h0] at h; cases h) (r.r.bt b u n h)
  · by_cases z : b = a
    · rw [z]; exact h0
    · rw [upd_ne z] at h; exact r.r.dm b h
  · rcases set_get h with ⟨rfl, _, z⟩ | ⟨ne, h⟩
    · cases z
      exact ⟨_, ha, fz⟩
    · have h2 := r.sl j s h
      cases s with
      | d d => obtain ⟨v, x, y⟩ := h2; exact ⟨v, x, fz_kp kp y⟩
      | own es =>
        obtain ⟨b, ws, x1, x2, x3, x4⟩ := h2
        exact ⟨b, ws, x1, x2, oth b _ (fun z => r.dj j i b (Ne.symm ne) ⟨es, h⟩ ⟨ds, hi⟩ x1 (z ▸ ha)) x3, fza_kp kp x4⟩
  · exact oth b u (fun z => m i (s.ow i ⟨ds, hi⟩) (z ▸ ha)) (s.st b u n m h)
  · by_cases z : b = a
    · subst z; rw [upd_same] at h; cases h
    · rw [upd_ne z] at h; exact s.dm b h
/-- a value in D's form -/
def fz (t : DE T) : DF T := fun xc ρ τ Q => t xc ρ τ fun rv ρ' τ' => match rv with
  | .d d => Q d ρ' τ'
  | .new ds => Q (.lst ds) ρ' τ'
  | .var i => match ρ'[i]? with
    | some (some (.own ds)) => Q (.lst ds) (ρ'.set i (some (.d (.lst ds)))) τ'
    | some (some (.d d)) => Q d ρ' τ'
    | _ => False
theorem ped_fz {X : Cx} {e : Expr} {t : DE T} (h : PE X e (toTE K W Wd t)) : PE X e (toTF K W Wd (fz t)) := by
  refine pe_imp (pe_frz h) fun σ H Q ⟨C, ρ, τ, Qd, xc, r, q, hx, k⟩ => ?_
  refine ⟨C, ρ, τ, _, xc, r, q, hx, fun v H' rv ρ' τ' hq r' vr nw s => ?_⟩
  cases rv with
  | d d => exact .inl (k v H' d ρ' τ' hq r' vr s)
  | new ds =>
    obtain ⟨a, vs, rfl, h0, h1, hv, no⟩ := vr
    obtain ⟨a', ea, n0⟩ := nw
    cases ea
    refine .inr ⟨a, vs, rfl, h1, fun o => ?_⟩
    obtain ⟨r2, s2, kp⟩ := r'.frzN (o := o) h0 h1 no s n0
    exact k _ _ _ _ _ hq r2 (.lst ⟨o, upd_same⟩ (fza_kp kp hv)) s2
  | var i =>
    have e1 : σ[i]? = some (some v) := vr
    simp only at hq
    split at hq
    · rename_i ds e2
      obtain ⟨a, vs, y1, y2, y3, y4⟩ := r'.sl i _ e2
      rw [e1] at y1
      cases y1
      refine .inr ⟨a, vs, rfl, y3, fun o => ?_⟩
      obtain ⟨r2, s2, f2⟩ := r'.frzO (o := o) e2 e1 y2 y3 y4 s
      exact k _ _ _ _ _ hq r2 f2 s2
    · rename_i d e2
      obtain ⟨v', y1, y2⟩ := r'.sl i _ e2
      rw [e1] at y1
      cases y1
      exact .inl (k v H' d ρ' τ' hq r' y2 s)
    · exact hq.elim
end
section
variable {T : Type} {Wd : Wld T} {C : Ct Wd} {K : PySem.W.Frag} {ρ : Env} {τ : T} {σ : L2.St} {H H0 : Hp} {W : WX}
/-- the same, from H on -/
def Ct.kp (C : Ct Wd) (H : Hp) : Ct Wd := { C with fl := fun H' => C.fl H' ∧ Kp C.fo H H', flk := fun a b h k => ⟨C.flk a b h.1 k, h.2.trans k⟩ }
theorem RelR.kpE (r : RelR (C.kp H0) τ H) : RelR C τ H ∧ Kp C.fo H0 H := ⟨⟨r.at_, r.bt, r.dm, r.fl.1⟩, r.fl.2⟩
theorem SlOk.kpE {i : Nat} {s : Sl} (h : SlOk (C.kp H0) K σ H i s) : SlOk C K σ H i s := by cases s <;> exact h
theorem SlOk.kpI {i : Nat} {s : Sl} (h : SlOk C K σ H i s) : SlOk (C.kp H0) K σ H i s := by cases s <;> exact h
theorem Rel.kpE (r : Rel (C.kp H0) K ρ τ σ H) : Rel C K ρ τ σ H ∧ Kp C.fo H0 H := ⟨⟨r.r.kpE.1, r.ln, fun i s h => (r.sl i s h).kpE, r.dj⟩, r.r.fl.2⟩
theorem Rel.kpI (r : Rel C K ρ τ σ H) (k : Kp C.fo H0 H) : Rel (C.kp H0) K ρ τ σ H := ⟨⟨r.r.at_, r.r.bt, r.r.dm, r.r.fl, k⟩, r.ln, fun i s h => (r.sl i s h).kpI, r.dj⟩
theorem XOk.kp {xc : DX T} (h : XOk K W C xc) : XOk K W (C.kp H0) xc := fun e σ H ρ τ x r => h e σ H ρ τ x r.kpE.1
end
end KD

/-! operators over data -/
namespace KD
open PySem PySem.Spec PyProof.Rows L2 KX
/-- a value reads as d now -/
def Dv (K : PySem.W.Frag) (fo : Addr → Prop) (H : Hp) (v : V) (d : D) : Prop := Fz K fo H v d ∨ ∃ a vs ds, v = .ref a ∧ d = .lst ds ∧ H a = some (.lst vs) ∧ FzA K fo H vs ds
def withD (r : RV) (ρ : Env) (k : D → Prop) : Prop := match r with
  | .d d => k d
  | .new ds => k (.lst ds)
  | .var i => match ρ[i]? with
    | some (some (.own ds)) => k (.lst ds)
    | some (some (.d d)) => k d
    | _ => False
/-- what an operation gives: data, or a new list -/
def NewV (K : PySem.W.Frag) (fo : Addr → Prop) (H H' : Hp) (v : V) : RV → Prop
  | .d d => Ex H H' ∧ Fz K fo H' v d
  | .new ds => Ex H H' ∧ ∃ a vs, v = .ref a ∧ H a = none ∧ H' a = some (.lst vs) ∧ FzA K fo H' vs ds
  | .var _ => False
abbrev O1 := D → (RV → Prop) → Prop
abbrev O2 := D → D → (RV → Prop) → Prop
def C1 (K : PySem.W.Frag) (r : V → Hp → VK → Prop) (o : O1) : Prop := ∀ fo H x d (Qd : RV → Prop) (Q : VK), Dv K fo H x d → o d Qd → (∀ v H' rv, Qd rv → NewV K fo H H' v rv → Q v H') → r x H Q
def C2 (K : PySem.W.Frag) (r : R2) (o : O2) : Prop := ∀ fo H x y d e (Qd : RV → Prop) (Q : VK), Dv K fo H x d → Dv K fo H y e → o d e Qd → (∀ v H' rv, Qd rv → NewV K fo H H' v rv → Q v H') → r x y H Q
section
variable {T : Type} {Wd : Wld T} {C : Ct Wd} {K : PySem.W.Frag} {fo : Addr → Prop} {ρ ρ' : Env} {τ τ' : T} {σ : L2.St} {H H' : Hp} {v : V} {W : WX}
theorem Dv.non (h : Dv K fo H v .non) : v = .non := by
  rcases h with h | ⟨a, vs, ds, _, z, _⟩
  · cases h; rfl
  · cases z
theorem Dv.bl {b : Bool} (h : Dv K fo H v (.bl b)) : v = .bl b := by
  rcases h with h | ⟨a, vs, ds, _, z, _⟩
  · cases h; rfl
  · cases z
theorem Dv.int {i : Int} (h : Dv K fo H v (.int i)) : v = .int i := by
  rcases h with h | ⟨a, vs, ds, _, z, _⟩
  · cases h; rfl
  · cases z
theorem Dv.str {l : List Nat} (h : Dv K fo H v (.str l)) : v = .str (tx l) := by
  rcases h with h | ⟨a, vs, ds, _, z, _⟩
  · cases h; rfl
  · cases z
theorem Dv.tup {ds : List D} (h : Dv K fo H v (.tup ds)) : ∃ a vs, v = .ref a ∧ SqT K H a vs ∧ FzA K fo H vs ds := by
  rcases h with h | ⟨a, vs, ds, _, z, _⟩
  · cases h with
    | tup h1 h2 => exact ⟨_, _, rfl, h1, h2⟩
  · cases z
theorem Dv.lst {ds : List D} (h : Dv K fo H v (.lst ds)) : ∃ a vs, v = .ref a ∧ Rd H a (.lst vs) ∧ FzA K fo H vs ds := by
  rcases h with h | ⟨a, vs, ds, rfl, z, h1, h2⟩
  · cases h with
    | lst h1 h2 => exact ⟨_, _, rfl, .inr h1, h2⟩
  · cases z; exact ⟨a, vs, rfl, .inl h1, h2⟩
theorem Rd.l {a : Addr} {xs : List V} (h : Rd H a (.lst xs)) : SqL K H a xs := .inl h
theorem Dv.dp {d : D} (z : dat d = true) (h : Dv K fo H v d) : Dp K H v (py d) := by
  rcases h with h | ⟨a, vs, ds, rfl, rfl, h1, h2⟩
  · exact dp_of z h
  · exact .lst (SqL.of h1) (dpa_of (by simpa [dat] using z) h2)
theorem vr_dv {rv : RV} {k : D → Prop} (r : Rel C K ρ τ σ H) (h : VR C K ρ σ H v rv) (q : withD rv ρ k) : ∃ d, Dv K C.fo H v d ∧ k d := by
  cases rv with
  | d d => exact ⟨d, .inl h, q⟩
  | new ds => obtain ⟨a, vs, rfl, h0, h1, h2, _⟩ := h; exact ⟨.lst ds, .inr ⟨a, vs, ds, rfl, rfl, h1, h2⟩, q⟩
  | var i =>
    have e1 : σ[i]? = some (some v) := h
    simp only [withD] at q
    split at q
    · rename_i ds e2
      obtain ⟨a, vs, y1, y2, y3, y4⟩ := r.sl i _ e2
      rw [e1] at y1; cases y1
      exact ⟨.lst ds, .inr ⟨a, vs, ds, rfl, rfl, y3, y4⟩, q⟩
    · rename_i d e2
      obtain ⟨v', y1, y2⟩ := r.sl i _ e2
      rw [e1] at y1; cases y1
      exact ⟨d, .inl y2, q⟩
    · exact q.elim
theorem newv_ok {rv : RV} (r : Rel C K ρ τ σ H) (h : NewV K C.fo H H' v rv) : Rel C K ρ τ σ H' ∧ VR C K ρ σ H' v rv ∧ NewAt H v rv ∧ Ex H H' := by
  cases rv with
  | d d => exact ⟨r.ex h.1, h.2, trivial, h.1⟩
  | new ds =>
    obtain ⟨e, a, vs, rfl, h0, h1, h2⟩ := h
    refine ⟨r.ex e, ⟨a, vs, rfl, r.r.dm a h0, h1, h2, fun i ⟨es, hi⟩ z => ?_⟩, ⟨a, rfl, h0⟩, e⟩
    obtain ⟨b, ws, y1, y2, y3, y4⟩ := r.sl i _ hi
    rw [z] at y1; cases y1
    rw [h0] at y3; cases y3
  | var i => exact h.elim
theorem newv_scal {d : D} (h : ∀ H : Hp, Fz K fo H v d) : NewV K fo H H v (.d d) := ⟨Evl.Ex.refl _, h H⟩
theorem newv_lst {p : Addr} {vs : List V} {ds : List D} (hp : H p = none) (h : FzA K fo H vs ds) : NewV K fo H (upd H p (.lst vs)) (.ref p) (.new ds) :=
  ⟨Evl.Ex.new hp, p, vs, rfl, hp, upd_same, fza_kp (.of_ex (Evl.Ex.new hp)) h⟩
theorem newv_tup {p : Addr} {vs : List V} {ds : List D} (hp : H p = none) (h : FzA K fo H vs ds) : NewV K fo H (upd H p (.tup vs)) (.ref p) (.d (.tup ds)) :=
  ⟨Evl.Ex.new hp, .tup (SqT.of upd_same) (fza_kp (.of_ex (Evl.Ex.new hp)) h)⟩

/-! ### names, constants -/
def dVar (i : Nat) : DE T := fun _ ρ τ Q => match ρ[i]? with
  | some (some (.d d)) => Q (.d d) ρ τ
  | some (some (.own _)) => Q (.var i) ρ τ
  | _ => False
theorem ed_var {X : Cx} {e : Expr} {i : Nat} (h : PE X e (tVar i)) : PE X e (toTE K W Wd (dVar (T := T) i)) := by
  refine pe_imp h fun σ H Q ⟨C, ρ, τ, Qd, xc, r, q, hx, k⟩ => ?_
  unfold dVar at q
  split at q
  · rename_i d e1
    obtain ⟨v, y1, y2⟩ := r.sl i _ e1
    exact ⟨v, y1, k _ _ _ _ _ q r y2 trivial .refl⟩
  · rename_i ds e1
    obtain ⟨a, vs, y1, y2, y3, y4⟩ := r.sl i _ e1
    exact ⟨_, y1, k _ _ _ _ _ q r y1 trivial .refl⟩
  · exact q.elim
def dC (d : D) : DE T := fun _ ρ τ Q => Q (.d d) ρ τ
theorem ed_c {X : Cx} {e : Expr} {v : V} {d : D} (h : PE X e (tC v)) (f : ∀ (fo : Addr → Prop) (H : Hp), Fz K fo H v d) : PE X e (toTE K W Wd (dC (T := T) d)) :=
  pe_imp h fun σ H Q ⟨C, ρ, τ, Qd, xc, r, q, hx, k⟩ => k _ _ _ _ _ q r (f _ H) trivial .refl
theorem ed_int {X : Cx} {i : Int} {j : Nat} {pos : Pos} : PE X (.Constant (.int i) j pos) (toTE K W Wd (dC (T := T) (.int i))) := ed_c pe_int fun _ _ => .int i
theorem ed_bl {X : Cx} {b : Bool} {j : Nat} {pos : Pos} : PE X (.Constant (.bool b) j pos) (toTE K W Wd (dC (T := T) (.bl b))) := ed_c pe_bl fun _ _ => .bl b
theorem ed_non {X : Cx} {j : Nat} {pos : Pos} : PE X (.Constant .none j pos) (toTE K W Wd (dC (T := T) .non)) := ed_c pe_non fun _ _ => .non
theorem ed_str {X : Cx} {x : Str} {l : List Nat} {j : Nat} {pos : Pos} (h : x = tx l) : PE X (.Constant (.str x) j pos) (toTE K W Wd (dC (T := T) (.str l))) := by
  subst h
  exact ed_c pe_str fun _ _ => .str l

/-! ### operators -/
def dOp (o : O2) (ta tb : DE T) : DE T := fun xc ρ τ Q => ta xc ρ τ fun r1 ρ1 τ1 => tb xc ρ1 τ1 fun r2 ρ2 τ2 => withD r1 ρ2 fun d => withD r2 ρ2 fun e => o d e fun rv => Q rv ρ2 τ2
theorem withD_imp {r : RV} {ρ : Env} {k : D → Prop} (h : withD r ρ k) : ∃ d, k d := by
  cases r with
  | d d => exact ⟨d, h⟩
  | new ds => exact ⟨_, h⟩
  | var i =>
    simp only [withD] at h
    split at h
    · exact ⟨_, h⟩
    · exact ⟨_, h⟩
    · exact h.elim
theorem dop_ok {r : R2} {o : O2} (c : C2 K r o) {ta tb : DE T} {Q : VK} (h : toTE K W Wd (dOp o ta tb) σ H Q) : tOp r (toTE K W Wd ta) (toTE K W Wd tb) σ H Q := by
  obtain ⟨C, ρ, τ, Qd, xc, r0, q, hx, k⟩ := h
  refine ⟨C, ρ, τ, _, xc, r0, q, hx, fun v1 H1 rv1 ρ1 τ1 q1 r1 vr1 nw1 s1 => ?_⟩
  refine ⟨C, ρ1, τ1, _, xc, r1, q1, hx, fun v2 H2 rv2 ρ2 τ2 q2 r2 vr2 nw2 s2 => ?_⟩
  obtain ⟨d, dv, q3⟩ := vr_dv r2 (vr1.stp s2) q2
  obtain ⟨e, ev, q4⟩ := vr_dv r2 vr2 q3
  refine c _ _ _ _ _ _ _ _ dv ev q4 fun v H' rv hq nv => ?_
  obtain ⟨r3, vr3, nw3, e3⟩ := newv_ok r2 nv
  have s3 : Stp C ρ2 σ H2 ρ2 H' := .ex e3
  exact k v H' rv ρ2 τ2 hq r3 vr3 (nw3.stp (s1.trans s2)) ((s1.trans s2).trans s3)
def dU (o : O1) (ta : DE T) : DE T := fun xc ρ τ Q => ta xc ρ τ fun r1 ρ1 τ1 => withD r1 ρ1 fun d => o d fun rv => Q rv ρ1 τ1
theorem du_ok {r : V → Hp → VK → Prop} {o : O1} (c : C1 K r o) {ta : DE T} {Q : VK} (h : toTE K W Wd (dU o ta) σ H Q) : toTE K W Wd ta σ H fun x H1 => r x H1 Q := by
  obtain ⟨C, ρ, τ, Qd, xc, r0, q, hx, k⟩ := h
  refine ⟨C, ρ, τ, _, xc, r0, q, hx, fun v1 H1 rv1 ρ1 τ1 q1 r1 vr1 nw1 s1 => ?_⟩
  obtain ⟨d, dv, q3⟩ := vr_dv r1 vr1 q1
  refine c _ _ _ _ _ _ dv q3 fun v H' rv hq nv => ?_
  obtain ⟨r3, vr3, nw3, e3⟩ := newv_ok r1 nv
  exact k v H' rv ρ1 τ1 hq r3 vr3 (nw3.stp s1) (s1.trans (.ex e3))
section
variable {X : Cx} {a b : Expr} {ta tb : DE T} {pos : Pos} {r : R2} {o : O2}
theorem ed_bin {op : Operator} (ho : OpR X (binaryOp op) r) (c : C2 K r o) (ha : PE X a (toTE K W Wd ta)) (hb : PE X b (toTE K W Wd tb)) : PE X (.BinOp a op b pos) (toTE K W Wd (dOp o ta tb)) :=
  pe_imp (pe_op ho ha hb) fun _ _ _ h => dop_ok c h
theorem ed_cmp {op : CmpOp} (ho : OpR X (compareOp op) r) (c : C2 K r o) (ha : PE X a (toTE K W Wd ta)) (hb : PE X b (toTE K W Wd tb)) (hm : behindInMarks op b = false) : PE X (.Compare a [op] [b] pos) (toTE K W Wd (dOp o ta tb)) :=
  pe_imp (pe_cmpR ho ha hb hm) fun _ _ _ h => dop_ok c h
theorem ed_ix (hr : IxR X r) (c : C2 K r o) (ha : PE X a (toTE K W Wd ta)) (hb : PE X b (toTE K W Wd tb)) (hs : PlainIx b) : PE X (.Subscript a b pos) (toTE K W Wd (dOp o ta tb)) :=
  pe_imp (pe_ix hr ha hb hs) fun _ _ _ h => dop_ok c h
theorem ed_un {op : UnaryOp} {r : V → Hp → VK → Prop} {o : O1} (ho : UnR X (unaryOp op) r) (c : C1 K r o) (ha : PE X a (toTE K W Wd ta)) : PE X (.UnaryOp op a pos) (toTE K W Wd (dU o ta)) :=
  pe_imp (pe_un ho ha) fun _ _ _ h => du_ok c h
end

/-! ### the operators' readings -/
def addOk : D → D → Prop
  | .str a, .str b => a.length + b.length ≤ sizeLine
  | .lst a, .lst b => a.length + b.length ≤ sizeLine
  | .tup a, .tup b => a.length + b.length ≤ sizeLine
  | _, _ => True
def addD : D → D → Option RV
  | .int i, .int j => some (.d (.int (i + j)))
  | .str a, .str b => some (.d (.str (a ++ b)))
  | .lst a, .lst b => some (.new (a ++ b))
  | .tup a, .tup b => some (.d (.tup (a ++ b)))
  | _, _ => none
def oAdd : O2 := fun d e Q => addOk d e ∧ ∃ rv, addD d e = some rv ∧ Q rv
def rCatR : R2 := fun x y H Q => ∃ l b xs zs, x = .ref l ∧ y = .ref b ∧ Rd H l (.lst xs) ∧ Rd H b (.lst zs) ∧ xs.length + zs.length ≤ sizeLine ∧ ∀ p, H p = none → Q (.ref p) (upd H p (.lst (xs ++ zs)))
theorem rd_lst {X : Cx} {pins : List (Addr × Obj)} {s : Shared} {l : Addr} {xs : List V} (I : Inv X pins σ H s) (h : Rd H l (.lst xs)) : ∃ its : List Value, ∃ n, Vals xs its ∧ s.heap.get? l = some { cls := .type "list", data := .seq its.toArray n } := by
  obtain ⟨z, its, n, r, e⟩ := h.ok I.hok
  exact ⟨its, n, r, e⟩
theorem op_catR {X : Cx} : OpR X (binaryOp .Add) rCatR := by
  intro pins s σ H x y v u Q I rx ry h
  obtain ⟨l, b, xs, zs, rfl, rfl, hH, hB, hz, q⟩ := h
  cases rx
  cases ry
  obtain ⟨its, n, r, e⟩ := rd_lst I hH
  obtain ⟨its2, n2, r2, e2⟩ := rd_lst I hB
  have l1 := r.length
  have l2 := r2.length
  refine PySem.P.add_list e e2 ?_ (by rw [List.size_toArray, List.size_toArray]; omega)
  have ea : its.toArray ++ its2.toArray = (its ++ its2).toArray := by simp
  rw [ea]
  exact ⟨.ref _, _, I.lnew (t' := s.toks) (r.append r2) (by rw [List.length_append]; omega), rfl, q _ I.fresh⟩
def rAddD (K : PySem.W.Frag) : R2 := fun x y H Q => rAddI x y H Q ∨ rAddS x y H Q ∨ rCatR x y H Q ∨ rCatA K x y H Q
theorem or_add {X : Cx} (hK : X.K = K := by rfl) : OpR X (binaryOp .Add) (rAddD K) := by subst hK; exact OpR.or op_add (OpR.or op_add_str (OpR.or op_catR op_catA))
theorem c_add : C2 K (rAddD K) oAdd := by
  intro fo H x y d e Qd Q dx dy o k
  obtain ⟨hz, rv, e1, o⟩ := o
  unfold addD at e1
  split at e1 <;> cases e1
  · cases dx.int; cases dy.int
    exact .inl ⟨_, _, rfl, rfl, k _ _ _ o (newv_scal fun _ => .int _)⟩
  · cases dx.str; cases dy.str
    refine .inr (.inl ⟨_, _, rfl, rfl, by rw [tx_len, tx_len]; exact hz, ?_⟩)
    rw [tx_app]
    exact k _ _ _ o (newv_scal fun _ => .str _)
  · obtain ⟨a, vs, rfl, h1, f1⟩ := dx.lst
    obtain ⟨b, ws, rfl, h2, f2⟩ := dy.lst
    exact .inr (.inr (.inl ⟨a, b, vs, ws, rfl, rfl, h1, h2, by rw [fza_len f1, fza_len f2]; exact hz, fun p hp => k _ _ _ o (newv_lst hp (fza_app f1 f2))⟩))
  · obtain ⟨a, vs, rfl, h1, f1⟩ := dx.tup
    obtain ⟨b, ws, rfl, h2, f2⟩ := dy.tup
    refine .inr (.inr (.inr ⟨a, b, vs, ws, rfl, rfl, h1, h2, by rw [fza_len f1, fza_len f2]; exact hz, fun z => ?_, fun z1 z2 => ?_, fun _ _ p hp => k _ _ _ o (newv_tup hp (fza_app f1 f2))⟩))
    · subst z
      cases f1
      exact k _ _ _ o ⟨Evl.Ex.refl _, .tup h2 f2⟩
    · subst z2
      cases f2
      exact k _ _ _ o ⟨Evl.Ex.refl _, .tup h1 (by rw [List.append_nil]; exact f1)⟩
def oInt2 (g : Int → Int → Prop) (f : Int → Int → D) : O2 := fun d e Q => match d, e with
  | .int i, .int j => g i j ∧ Q (.d (f i j))
  | _, _ => False
theorem c_int2 {g : Int → Int → Prop} {f : Int → Int → D} {r : R2} {fv : Int → Int → V} (hf : ∀ i j fo H, Fz K fo H (fv i j) (f i j)) (hr : ∀ i j H Q, g i j → Q (fv i j) H → r (.int i) (.int j) H Q) : C2 K r (oInt2 g f) := by
  intro fo H x y d e Qd Q dx dy o k
  unfold oInt2 at o
  split at o
  · cases dx.int; cases dy.int
    exact hr _ _ _ _ o.1 (k _ _ _ o.2 (newv_scal fun H => hf _ _ fo H))
  · exact o.elim
def oSub : O2 := oInt2 (fun _ _ => True) fun i j => .int (i - j)
theorem c_sub : C2 K (rI0 fun i j => V.int (i - j)) oSub := c_int2 (fun _ _ _ _ => .int _) fun i j H Q _ q => ⟨i, j, rfl, rfl, q⟩
def oMod : O2 := oInt2 (fun _ j => 0 < j) fun i j => .int (i % j)
theorem c_mod : C2 K (rI (fun _ j => 0 < j) fun i j => V.int (i % j)) oMod := c_int2 (fun _ _ _ _ => .int _) fun i j H Q g q => ⟨i, j, rfl, rfl, g, q⟩
def oDiv : O2 := oInt2 (fun _ j => 0 < j ∧ j < 1073741824) fun i j => .int (i / j)
theorem c_div : C2 K (rI CDiv fun i j => V.int (i / j)) oDiv := c_int2 (fun _ _ _ _ => .int _) fun i j H Q g q => ⟨i, j, rfl, rfl, g, q⟩
def oMul : O2 := oInt2 (fun i j => CMul i j ∨ CMulW i j) fun i j => .int (i * j)
theorem c_mul : C2 K rMulU oMul := c_int2 (fun _ _ _ _ => .int _) fun i j H Q g q => g.elim (fun g => .inl ⟨i, j, rfl, rfl, g, q⟩) fun g => .inr (.inl ⟨i, j, rfl, rfl, g, q⟩)
def oLt : O2 := fun d e Q => match d, e with
  | .int i, .int j => Q (.d (.bl (decide (i < j))))
  | .str a, .str b => Q (.d (.bl (decide (a < b))))
  | _, _ => False
def oLe : O2 := fun d e Q => match d, e with
  | .int i, .int j => Q (.d (.bl (decide (i ≤ j))))
  | .str a, .str b => Q (.d (.bl (!decide (b < a))))
  | _, _ => False
def oGt : O2 := fun d e Q => oLt e d Q
def oGe : O2 := fun d e Q => oLe e d Q
theorem c_lt : C2 K rLtU oLt := by
  intro fo H x y d e Qd Q dx dy o k
  unfold oLt at o
  split at o
  · cases dx.int; cases dy.int
    exact .inl ⟨_, _, rfl, rfl, k _ _ _ o (newv_scal fun _ => .bl _)⟩
  · cases dx.str; cases dy.str
    exact .inr ⟨_, _, rfl, rfl, by rw [tx_list, tx_list]; exact k _ _ _ o (newv_scal fun _ => .bl _)⟩
  · exact o.elim
theorem c_le : C2 K rLeU oLe := by
  intro fo H x y d e Qd Q dx dy o k
  unfold oLe at o
  split at o
  · cases dx.int; cases dy.int
    exact .inl ⟨_, _, rfl, rfl, k _ _ _ o (newv_scal fun _ => .bl _)⟩
  · cases dx.str; cases dy.str
    exact .inr ⟨_, _, rfl, rfl, by rw [tx_list, tx_list]; exact k _ _ _ o (newv_scal fun _ => .bl _)⟩
  · exact o.elim
theorem c_gt : C2 K rGtU oGt := by
  intro fo H x y d e Qd Q dx dy o k
  unfold oGt oLt at o
  split at o
  · cases dx.int; cases dy.int
    exact .inl ⟨_, _, rfl, rfl, k _ _ _ o (newv_scal fun _ => .bl _)⟩
  · cases dx.str; cases dy.str
    exact .inr ⟨_, _, rfl, rfl, by rw [tx_list, tx_list]; exact k _ _ _ o (newv_scal fun _ => .bl _)⟩
  · exact o.elim
theorem c_ge : C2 K rGeU oGe := by
  intro fo H x y d e Qd Q dx dy o k
  unfold oGe oLe at o
  split at o
  · cases dx.int; cases dy.int
    exact .inl ⟨_, _, rfl, rfl, k _ _ _ o (newv_scal fun _ => .bl _)⟩
  · cases dx.str; cases dy.str
    exact .inr ⟨_, _, rfl, rfl, by rw [tx_list, tx_list]; exact k _ _ _ o (newv_scal fun _ => .bl _)⟩
  · exact o.elim
/-- ==, by data: of at most so deep data -/
def oEq : O2 := fun d e Q => (dat d = true ∧ dat e = true ∧ min (dep d) (dep e) ≤ 150) ∧ Q (.d (.bl (eqD d e)))
def oNe : O2 := fun d e Q => (dat d = true ∧ dat e = true ∧ min (dep d) (dep e) ≤ 150) ∧ Q (.d (.bl (!eqD d e)))
def rEqP (K : PySem.W.Frag) : R2 := fun x y H Q => ∃ d e, Dp K H x d ∧ Dp K H y e ∧ d.plain = true ∧ e.plain = true ∧ min d.depth e.depth ≤ 150 ∧ Q (.bl (PyData.eqv d e)) H
def rNeP (K : PySem.W.Frag) : R2 := fun x y H Q => ∃ d e, Dp K H x d ∧ Dp K H y e ∧ d.plain = true ∧ e.plain = true ∧ min d.depth e.depth ≤ 150 ∧ Q (.bl (!PyData.eqv d e)) H
theorem or_eq {X : Cx} (hu : X.A.units + 160 < cLine) (hK : X.K = K := by rfl) : OpR X (compareOp .Eq) (rEqP K) := by
  subst hK
  intro pins s σ H x y v u Q I rx ry h
  obtain ⟨d, e, hd, he, sd, se, hm, q⟩ := h
  obtain ⟨as, r1⟩ := Dp.reads I d x v hd rx
  obtain ⟨bs, r2⟩ := Dp.reads I e y u he ry
  exact SeqAt.eq_plain r1 r2 sd se (by omega) ⟨.bl _, H, I, rfl, q⟩
theorem or_ne {X : Cx} (hu : X.A.units + 160 < cLine) (hK : X.K = K := by rfl) : OpR X (compareOp .NotEq) (rNeP K) := by
  subst hK
  intro pins s σ H x y v u Q I rx ry h
  obtain ⟨d, e, hd, he, sd, se, hm, q⟩ := h
  obtain ⟨as, r1⟩ := Dp.reads I d x v hd rx
  obtain ⟨bs, r2⟩ := Dp.reads I e y u he ry
  exact SeqAt.ne_plain r1 r2 sd se (by omega) ⟨.bl _, H, I, rfl, q⟩
theorem c_eq : C2 K (rEqP K) oEq := by
  intro fo H x y d e Qd Q dx dy ⟨⟨o1, o2, o3⟩, o4⟩ k
  exact ⟨py d, py e, dx.dp o1, dy.dp o2, plain_py d, plain_py e, by rw [dep_py, dep_py]; exact o3, k _ _ _ o4 (newv_scal fun _ => .bl _)⟩
theorem c_ne : C2 K (rNeP K) oNe := by
  intro fo H x y d e Qd Q dx dy ⟨⟨o1, o2, o3⟩, o4⟩ k
  exact ⟨py d, py e, dx.dp o1, dy.dp o2, plain_py d, plain_py e, by rw [dep_py, dep_py]; exact o3, k _ _ _ o4 (newv_scal fun _ => .bl _)⟩
theorem u160 {k : Nat} {A : Around} (r : Room k A) : A.units + 160 < cLine := by
  have := r.un
  omega
/-- a text may be long -/
def szOk : D → Prop
  | .str l => l.length ≤ sizeLine
  | _ => True
/-- x[i] -/
def ixD : D → D → Option D
  | .lst ds, .int i => atI ds i
  | .tup ds, .int i => atI ds i
  | .str l, .int i => (atI l i).map fun c => .str [c]
  | _, _ => none
def oIx : O2 := fun d e Q => szOk d ∧ ∃ x, ixD d e = some x ∧ Q (.d x)
theorem atI_fza {ds : List D} {vs : List V} {i : Int} {d : D} (f : FzA K fo H vs ds) (h : atI ds i = some d) : ∃ v, atI vs i = some v ∧ Fz K fo H v d := by
  unfold atI at h ⊢
  rw [fza_len f]
  cases hj : ixN ds.length i with
  | none => rw [hj] at h; cases h
  | some j =>
    rw [hj] at h
    exact fza_get f h
theorem c_ix : C2 K (rIx K) oIx := by
  intro fo H x y d e Qd Q dx dy o k
  obtain ⟨hz, z, e1, q⟩ := o
  unfold ixD at e1
  split at e1
  · obtain ⟨a, vs, rfl, h1, f1⟩ := dx.lst
    cases dy.int
    obtain ⟨v, e2, f2⟩ := atI_fza f1 e1
    exact .inl ⟨a, vs, _, v, rfl, rfl, .inl h1, e2, k _ _ _ q ⟨Evl.Ex.refl _, f2⟩⟩
  · obtain ⟨a, vs, rfl, h1, f1⟩ := dx.tup
    cases dy.int
    obtain ⟨v, e2, f2⟩ := atI_fza f1 e1
    exact .inr (.inl ⟨a, vs, _, v, rfl, rfl, h1, e2, k _ _ _ q ⟨Evl.Ex.refl _, f2⟩⟩)
  · cases dx.str
    cases dy.int
    rw [Option.map_eq_some_iff] at e1
    obtain ⟨c, e1, rfl⟩ := e1
    exact .inr (.inr ⟨_, _, c, rfl, rfl, by rw [tx_len]; exact hz, by rw [tx_list]; exact e1, k _ _ _ q (newv_scal fun _ => .str [c])⟩)
  · cases e1
/-- x in y: a sign in a text; data in a list or a tuple -/
def oIn (neg : Bool) : O2 := fun d e Q => match e with
  | .str l => (match d with | .str [c] => Q (.d (.bl (decide (c ∈ l) != neg))) | _ => False)
  | .lst es => (dat d = true ∧ dats es = true ∧ min (deps es) (dep d) ≤ 150) ∧ Q (.d (.bl ((es.any fun y => eqD y d) != neg)))
  | .tup es => (dat d = true ∧ dats es = true ∧ min (deps es) (dep d) ≤ 150) ∧ Q (.d (.bl ((es.any fun y => eqD y d) != neg)))
  | _ => False
def rInP (K : PySem.W.Frag) (neg : Bool) : R2 := fun x y H Q => ∃ d es, Dp K H x d ∧ (Dp K H y (.list es) ∨ Dp K H y (.tuple es)) ∧ d.plain = true ∧ PyData.plainAll es = true ∧ min (PyData.depthAll es) d.depth ≤ 150 ∧ Q (.bl ((es.any fun z => PyData.eqv z d) != neg)) H
def rInQ (K : PySem.W.Frag) : R2 := fun x y H Q => rInSign x y H Q ∨ rInP K false x y H Q
def rNotInQ (K : PySem.W.Frag) : R2 := fun x y H Q => rNotInSign x y H Q ∨ rInP K true x y H Q
theorem op_inP {X : Cx} (hu : X.A.units + 160 < cLine) : OpR X (compareOp .In) (rInP X.K false) := by
  intro pins s σ H x y v u Q I rx ry h
  obtain ⟨d, es, hd, he, sd, se, hm, q⟩ := h
  obtain ⟨as, r1⟩ := Dp.reads I d x v hd rx
  rw [Bool.bne_false] at q
  rcases he with he | he
  · obtain ⟨bs, r2⟩ := Dp.reads I _ y u he ry
    exact SeqAt.in_list_data r2 r1 se sd (by omega) ⟨.bl _, H, I, rfl, q⟩
  · obtain ⟨bs, r2⟩ := Dp.reads I _ y u he ry
    exact SeqAt.in_tuple_data r2 r1 se sd (by omega) ⟨.bl _, H, I, rfl, q⟩
theorem op_notInP {X : Cx} (hu : X.A.units + 160 < cLine) : OpR X (compareOp .NotIn) (rInP X.K true) := by
  intro pins s σ H x y v u Q I rx ry h
  obtain ⟨d, es, hd, he, sd, se, hm, q⟩ := h
  obtain ⟨as, r1⟩ := Dp.reads I d x v hd rx
  rw [Bool.bne_true] at q
  rcases he with he | he
  · obtain ⟨bs, r2⟩ := Dp.reads I _ y u he ry
    exact SeqAt.notIn_list_data r2 r1 se sd (by omega) ⟨.bl _, H, I, rfl, q⟩
  · obtain ⟨bs, r2⟩ := Dp.reads I _ y u he ry
    exact SeqAt.notIn_tuple_data r2 r1 se sd (by omega) ⟨.bl _, H, I, rfl, q⟩
theorem or_in {X : Cx} (hu : X.A.units + 160 < cLine) (hK : X.K = K := by rfl) : OpR X (compareOp .In) (rInQ K) := by subst hK; exact OpR.or op_in_sign (op_inP hu)
theorem or_notin {X : Cx} (hu : X.A.units + 160 < cLine) (hK : X.K = K := by rfl) : OpR X (compareOp .NotIn) (rNotInQ K) := by subst hK; exact OpR.or op_notIn_sign (op_notInP hu)
theorem any_py (d : D) : ∀ es : List D, ((pys es).any fun z => PyData.eqv z (py d)) = es.any fun y => eqD y d
  | [] => rfl
  | e :: es => by simp only [pys, List.any_cons, any_py d es]; rfl
theorem c_in : C2 K (rInQ K) (oIn false) := by
  intro fo H x y d e Qd Q dx dy o k
  cases e with
  | str l =>
    simp only [oIn] at o
    split at o
    · cases dx.str; cases dy.str
      rw [Bool.bne_false] at o
      exact .inl ⟨_, _, rfl, rfl, by rw [tx_list]; exact k _ _ _ o (newv_scal fun _ => .bl _)⟩
    · exact o.elim
  | lst es =>
    obtain ⟨⟨o1, o2, o3⟩, q⟩ := o
    exact .inr ⟨py d, pys es, dx.dp o1, .inl (dy.dp (d := .lst es) o2), plain_py d, plains_pys es, by rw [dep_py, deps_pys]; exact o3, k _ _ _ q (by rw [any_py]; exact newv_scal fun _ => .bl _)⟩
  | tup es =>
    obtain ⟨⟨o1, o2, o3⟩, q⟩ := o
    exact .inr ⟨py d, pys es, dx.dp o1, .inr (dy.dp (d := .tup es) o2), plain_py d, plains_pys es, by rw [dep_py, deps_pys]; exact o3, k _ _ _ q (by rw [any_py]; exact newv_scal fun _ => .bl _)⟩
  | _ => exact o.elim
theorem c_notin : C2 K (rNotInQ K) (oIn true) := by
  intro fo H x y d e Qd Q dx dy o k
  cases e with
  | str l =>
    simp only [oIn] at o
    split at o
    · cases dx.str; cases dy.str
      rw [Bool.bne_true] at o
      exact .inl ⟨_, _, rfl, rfl, by rw [tx_list]; exact k _ _ _ o (newv_scal fun _ => .bl _)⟩
    · exact o.elim
  | lst es =>
    obtain ⟨⟨o1, o2, o3⟩, q⟩ := o
    exact .inr ⟨py d, pys es, dx.dp o1, .inl (dy.dp (d := .lst es) o2), plain_py d, plains_pys es, by rw [dep_py, deps_pys]; exact o3, k _ _ _ q (by rw [any_py]; exact newv_scal fun _ => .bl _)⟩
  | tup es =>
    obtain ⟨⟨o1, o2, o3⟩, q⟩ := o
    exact .inr ⟨py d, pys es, dx.dp o1, .inr (dy.dp (d := .tup es) o2), plain_py d, plains_pys es, by rw [dep_py, deps_pys]; exact o3, k _ _ _ q (by rw [any_py]; exact newv_scal fun _ => .bl _)⟩
  | _ => exact o.elim
end
end KD

/-! arguments, displays, calls, tests, slots -/
namespace KD
open PySem PySem.Spec PyProof.Rows L2 KX
section
variable {T : Type} {Wd : Wld T} {C : Ct Wd} {K : PySem.W.Frag} {fo : Addr → Prop} {ρ ρ' : Env} {τ τ' : T} {σ : L2.St} {H H' : Hp} {v : V} {W : WX}
/-! ### arguments, displays -/
def dNil : DA T := fun _ ρ τ Q => Q [] ρ τ
def dCons (t : DF T) (u : DA T) : DA T := fun xc ρ τ Q => t xc ρ τ fun d ρ1 τ1 => u xc ρ1 τ1 fun ds ρ2 τ2 => Q (d :: ds) ρ2 τ2
section
variable {X : Cx} {e : Expr} {es : List Expr} {t : DF T} {u : DA T} {pos : Pos}
theorem ad_nil : PA X [] (toTA K W Wd (dNil (T := T))) := pa_imp pa_nil fun σ H Q ⟨C, ρ, τ, Qd, xc, r, q, hx, k⟩ => k _ _ _ _ _ q r .nil .refl
theorem ad_cons (he : PE X e (toTF K W Wd t)) (hs : PA X es (toTA K W Wd u)) (h : starEach (e :: es) X.env = (false, eval e X.env) :: starEach es X.env := by rfl) : PA X (e :: es) (toTA K W Wd (dCons t u)) :=
  pa_imp (pa_cons he hs h) fun σ H Q ⟨C, ρ, τ, Qd, xc, r, q, hx, k⟩ =>
    ⟨C, ρ, τ, _, xc, r, q, hx, fun v1 H1 d ρ1 τ1 q1 r1 f1 s1 => ⟨C, ρ1, τ1, _, xc, r1, q1, hx, fun vs H2 ds ρ2 τ2 q2 r2 f2 s2 => k _ _ _ _ _ q2 r2 (.cons (fz_kp s2.kp f1) f2) (s1.trans s2)⟩⟩
theorem Stp.new {p : Addr} {o : HO} (hp : H p = none) : Stp C ρ σ H ρ (upd H p o) := .ex (Evl.Ex.new hp)
def dTup (u : DA T) : DE T := fun xc ρ τ Q => u xc ρ τ fun ds ρ1 τ1 => ds.length ≤ sizeLine ∧ Q (.d (.tup ds)) ρ1 τ1
def dLst (u : DA T) : DE T := fun xc ρ τ Q => u xc ρ τ fun ds ρ1 τ1 => ds.length ≤ sizeLine ∧ Q (.new ds) ρ1 τ1
theorem ed_tup {x1} (h : PA X es (toTA K W Wd u)) : PE X (.Tuple es x1 pos) (toTE K W Wd (dTup u)) :=
  pe_imp (pe_tup h) fun σ H Q ⟨C, ρ, τ, Qd, xc, r, q, hx, k⟩ => ⟨C, ρ, τ, _, xc, r, q, hx, fun vs H1 ds ρ1 τ1 q1 r1 f1 s1 => ⟨by rw [fza_len f1]; exact q1.1, fun p hp => by
    obtain ⟨r2, vr, nw, e⟩ := newv_ok r1 (newv_tup hp f1)
    exact k _ _ _ _ _ q1.2 r2 vr (nw.stp s1) (s1.trans (.ex e))⟩⟩
theorem ed_lst (h : PA X es (toTA K W Wd u)) : PE X (.List es pos) (toTE K W Wd (dLst u)) :=
  pe_imp (pe_lst h) fun σ H Q ⟨C, ρ, τ, Qd, xc, r, q, hx, k⟩ => ⟨C, ρ, τ, _, xc, r, q, hx, fun vs H1 ds ρ1 τ1 q1 r1 f1 s1 => ⟨by rw [fza_len f1]; exact q1.1, fun p hp => by
    obtain ⟨r2, vr, nw, e⟩ := newv_ok r1 (newv_lst hp f1)
    exact k _ _ _ _ _ q1.2 r2 vr (nw.stp s1) (s1.trans (.ex e))⟩⟩
/-- a builtin of one argument, of two -/
theorem ed_b1 {r : List V → Hp → VK → Prop} {o : O1} {t : DE T} (h : PE X e (tCB r (tCons (toTE K W Wd t) tNil))) (c : C1 K (fun x H Q => r [x] H Q) o) : PE X e (toTE K W Wd (dU o t)) :=
  pe_imp h fun σ H Q q => du_ok c q
theorem ed_b2 {r : List V → Hp → VK → Prop} {o : O2} {t t2 : DE T} (h : PE X e (tCB r (tCons (toTE K W Wd t) (tCons (toTE K W Wd t2) tNil)))) (c : C2 K (fun x y H Q => r [x, y] H Q) o) : PE X e (toTE K W Wd (dOp o t t2)) :=
  pe_imp h fun σ H Q q => dop_ok c q
/-- a builtin of any arguments, of data -/
abbrev ON := List D → (RV → Prop) → Prop
def CN (K : PySem.W.Frag) (r : List V → Hp → VK → Prop) (o : ON) : Prop := ∀ fo H xs ds (Qd : RV → Prop) (Q : VK), FzA K fo H xs ds → o ds Qd → (∀ v H' rv, Qd rv → NewV K fo H H' v rv → Q v H') → r xs H Q
def dN (o : ON) (u : DA T) : DE T := fun xc ρ τ Q => u xc ρ τ fun ds ρ1 τ1 => o ds fun rv => Q rv ρ1 τ1
theorem ed_bN {r : List V → Hp → VK → Prop} {o : ON} {u : DA T} (h : PE X e (tCB r (toTA K W Wd u))) (c : CN K r o) : PE X e (toTE K W Wd (dN o u)) :=
  pe_imp h fun σ H Q ⟨C, ρ, τ, Qd, xc, r, q, hx, k⟩ => ⟨C, ρ, τ, _, xc, r, q, hx, fun vs H1 ds ρ1 τ1 q1 r1 f1 s1 => c _ _ _ _ _ _ f1 q1 fun v H2 rv hq nv => by
    obtain ⟨r2, vr, nw, e⟩ := newv_ok r1 nv
    exact k _ _ _ _ _ hq r2 vr (nw.stp s1) (s1.trans (.ex e))⟩
end
/-- a method of a text with one argument -/
def isS : D → Prop | .str _ => True | _ => False
def dM1 (o : O2) (ta tb : DE T) : DE T := fun xc ρ τ Q => ta xc ρ τ fun r1 ρ1 τ1 => withD r1 ρ1 isS ∧ tb xc ρ1 τ1 fun r2 ρ2 τ2 => withD r1 ρ2 fun d => withD r2 ρ2 fun e => o d e fun rv => Q rv ρ2 τ2
theorem ed_m1 {X : Cx} {e : Expr} {r : V → List V → Hp → VK → Prop} {o : O2} {ta tb : DE T} (h : PE X e (tBM K "str" r (toTE K W Wd ta) (tCons (toTE K W Wd tb) tNil))) (c : C2 K (fun x y H Q => r x [y] H Q) o) : PE X e (toTE K W Wd (dM1 o ta tb)) := by
  refine pe_imp h fun σ H Q ⟨C, ρ, τ, Qd, xc, r0, q, hx, k⟩ => ?_
  refine ⟨C, ρ, τ, _, xc, r0, q, hx, fun v1 H1 rv1 ρ1 τ1 q1 r1 vr1 nw1 s1 => ⟨?_, ?_⟩⟩
  · obtain ⟨d, dv, z⟩ := vr_dv r1 vr1 q1.1
    cases d with
    | str l => cases dv.str; exact rfl
    | _ => exact z.elim
  · refine ⟨C, ρ1, τ1, _, xc, r1, q1.2, hx, fun v2 H2 rv2 ρ2 τ2 q2 r2 vr2 nw2 s2 => ?_⟩
    obtain ⟨d, dv, q3⟩ := vr_dv r2 (vr1.stp s2) q2
    obtain ⟨e, ev, q4⟩ := vr_dv r2 vr2 q3
    refine c _ _ _ _ _ _ _ _ dv ev q4 fun v H' rv hq nv => ?_
    obtain ⟨r3, vr3, nw3, e3⟩ := newv_ok r2 nv
    exact k v H' rv ρ2 τ2 hq r3 vr3 (nw3.stp (s1.trans s2)) ((s1.trans s2).trans (.ex e3))
def dM0 (o : O1) (ta : DE T) : DE T := fun xc ρ τ Q => ta xc ρ τ fun r1 ρ1 τ1 => withD r1 ρ1 fun d => isS d ∧ o d fun rv => Q rv ρ1 τ1
theorem ed_m0 {X : Cx} {e : Expr} {r : V → List V → Hp → VK → Prop} {o : O1} {ta : DE T} (h : PE X e (tBM0 K "str" r (toTE K W Wd ta))) (c : C1 K (fun x H Q => r x [] H Q) o) : PE X e (toTE K W Wd (dM0 o ta)) := by
  refine pe_imp h fun σ H Q ⟨C, ρ, τ, Qd, xc, r0, q, hx, k⟩ => ?_
  refine ⟨C, ρ, τ, _, xc, r0, q, hx, fun v1 H1 rv1 ρ1 τ1 q1 r1 vr1 nw1 s1 => ?_⟩
  obtain ⟨d, dv, z, q2⟩ := vr_dv r1 vr1 q1
  refine ⟨?_, c _ _ _ _ _ _ dv q2 fun v H' rv hq nv => ?_⟩
  · cases d with
    | str l => cases dv.str; exact rfl
    | _ => exact z.elim
  · obtain ⟨r3, vr3, nw3, e3⟩ := newv_ok r1 nv
    exact k v H' rv ρ1 τ1 hq r3 vr3 (nw3.stp s1) (s1.trans (.ex e3))

/-! ### slots -/
theorem Rel.put {i : Nat} {d : D} (r : Rel C K ρ τ σ H) (f : Fz K C.fo H v d) : Rel C K (ρ.set i (some (.d d))) τ (σ.set i (some v)) H := by
  have ow : ∀ j, own (ρ.set i (some (.d d))) j → own ρ j ∧ j ≠ i := by
    rintro j ⟨es, h⟩
    rcases set_get h with ⟨_, _, z⟩ | ⟨ne, h⟩
    · cases z
    · exact ⟨⟨es, h⟩, Ne.symm ne⟩
  refine ⟨r.r, by simpa using r.ln, fun j s h => ?_, fun j k a ne hj hk h => ?_⟩
  · rcases set_get h with ⟨rfl, hl, z⟩ | ⟨ne, h⟩
    · cases z
      exact ⟨v, List.getElem?_set_self (by rw [← r.ln]; exact hl), f⟩
    · have h2 := r.sl j s h
      cases s with
      | d d => obtain ⟨w, a, b⟩ := h2; exact ⟨w, by rw [List.getElem?_set_ne ne]; exact a, b⟩
      | own es => obtain ⟨a, vs, h3, h4, h5, h6⟩ := h2; exact ⟨a, vs, by rw [List.getElem?_set_ne ne]; exact h3, h4, h5, h6⟩
  · rw [List.getElem?_set_ne (Ne.symm (ow j hj).2)] at h
    rw [List.getElem?_set_ne (Ne.symm (ow k hk).2)]
    exact r.dj j k a ne (ow j hj).1 (ow k hk).1 h
theorem Rel.putN {i : Nat} {a : Addr} {vs : List V} {ds : List D} (r : Rel C K ρ τ σ H) (h0 : C.H0 a = none) (h1 : H a = some (.lst vs)) (f : FzA K C.fo H vs ds) (no : ∀ i, own ρ i → σ[i]? ≠ some (some (.ref a))) :
    Rel C K (ρ.set i (some (.own ds))) τ (σ.set i (some (.ref a))) H := by
  have ow : ∀ j, own (ρ.set i (some (.own ds))) j → j ≠ i → own ρ j := by
    rintro j ⟨es, h⟩ hj
    rcases set_get h with ⟨z, _, _⟩ | ⟨ne, h⟩
    · exact absurd z.symm hj
    · exact ⟨es, h⟩
  refine ⟨r.r, by simpa using r.ln, fun j s h => ?_, fun j k b ne hj hk h z => ?_⟩
  · rcases set_get h with ⟨rfl, hl, z⟩ | ⟨ne, h⟩
    · cases z
      exact ⟨a, vs, List.getElem?_set_self (by rw [← r.ln]; exact hl), h0, h1, f⟩
    · have h2 := r.sl j s h
      cases s with
      | d d => obtain ⟨w, a, b⟩ := h2; exact ⟨w, by rw [List.getElem?_set_ne ne]; exact a, b⟩
      | own es => obtain ⟨a, vs, h3, h4, h5, h6⟩ := h2; exact ⟨a, vs, by rw [List.getElem?_set_ne ne]; exact h3, h4, h5, h6⟩
  · by_cases ji : j = i
    · subst ji
      have ki : k ≠ j := Ne.symm ne
      rcases set_get h with ⟨_, _, e⟩ | ⟨n, _⟩
      · cases e
        rw [List.getElem?_set_ne (Ne.symm ki)] at z
        exact no k (ow k hk ki) z
      · exact n rfl
    · rw [List.getElem?_set_ne (Ne.symm ji)] at h
      by_cases ki : k = i
      · subst ki
        rcases set_get z with ⟨_, _, e⟩ | ⟨n, _⟩
        · cases e
          exact no j (ow j hj ji) h
        · exact n rfl
      · rw [List.getElem?_set_ne (Ne.symm ki)] at z
        exact r.dj j k b ne (ow j hj ji) (ow k hk ki) h z
/-- the list of a slot is changed -/
theorem Rel.mut {i : Nat} {a : Addr} {vs vs' : List V} {ds ds' : List D} (r : Rel C K ρ τ σ H) (hi : ρ[i]? = some (some (.own ds))) (ha : σ[i]? = some (some (.ref a))) (h0 : C.H0 a = none) (h1 : H a = some (.lst vs)) (f : FzA K C.fo H vs' ds') :
    Rel C K (ρ.set i (some (.own ds'))) τ σ (upd H a (.lst vs')) ∧ Stp C ρ σ H (ρ.set i (some (.own ds'))) (upd H a (.lst vs')) := by
  have kp : Kp C.fo H (upd H a (.lst vs')) := .upd h1
  have oth : ∀ b u, b ≠ a → H b = some u → upd H a (.lst vs') b = some u := fun b u n h => by rw [upd_ne n]; exact h
  have hl : i < ρ.length := (List.getElem?_eq_some_iff.mp hi).1
  have ow : ∀ j, own (ρ.set i (some (.own ds'))) j → own ρ j := by
    rintro j ⟨es, h⟩
    rcases set_get h with ⟨rfl, _, _⟩ | ⟨ne, h⟩
    · exact ⟨ds, hi⟩
    · exact ⟨es, h⟩
  refine ⟨⟨⟨C.loc _ _ _ r.r.at_ fun b u hb h => oth b u (fun z => r.noch (z ▸ h0) hb) h, fun b u n h => oth b u (fun z => by rw [z, h0] at h; cases h) (r.r.bt b u n h), fun b h => ?_, C.flk _ _ r.r.fl kp⟩, by simpa using r.ln, fun j s h => ?_, fun j k b ne hj hk => r.dj j k b ne (ow j hj) (ow k hk)⟩,
    ⟨kp, fun b u n m h => oth b u (fun z => m i ⟨ds, hi⟩ (z ▸ ha)) h, ow, fun b h => ?_⟩⟩
  · by_cases z : b = a
    · rw [z]; exact h0
    · rw [upd_ne z] at h; exact r.r.dm b h
  · rcases set_get h with ⟨rfl, _, z⟩ | ⟨ne, h⟩
    · cases z
      exact ⟨a, vs', ha, h0, upd_same, fza_kp kp f⟩
    · have h2 := r.sl j s h
      cases s with
      | d d => obtain ⟨v, x, y⟩ := h2; exact ⟨v, x, fz_kp kp y⟩
      | own es =>
        obtain ⟨b, ws, x1, x2, x3, x4⟩ := h2
        exact ⟨b, ws, x1, x2, oth b _ (fun z => r.dj j i b (Ne.symm ne) ⟨es, h⟩ ⟨ds, hi⟩ x1 (z ▸ ha)) x3, fza_kp kp x4⟩
  · by_cases z : b = a
    · subst z; rw [upd_same] at h; cases h
    · rw [upd_ne z] at h; exact h
/-- x.append(e), x a slot's own list -/
def dApp (i : Nat) (t : DF T) : DE T := fun xc ρ τ Q => own ρ i ∧ t xc ρ τ fun d ρ1 τ1 => match ρ1[i]? with
  | some (some (.own ds)) => ds.length < sizeLine ∧ Q (.d .non) (ρ1.set i (some (.own (ds ++ [d])))) τ1
  | _ => False
theorem own_at {i : Nat} (r : Rel C K ρ τ σ H) (h : own ρ i) : ∃ a vs ds, ρ[i]? = some (some (.own ds)) ∧ σ[i]? = some (some (.ref a)) ∧ C.H0 a = none ∧ H a = some (.lst vs) ∧ FzA K C.fo H vs ds := by
  obtain ⟨ds, hd⟩ := h
  obtain ⟨a, vs, h1, h2, h3, h4⟩ := r.sl i _ hd
  exact ⟨a, vs, ds, hd, h1, h2, h3, h4⟩
theorem ed_app {X : Cx} {e : Expr} {i : Nat} {t : DF T} (h : PE X e (tBM K "list" rAppend (tVar i) (tCons (toTF K W Wd t) tNil))) : PE X e (toTE K W Wd (dApp i t)) := by
  refine pe_imp h fun σ H Q ⟨C, ρ, τ, Qd, xc, r0, q, hx, k⟩ => ?_
  obtain ⟨a, vs, ds, g1, g2, g3, g4, g5⟩ := own_at r0 q.1
  refine ⟨.ref a, g2, ty_lst g4, C, ρ, τ, _, xc, r0, q.2, hx, fun v1 H1 d ρ1 τ1 q1 r1 f1 s1 => ?_⟩
  split at q1
  · rename_i ds1 e1
    obtain ⟨a', vs1, x1, x2, x3, x4⟩ := r1.sl i _ e1
    rw [g2] at x1; cases x1
    refine q_app x3 (by rw [fza_len x4]; exact q1.1) ?_
    obtain ⟨r2, s2⟩ := r1.mut e1 g2 g3 x3 (fza_app x4 (fza_one f1))
    exact k _ _ _ _ _ q1.2 r2 .non trivial (s1.trans s2)
  · exact q1.elim
/-- x.pop(), x a slot's own list -/
def dPop (i : Nat) : DE T := fun _ ρ τ Q => match ρ[i]? with
  | some (some (.own ds)) => ∃ d, ds[ds.length - 1]? = some d ∧ Q (.d d) (ρ.set i (some (.own ds.dropLast))) τ
  | _ => False
theorem fza_dropLast : ∀ {ds : List D} {vs : List V}, FzA K fo H vs ds → FzA K fo H vs.dropLast ds.dropLast := by
  intro ds vs h
  rw [List.dropLast_eq_take, List.dropLast_eq_take, fza_len h]
  exact fza_take _ h
theorem ed_pop {X : Cx} {e : Expr} {i : Nat} (h : PE X e (tBM0 K "list" rPop (tVar i))) : PE X e (toTE K W Wd (dPop (T := T) i)) := by
  refine pe_imp h fun σ H Q ⟨C, ρ, τ, Qd, xc, r0, q, hx, k⟩ => ?_
  unfold dPop at q
  split at q
  · rename_i ds e1
    obtain ⟨d, e2, q⟩ := q
    obtain ⟨a, vs, x1, x2, x3, x4⟩ := r0.sl i _ e1
    obtain ⟨y, y1, y2⟩ := fza_get x4 e2
    refine ⟨.ref a, x1, ty_lst x3, q_pop x3 (by rw [fza_len x4]; exact y1) ?_⟩
    obtain ⟨r2, s2⟩ := r0.mut e1 x1 x2 x3 (fza_dropLast x4)
    exact k _ _ _ _ _ q r2 (fz_kp s2.kp y2) trivial s2
  · exact q.elim
/-- x.extend(e) -/
def rExtR : V → List V → Hp → VK → Prop := fun x vs H Q => ∃ l b xs zs, x = .ref l ∧ vs = [.ref b] ∧ H l = some (.lst xs) ∧ Rd H b (.lst zs) ∧ xs.length + zs.length ≤ sizeLine ∧ Q .non (upd H l (.lst (xs ++ zs)))
theorem mt_extR {X : Cx} : MtM X "list.extend" rExtR := by
  intro pins s σ H x vs v us Q I rx rv h
  obtain ⟨l, b, xs, zs, rfl, rfl, hH, hB, hz, q⟩ := h
  cases rx
  obtain ⟨u, rfl, ru⟩ := rv.one
  cases ru
  obtain ⟨z, its, n, r, hl, e⟩ := I.lstM hH
  obtain ⟨its2, n2, r2, e2⟩ := rd_lst I hB
  have hl2 := r2.length
  have hsz : its.toArray.size + its2.toArray.size ≤ sizeLine := by rw [List.size_toArray, List.size_toArray]; omega
  have hlong : ¬ (!its.toArray.isEmpty && Builtin.List.listTooLong (its.toArray.size + its2.toArray.size)) = true := by
    rw [notLongL hsz, Bool.and_false]
    exact Bool.false_ne_true
  have zl : zs.length ≤ sizeLine := by omega
  refine call_meets F.slot_list_extend ⟨_, e, rfl⟩ F.entry_list_extend (F.args_list_extend_2 _ _)
    (AutoSeq1.list_extend_list_list_0 l its.toArray n b its2.toArray n2 hlong (by rw [List.size_toArray]; omega) (by omega)) ⟨e, e2, ?_⟩
  refine ⟨.non, _, I.lset (its' := its ++ its2) hH e (by simp) (r.append r2) ?_, rfl, q⟩
  rw [List.length_append]
  omega
def dExt (i : Nat) (t : DE T) : DE T := fun xc ρ τ Q => own ρ i ∧ t xc ρ τ fun rv ρ1 τ1 => withD rv ρ1 fun d => match d, ρ1[i]? with
  | .lst es, some (some (.own ds)) => ds.length + es.length ≤ sizeLine ∧ Q (.d .non) (ρ1.set i (some (.own (ds ++ es)))) τ1
  | _, _ => False
theorem ed_ext {X : Cx} {e : Expr} {i : Nat} {t : DE T} (h : PE X e (tBM K "list" rExtR (tVar i) (tCons (toTE K W Wd t) tNil))) : PE X e (toTE K W Wd (dExt i t)) := by
  refine pe_imp h fun σ H Q ⟨C, ρ, τ, Qd, xc, r0, q, hx, k⟩ => ?_
  obtain ⟨a, vs, ds, g1, g2, g3, g4, g5⟩ := own_at r0 q.1
  refine ⟨.ref a, g2, ty_lst g4, C, ρ, τ, _, xc, r0, q.2, hx, fun v1 H1 rv ρ1 τ1 q1 r1 vr1 nw1 s1 => ?_⟩
  obtain ⟨d, dv, q2⟩ := vr_dv r1 vr1 q1
  split at q2
  · rename_i es ds1 e1
    obtain ⟨b, ws, rfl, y1, y2⟩ := dv.lst
    obtain ⟨a', vs1, x1, x2, x3, x4⟩ := r1.sl i _ e1
    rw [g2] at x1; cases x1
    refine ⟨a, b, vs1, ws, rfl, rfl, x3, y1, by rw [fza_len x4, fza_len y2]; exact q2.1, ?_⟩
    obtain ⟨r2, s2⟩ := r1.mut e1 g2 g3 x3 (fza_app x4 y2)
    exact k _ _ _ _ _ q2.2 r2 .non trivial (s1.trans s2)
  · exact q2.elim
end
end KD

/-! tests, statements, defs -/
namespace KD
open PySem PySem.Spec PyProof.Rows L2 KX
section
variable {T : Type} {Wd : Wld T} {C : Ct Wd} {K : PySem.W.Frag} {fo : Addr → Prop} {ρ ρ' : Env} {τ τ' : T} {σ : L2.St} {H H' : Hp} {v : V} {W : WX}
/-! ### tests -/
def dB (t : DE T) : DT T := fun xc ρ τ Q => t xc ρ τ fun rv ρ1 τ1 => withD rv ρ1 fun d => match d with
  | .bl k => Q k ρ1 τ1
  | _ => False
theorem db_ok {t : DE T} {Q : Bool → Hp → Prop} (h : toTT K W Wd (dB t) σ H Q) : toTE K W Wd t σ H fun x H' => ∃ k, x = .bl k ∧ Q k H' := by
  obtain ⟨C, ρ, τ, Qd, xc, r, q, hx, k⟩ := h
  refine ⟨C, ρ, τ, _, xc, r, q, hx, fun v H' rv ρ' τ' hq r' vr nw s => ?_⟩
  obtain ⟨d, dv, q2⟩ := vr_dv r' vr hq
  cases d with
  | bl b => exact ⟨b, dv.bl, k _ _ _ _ q2 r' s⟩
  | _ => exact q2.elim
/-- truth -/
def truD : D → Option Bool
  | .non => some false
  | .bl b => some b
  | .int i => some (i != 0)
  | .str l => if l.length ≤ sizeLine then some (!l.isEmpty) else none
  | .tup ds => some (!ds.isEmpty)
  | .lst ds => some (!ds.isEmpty)
  | _ => none
theorem empty_fza {vs : List V} {ds : List D} (f : FzA K fo H vs ds) : vs.isEmpty = ds.isEmpty := by cases f <;> rfl
theorem tru_ok {d : D} {b : Bool} (h : Dv K fo H v d) (e : truD d = some b) : TruV K v H b := by
  cases d with
  | non => cases h.non; cases e; rfl
  | bl _ => cases h.bl; cases e; rfl
  | int _ => cases h.int; cases e; rfl
  | str l =>
    cases h.str
    simp only [truD] at e
    split at e
    · rename_i hl
      cases e
      refine ⟨by rw [tx_len]; exact hl, ?_⟩
      rw [tx_len]
      cases l with
      | nil => rfl
      | cons a r =>
        have e1 : ((((a :: r).length : Nat) : Int) != 0) = true := bne_iff_ne.mpr (by simp only [List.length_cons]; omega)
        rw [e1]
        rfl
    · cases e
  | tup ds => obtain ⟨a, vs, rfl, h1, f1⟩ := h.tup; cases e; exact .inr (.inl ⟨vs, h1, by rw [empty_fza f1]⟩)
  | lst ds => obtain ⟨a, vs, rfl, h1, f1⟩ := h.lst; cases e; exact .inl ⟨vs, .inl h1, by rw [empty_fza f1]⟩
  | _ => cases e
def dTru (t : DE T) : DT T := fun xc ρ τ Q => t xc ρ τ fun rv ρ1 τ1 => withD rv ρ1 fun d => match truD d with
  | some k => Q k ρ1 τ1
  | none => False
theorem dtru_ok {t : DE T} {Q : Bool → Hp → Prop} (h : toTT K W Wd (dTru t) σ H Q) : toTE K W Wd t σ H fun x H' => ∃ k, TruV K x H' k ∧ Q k H' := by
  obtain ⟨C, ρ, τ, Qd, xc, r, q, hx, k⟩ := h
  refine ⟨C, ρ, τ, _, xc, r, q, hx, fun v H' rv ρ' τ' hq r' vr nw s => ?_⟩
  obtain ⟨d, dv, q2⟩ := vr_dv r' vr hq
  split at q2
  · rename_i b e
    exact ⟨b, tru_ok dv e, k _ _ _ _ q2 r' s⟩
  · exact q2.elim
section
variable {X : Cx} {a b e : Expr} {rest : List Expr} {ta tb : DE T} {tt uu : DT T} {pos : Pos} {r : R2} {o : O2}
theorem td_cmp {op : CmpOp} (ho : OpR X (compareOp op) r) (c : C2 K r o) (ha : PE X a (toTE K W Wd ta)) (hb : PE X b (toTE K W Wd tb)) (hm : behindInMarks op b = false) : PT X (.Compare a [op] [b] pos) (toTT K W Wd (dB (dOp o ta tb))) :=
  pt_imp (pt_cmpR ho ha hb hm) fun _ _ _ h => dop_ok c (db_ok h)
theorem td_tru (ha : PE X a (toTE K W Wd ta)) (hK : X.K = K := by rfl) (he : ∀ whole, isTrue a X.env whole = (do let v ← whole; standAt a.pos; holding [v] (truthy v)) := by intro _; rfl) : PT X a (toTT K W Wd (dTru ta)) :=
  pt_imp (w_tru (K := K) ha hK he) fun _ _ _ h => dtru_ok h
theorem td_val (ha : PE X a (toTE K W Wd ta)) (he : ∀ whole, isTrue a X.env whole = (do let v ← whole; standAt a.pos; holding [v] (truthy v)) := by intro _; rfl) : PT X a (toTT K W Wd (dB ta)) :=
  pt_imp (pt_val ha he) fun _ _ _ h => db_ok h
def dAnd (t u : DT T) : DT T := fun xc ρ τ Q => t xc ρ τ fun c ρ1 τ1 => if c = true then u xc ρ1 τ1 Q else Q false ρ1 τ1
def dOr (t u : DT T) : DT T := fun xc ρ τ Q => t xc ρ τ fun c ρ1 τ1 => if c = true then Q true ρ1 τ1 else u xc ρ1 τ1 Q
def dNot (t : DT T) : DT T := fun xc ρ τ Q => t xc ρ τ fun c ρ1 τ1 => Q (!c) ρ1 τ1
theorem dand_ok {Q : Bool → Hp → Prop} (h : toTT K W Wd (dAnd tt uu) σ H Q) : tAnd (toTT K W Wd tt) (toTT K W Wd uu) σ H Q := by
  obtain ⟨C, ρ, τ, Qd, xc, r, q, hx, k⟩ := h
  refine ⟨C, ρ, τ, _, xc, r, q, hx, fun b H' ρ' τ' hq r' s => ?_⟩
  cases b with
  | true =>
    rw [if_pos rfl] at hq ⊢
    exact ⟨C, ρ', τ', _, xc, r', hq, hx, fun b H2 ρ2 τ2 q2 r2 s2 => k _ _ _ _ q2 r2 (s.trans s2)⟩
  | false => rw [if_neg Bool.false_ne_true] at hq ⊢; exact k _ _ _ _ hq r' s
theorem dor_ok {Q : Bool → Hp → Prop} (h : toTT K W Wd (dOr tt uu) σ H Q) : tOr (toTT K W Wd tt) (toTT K W Wd uu) σ H Q := by
  obtain ⟨C, ρ, τ, Qd, xc, r, q, hx, k⟩ := h
  refine ⟨C, ρ, τ, _, xc, r, q, hx, fun b H' ρ' τ' hq r' s => ?_⟩
  cases b with
  | false =>
    rw [if_neg Bool.false_ne_true] at hq ⊢
    exact ⟨C, ρ', τ', _, xc, r', hq, hx, fun b H2 ρ2 τ2 q2 r2 s2 => k _ _ _ _ q2 r2 (s.trans s2)⟩
  | true => rw [if_pos rfl] at hq ⊢; exact k _ _ _ _ hq r' s
theorem wd_and1 (ha : PT X a (toTT K W Wd tt)) : PW X (.BoolOp .And [a] pos) (toTT K W Wd tt) := pw_and1 ha
theorem wd_or1 (ha : PT X a (toTT K W Wd tt)) : PW X (.BoolOp .Or [a] pos) (toTT K W Wd tt) := pw_or1 ha
theorem wd_and (ha : PT X a (toTT K W Wd tt)) (hb : PW X (.BoolOp .And (b :: rest) pos) (toTT K W Wd uu)) : PW X (.BoolOp .And (a :: b :: rest) pos) (toTT K W Wd (dAnd tt uu)) := pw_imp (pw_and ha hb) fun _ _ _ h => dand_ok h
theorem wd_or (ha : PT X a (toTT K W Wd tt)) (hb : PW X (.BoolOp .Or (b :: rest) pos) (toTT K W Wd uu)) : PW X (.BoolOp .Or (a :: b :: rest) pos) (toTT K W Wd (dOr tt uu)) := pw_imp (pw_or ha hb) fun _ _ _ h => dor_ok h
theorem td_not (ha : PT X a (toTT K W Wd tt)) : PT X (.UnaryOp .Not a pos) (toTT K W Wd (dNot tt)) :=
  pt_imp (pt_not ha) fun σ H Q ⟨C, ρ, τ, Qd, xc, r, q, hx, k⟩ => ⟨C, ρ, τ, _, xc, r, q, hx, fun b H' ρ' τ' hq r' s => k _ _ _ _ hq r' s⟩
/-- a and b, a or b, not a, as values -/
def dAndV (ta tb : DE T) : DE T := fun xc ρ τ Q => ta xc ρ τ fun rv ρ1 τ1 => withD rv ρ1 fun d => match truD d with
  | some true => tb xc ρ1 τ1 Q
  | some false => Q (.d d) ρ1 τ1
  | none => False
def dOrV (ta tb : DE T) : DE T := fun xc ρ τ Q => ta xc ρ τ fun rv ρ1 τ1 => withD rv ρ1 fun d => match truD d with
  | some true => Q (.d d) ρ1 τ1
  | some false => tb xc ρ1 τ1 Q
  | none => False
def dNotV (ta : DE T) : DE T := fun xc ρ τ Q => ta xc ρ τ fun rv ρ1 τ1 => withD rv ρ1 fun d => match truD d with
  | some k => Q (.d (.bl (!k))) ρ1 τ1
  | none => False
theorem ed_one {op : BoolOp} (ha : PE X a (toTE K W Wd ta)) : PE X (.BoolOp op [a] pos) (toTE K W Wd ta) := pe_one ha
theorem ed_notV (ha : PE X a (toTE K W Wd ta)) (hK : X.K = K := by rfl) : PE X (.UnaryOp .Not a pos) (toTE K W Wd (dNotV ta)) := by
  refine pe_imp (w_not (K := K) ha hK) fun σ H Q ⟨C, ρ, τ, Qd, xc, r, q, hx, k⟩ => ⟨C, ρ, τ, _, xc, r, q, hx, fun v H' rv ρ' τ' hq r' vr nw s => ?_⟩
  obtain ⟨d, dv, q2⟩ := vr_dv r' vr hq
  split at q2
  · rename_i b e
    exact ⟨b, tru_ok dv e, k _ _ _ _ _ q2 r' (.bl _) trivial s⟩
  · exact q2.elim
/-- data only: what is kept of a and b -/
def isD : RV → Prop | .d _ => True | _ => False
def dAndD (ta tb : DE T) : DE T := fun xc ρ τ Q => ta xc ρ τ fun rv ρ1 τ1 => match rv with
  | .d d => (match truD d with
    | some true => tb xc ρ1 τ1 Q
    | some false => Q (.d d) ρ1 τ1
    | none => False)
  | _ => False
def dOrD (ta tb : DE T) : DE T := fun xc ρ τ Q => ta xc ρ τ fun rv ρ1 τ1 => match rv with
  | .d d => (match truD d with
    | some true => Q (.d d) ρ1 τ1
    | some false => tb xc ρ1 τ1 Q
    | none => False)
  | _ => False
theorem ed_andV (ha : PE X a (toTE K W Wd ta)) (hb : PE X (.BoolOp .And (b :: rest) pos) (toTE K W Wd tb)) (hK : X.K = K := by rfl) : PE X (.BoolOp .And (a :: b :: rest) pos) (toTE K W Wd (dAndD ta tb)) := by
  refine pe_imp (w_and (K := K) ha hb hK) fun σ H Q ⟨C, ρ, τ, Qd, xc, r, q, hx, k⟩ => ⟨C, ρ, τ, _, xc, r, q, hx, fun v H' rv ρ' τ' hq r' vr nw s => ?_⟩
  cases rv with
  | d d =>
    have dv : Dv K C.fo H' v d := .inl vr
    simp only at hq
    split at hq
    · rename_i e
      refine ⟨true, tru_ok dv e, ?_⟩
      rw [if_pos rfl]
      exact ⟨C, ρ', τ', _, xc, r', hq, hx, fun v2 H2 rv2 ρ2 τ2 q2 r2 vr2 nw2 s2 => k _ _ _ _ _ q2 r2 vr2 (nw2.stp s) (s.trans s2)⟩
    · rename_i e
      refine ⟨false, tru_ok dv e, ?_⟩
      rw [if_neg Bool.false_ne_true]
      exact k _ _ _ _ _ hq r' vr trivial s
    · exact hq.elim
  | new ds => exact hq.elim
  | var i => exact hq.elim
theorem ed_orV (ha : PE X a (toTE K W Wd ta)) (hb : PE X (.BoolOp .Or (b :: rest) pos) (toTE K W Wd tb)) (hK : X.K = K := by rfl) : PE X (.BoolOp .Or (a :: b :: rest) pos) (toTE K W Wd (dOrD ta tb)) := by
  refine pe_imp (w_or (K := K) ha hb hK) fun σ H Q ⟨C, ρ, τ, Qd, xc, r, q, hx, k⟩ => ⟨C, ρ, τ, _, xc, r, q, hx, fun v H' rv ρ' τ' hq r' vr nw s => ?_⟩
  cases rv with
  | d d =>
    have dv : Dv K C.fo H' v d := .inl vr
    simp only at hq
    split at hq
    · rename_i e
      refine ⟨true, tru_ok dv e, ?_⟩
      rw [if_pos rfl]
      exact k _ _ _ _ _ hq r' vr trivial s
    · rename_i e
      refine ⟨false, tru_ok dv e, ?_⟩
      rw [if_neg Bool.false_ne_true]
      exact ⟨C, ρ', τ', _, xc, r', hq, hx, fun v2 H2 rv2 ρ2 τ2 q2 r2 vr2 nw2 s2 => k _ _ _ _ _ q2 r2 vr2 (nw2.stp s) (s.trans s2)⟩
    · exact hq.elim
  | new ds => exact hq.elim
  | var i => exact hq.elim
def dIf (c : DT T) (ta tb : DE T) : DE T := fun xc ρ τ Q => c xc ρ τ fun b ρ1 τ1 => if b = true then ta xc ρ1 τ1 Q else tb xc ρ1 τ1 Q
theorem ed_if {c : Expr} (hc : PT X c (toTT K W Wd tt)) (ha : PE X a (toTE K W Wd ta)) (hb : PE X b (toTE K W Wd tb)) : PE X (.IfExp c a b pos) (toTE K W Wd (dIf tt ta tb)) := by
  refine pe_imp (pe_ifExp hc ha hb) fun σ H Q ⟨C, ρ, τ, Qd, xc, r, q, hx, k⟩ => ⟨C, ρ, τ, _, xc, r, q, hx, fun b H' ρ' τ' hq r' s => ?_⟩
  cases b with
  | true =>
    rw [if_pos rfl] at hq ⊢
    exact ⟨C, ρ', τ', _, xc, r', hq, hx, fun v2 H2 rv2 ρ2 τ2 q2 r2 vr2 nw2 s2 => k _ _ _ _ _ q2 r2 vr2 (nw2.stp s) (s.trans s2)⟩
  | false =>
    rw [if_neg Bool.false_ne_true] at hq ⊢
    exact ⟨C, ρ', τ', _, xc, r', hq, hx, fun v2 H2 rv2 ρ2 τ2 q2 r2 vr2 nw2 s2 => k _ _ _ _ _ q2 r2 vr2 (nw2.stp s) (s.trans s2)⟩
/-- a < b < c -/
def dChain (o o' : O2) (ta tb tc : DE T) : DE T := fun xc ρ τ Q => ta xc ρ τ fun r1 ρ1 τ1 => tb xc ρ1 τ1 fun r2 ρ2 τ2 => withD r1 ρ2 fun d => withD r2 ρ2 fun e => o d e fun rv => match rv with
  | .d (.bl true) => tc xc ρ2 τ2 fun r3 ρ3 τ3 => withD r2 ρ3 fun e => withD r3 ρ3 fun f => o' e f fun rv => Q rv ρ3 τ3
  | .d (.bl false) => Q (.d (.bl false)) ρ2 τ2
  | _ => False
theorem dchain_ok {r r' : R2} {o o' : O2} (c1 : C2 K r o) (c2 : C2 K r' o') {tc : DE T} {Q : VK} (h : toTE K W Wd (dChain o o' ta tb tc) σ H Q) : tChain r r' (toTE K W Wd ta) (toTE K W Wd tb) (toTE K W Wd tc) σ H Q := by
  obtain ⟨C, ρ, τ, Qd, xc, r0, q, hx, k⟩ := h
  refine ⟨C, ρ, τ, _, xc, r0, q, hx, fun v1 H1 rv1 ρ1 τ1 q1 r1 vr1 nw1 s1 => ?_⟩
  refine ⟨C, ρ1, τ1, _, xc, r1, q1, hx, fun v2 H2 rv2 ρ2 τ2 q2 r2 vr2 nw2 s2 => ?_⟩
  obtain ⟨d, dv, q3⟩ := vr_dv r2 (vr1.stp s2) q2
  obtain ⟨e, ev, q4⟩ := vr_dv r2 vr2 q3
  refine c1 _ _ _ _ _ _ _ _ dv ev q4 fun v H' rv hq nv => ?_
  obtain ⟨r3, vr3, nw3, e3⟩ := newv_ok r2 nv
  have s3 : Stp C ρ2 σ H2 ρ2 H' := .ex e3
  split at hq
  · cases vr3
    refine ⟨true, rfl, ?_⟩
    rw [if_pos rfl]
    refine ⟨C, ρ2, τ2, _, xc, r3, hq, hx, fun v4 H4 rv4 ρ4 τ4 q5 r4 vr4 nw4 s4 => ?_⟩
    obtain ⟨e', ev', q6⟩ := vr_dv r4 ((vr2.stp s3).stp s4) q5
    obtain ⟨f, fv, q7⟩ := vr_dv r4 vr4 q6
    refine c2 _ _ _ _ _ _ _ _ ev' fv q7 fun v5 H5 rv5 hq5 nv5 => ?_
    obtain ⟨r6, vr6, nw6, e6⟩ := newv_ok r4 nv5
    exact k _ _ _ _ _ hq5 r6 vr6 (nw6.stp (((s1.trans s2).trans s3).trans s4)) ((((s1.trans s2).trans s3).trans s4).trans (.ex e6))
  · cases vr3
    refine ⟨false, rfl, ?_⟩
    rw [if_neg Bool.false_ne_true]
    exact k _ _ _ _ _ hq r3 (.bl _) trivial ((s1.trans s2).trans s3)
  · exact hq.elim
end

/-! ### statements -/
section
variable {X : Cx} {st : Stmt} {rest : List Stmt} {t u : DS T} {e : Expr} {te : DE T} {tf : DF T} {pos : Pos}
def sNext : DS T := fun _ D ρ τ => D.nx ρ τ
def sSeq (t u : DS T) : DS T := fun xc D ρ τ => t xc { D with nx := u xc D } ρ τ
theorem nxt_ok {D : Ends} (h : toTS K W Wd (sNext (T := T)) D σ H) : D.nx σ H := by
  obtain ⟨C, ρ, τ, Dd, xc, r, q, hx, k, _⟩ := h
  exact (k _ _ _ _ r).1 q
theorem sd_nil : PSs X [] (toTS K W Wd (sNext (T := T))) := pss_imp pss_nil fun D σ H h => nxt_ok h
theorem sd_pass : PS X (.Pass pos) (toTS K W Wd (sNext (T := T))) := ps_imp ps_pass fun D σ H h => nxt_ok h
theorem sd_doc {x : Str} {j : Nat} {pos' : Pos} : PS X (.Expr (.Constant (.str x) j pos) pos') (toTS K W Wd (sNext (T := T))) := ps_imp ps_doc fun D σ H h => nxt_ok h
theorem sd_cons (h1 : PS X st (toTS K W Wd t)) (h2 : PSs X rest (toTS K W Wd u)) : PSs X (st :: rest) (toTS K W Wd (sSeq t u)) := by
  refine pss_imp (pss_cons h1 h2) fun D σ H ⟨C, ρ, τ, Dd, xc, r, q, hx, k, kr⟩ => ?_
  refine ⟨C, ρ, τ, { Dd with nx := u xc Dd }, xc, r, q, hx, fun σ' H' ρ' τ' r' => ⟨fun q' => ?_, (k _ _ _ _ r').2⟩, kr⟩
  exact ⟨C, ρ', τ', Dd, xc, r', q', hx, fun σ2 H2 ρ2 τ2 r2 => k _ _ _ _ r2, kr⟩
theorem sd_one (h1 : PS X st (toTS K W Wd t)) : PSs X [st] (toTS K W Wd t) := pss_one h1
def sBrk : DS T := fun _ D ρ τ => D.bk ρ τ
def sCont : DS T := fun _ D ρ τ => D.ct ρ τ
theorem sd_brk : PS X (.Break pos) (toTS K W Wd (sBrk (T := T))) := ps_imp ps_break fun D σ H ⟨C, ρ, τ, Dd, xc, r, q, hx, k, _⟩ => (k _ _ _ _ r).2.1 q
theorem sd_cont : PS X (.Continue pos) (toTS K W Wd (sCont (T := T))) := ps_imp ps_continue fun D σ H ⟨C, ρ, τ, Dd, xc, r, q, hx, k, _⟩ => (k _ _ _ _ r).2.2 q
def sDrop (t : DE T) : DS T := fun xc D ρ τ => t xc ρ τ fun _ ρ1 τ1 => D.nx ρ1 τ1
theorem sd_expr (he : PE X e (toTE K W Wd te)) (hs : swapsWith e none pos.line X.env = pure false := by rfl) : PS X (.Expr e pos) (toTS K W Wd (sDrop te)) :=
  ps_imp (ps_expr he hs) fun D σ H ⟨C, ρ, τ, Dd, xc, r, q, hx, k, _⟩ => ⟨C, ρ, τ, _, xc, r, q, hx, fun v H' rv ρ' τ' q' r' vr nw s => (k _ _ _ _ r').1 q'⟩
def sRet (t : DF T) : DS T := fun xc D ρ τ => t xc ρ τ fun d _ τ1 => D.rt d τ1
theorem sd_ret (he : PE X e (toTF K W Wd tf)) : PS X (.Return (some e) pos) (toTS K W Wd (sRet tf)) :=
  ps_imp (ps_ret he) fun D σ H ⟨C, ρ, τ, Dd, xc, r, q, hx, k, kr⟩ => ⟨C, ρ, τ, _, xc, r, q, hx, fun v H' d ρ' τ' q' r' f s => kr _ _ _ _ q' r'.r f⟩
def sRetN : DS T := fun _ D _ τ => D.rt .non τ
theorem sd_retN : PS X (.Return none pos) (toTS K W Wd (sRetN (T := T))) := ps_imp ps_retN fun D σ H ⟨C, ρ, τ, Dd, xc, r, q, hx, k, kr⟩ => kr _ _ _ _ q r.r .non
def sIf (c : DT T) (t u : DS T) : DS T := fun xc D ρ τ => c xc ρ τ fun b ρ1 τ1 => if b = true then t xc D ρ1 τ1 else u xc D ρ1 τ1
theorem sd_if {c : Expr} {a b : List Stmt} {tc : DT T} (hc : PT X c (toTT K W Wd tc)) (ha : PSs X a (toTS K W Wd t)) (hb : PSs X b (toTS K W Wd u)) : PS X (.If c a b pos) (toTS K W Wd (sIf tc t u)) := by
  refine ps_imp (ps_if hc ha hb) fun D σ H ⟨C, ρ, τ, Dd, xc, r, q, hx, k, kr⟩ => ⟨C, ρ, τ, _, xc, r, q, hx, fun b H' ρ' τ' hq r' s => ?_⟩
  cases b with
  | true =>
    rw [if_pos rfl] at hq ⊢
    exact ⟨C, ρ', τ', _, xc, r', hq, hx, fun σ2 H2 ρ2 τ2 r2 => k _ _ _ _ r2, kr⟩
  | false =>
    rw [if_neg Bool.false_ne_true] at hq ⊢
    exact ⟨C, ρ', τ', _, xc, r', hq, hx, fun σ2 H2 ρ2 τ2 r2 => k _ _ _ _ r2, kr⟩
theorem sd_never : PS X st (toTS K W Wd (fun _ _ _ _ => False : DS T)) := ps_imp ps_never fun D σ H ⟨C, ρ, τ, Dd, xc, r, q, _⟩ => q
/-- x = e -/
def sSet (i : Nat) (t : DE T) : DS T := fun xc D ρ τ => t xc ρ τ fun rv ρ1 τ1 => match rv with
  | .d d => D.nx (ρ1.set i (some (.d d))) τ1
  | .new ds => D.nx (ρ1.set i (some (.own ds))) τ1
  | .var _ => False
theorem sset_ok {i : Nat} {D : Ends} (h : toTS K W Wd (sSet i te) D σ H) : tAsg (toTE K W Wd te) (gName i) D σ H := by
  obtain ⟨C, ρ, τ, Dd, xc, r, q, hx, k, kr⟩ := h
  refine ⟨C, ρ, τ, _, xc, r, q, hx, fun v H' rv ρ' τ' hq r' vr nw s => ?_⟩
  cases rv with
  | d d => exact (k _ _ _ _ (r'.put vr)).1 hq
  | new ds =>
    obtain ⟨a, vs, rfl, h0, h1, f, no⟩ := vr
    exact (k _ _ _ _ (r'.putN h0 h1 f no)).1 hq
  | var j => exact hq.elim
theorem sd_set {i : Nat} {x : Str} {pos' : Pos} (hN : X.N.Nodup) (hi : X.N[i]? = some x) (hx : Loc X.env.scope x) (he : PE X e (toTE K W Wd te)) (hs : swapsWith e (some (.Name x pos')) pos.line X.env = pure false := by rfl) (hf : X.fn x = true ∨ X.env.scope.names.lookup x = some .local := by first | exact .inl rfl | exact .inr rfl | assumption) :
    PS X (.Assign [.Name x pos'] e pos) (toTS K W Wd (sSet i te)) := ps_imp (ps_set hN hi hx he hs hf) fun _ _ _ h => sset_ok h
/-- a target of data -/
def gdN (i : Nat) : DG T := fun d _ ρ τ Q => Q (ρ.set i (some (.d d))) τ
theorem gd_name {tg : Expr} {i : Nat} (h : PG X tg (gName i)) : PG X tg (toTG K W Wd (gdN (T := T) i)) :=
  pg_imp h fun v σ H R ⟨C, ρ, τ, d, Qd, xc, r, f, q, hx, k⟩ => k _ _ _ _ q (r.put f)
abbrev DGs (T : Type) := List D → DX T → Env → T → (Env → T → Prop) → Prop
def gdNil : DGs T := fun ds _ ρ τ Q => match ds with
  | [] => Q ρ τ
  | _ => False
def gdCons (g : DG T) (gs : DGs T) : DGs T := fun ds xc ρ τ Q => match ds with
  | d :: r => g d xc ρ τ fun ρ1 τ1 => gs r xc ρ1 τ1 Q
  | [] => False
def toTGs (K : PySem.W.Frag) (W : WX) (Wd : Wld T) (g : DGs T) : TGs := fun vs σ H R => ∃ (C : Ct Wd) (ρ : Env) (τ : T) (ds : List D) (Qd : Env → T → Prop) (xc : DX T), Rel C K ρ τ σ H ∧ FzA K C.fo H vs ds ∧ g ds xc ρ τ Qd ∧ XOk K W C xc ∧
  ∀ σ' H' ρ' τ', Qd ρ' τ' → Rel C K ρ' τ' σ' H' → R σ' H'
theorem pgs_imp {es : List Expr} {t1 t2 : TGs} (h : PGs X es t1) (w : ∀ v σ H Q, t2 v σ H Q → t1 v σ H Q) : PGs X es t2 := ⟨fun pins s σ H v u Q I r q => h.run pins s σ H v u Q I r (w v σ H Q q)⟩
theorem gd_nil : PGs X [] (toTGs K W Wd (gdNil (T := T))) := by
  refine pgs_imp pgs_nil fun v σ H R ⟨C, ρ, τ, ds, Qd, xc, r, f, q, hx, k⟩ => ?_
  cases ds with
  | nil => cases f; exact ⟨rfl, k _ _ _ _ q r⟩
  | cons d ds => exact q.elim
theorem gd_cons {es : List Expr} {g : DG T} {gs : DGs T} (h1 : PG X e (toTG K W Wd g)) (h2 : PGs X es (toTGs K W Wd gs)) (hs : (assignEach (e :: es) X.env).map (·.2) = assign e X.env :: (assignEach es X.env).map (·.2) := by rfl) :
    PGs X (e :: es) (toTGs K W Wd (gdCons g gs)) := by
  refine pgs_imp (pgs_cons h1 h2 hs) fun v σ H R ⟨C, ρ, τ, ds, Qd, xc, r, f, q, hx, k⟩ => ?_
  cases ds with
  | nil => exact q.elim
  | cons d ds =>
    cases f with
    | cons f1 f2 => exact ⟨_, _, rfl, C.kp H, ρ, τ, d, _, xc, r.kpI .refl, f1, q, hx.kp, fun σ1 H1 ρ1 τ1 q1 r1 => ⟨C, ρ1, τ1, ds, Qd, xc, r1.kpE.1, fza_kp r1.kpE.2 f2, q1, hx, k⟩⟩
def gdTup (n : Nat) (gs : DGs T) : DG T := fun d xc ρ τ Q => match d with
  | .tup ds => ds.length = n ∧ gs ds xc ρ τ Q
  | _ => False
theorem gd_tup {es : List Expr} {j : Nat} {gs : DGs T} {n : Nat} (hc : X.calm = true) (h : PGs X es (toTGs K W Wd gs)) (hK : X.K = K := by rfl) (hn : (assignEach es X.env).length = n := by rfl) (hst : (assignEach es X.env).findIdx? (·.1) = none := by rfl) :
    PG X (.Tuple es j pos) (toTG K W Wd (gdTup n gs)) := by
  refine pg_imp (w_gtup (K := K) hc h hK hn hst) fun v σ H R ⟨C, ρ, τ, d, Qd, xc, r, f, q, hx, k⟩ => ?_
  cases d with
  | tup ds =>
    cases f with
    | tup h1 h2 => exact ⟨_, _, rfl, h1, by rw [fza_len h2]; exact q.1, C, ρ, τ, ds, Qd, xc, r, h2, q.2, hx, k⟩
  | _ => exact q.elim
/-- target = e -/
def sAsg (t : DF T) (g : DG T) : DS T := fun xc D ρ τ => t xc ρ τ fun d ρ1 τ1 => g d xc ρ1 τ1 D.nx
theorem sd_asg {tg : Expr} {g : DG T} (he : PE X e (toTF K W Wd tf)) (hg : PG X tg (toTG K W Wd g)) (hs : swapsWithSole [tg] e pos.line X.env = pure false := by rfl) (hw : swappedStores [tg] e X.env = pure none := by rfl)
    (h1 : (assignEach [tg] X.env).map (·.2) = [assign tg X.env] := by rfl) : PS X (.Assign [tg] e pos) (toTS K W Wd (sAsg tf g)) :=
  ps_imp (ps_asg he hg hs hw h1) fun D σ H ⟨C, ρ, τ, Dd, xc, r, q, hx, k, kr⟩ => ⟨C, ρ, τ, _, xc, r, q, hx, fun v H1 d ρ1 τ1 q1 r1 f1 s1 => ⟨C, ρ1, τ1, d, _, xc, r1, f1, q1, hx, fun σ2 H2 ρ2 τ2 q2 r2 => (k _ _ _ _ r2).1 q2⟩⟩
/-- x[i] = e, x a slot's own list -/
def gdSub (i : Nat) (ti : DE T) : DG T := fun d xc ρ τ Q => own ρ i ∧ ti xc ρ τ fun rv ρ1 τ1 => withD rv ρ1 fun e => match e, ρ1[i]? with
  | .int j, some (some (.own ds)) => ∃ k, ixN ds.length j = some k ∧ Q (ρ1.set i (some (.own (ds.set k d)))) τ1
  | _, _ => False
theorem gd_sub {o ix : Expr} {i : Nat} {ti : DE T} (h : PG X (.Subscript o ix pos) (gSub (tVar i) (toTE K W Wd ti) rSetL)) : PG X (.Subscript o ix pos) (toTG K W Wd (gdSub i ti)) := by
  refine pg_imp h fun v σ H R ⟨C, ρ, τ, d, Qd, xc, r, f, q, hx, k⟩ => ?_
  obtain ⟨a, vs, ds, g1, g2, g3, g4, g5⟩ := own_at r q.1
  refine ⟨.ref a, g2, C, ρ, τ, _, xc, r, q.2, hx, fun v1 H1 rv ρ1 τ1 q1 r1 vr1 nw1 s1 => ?_⟩
  obtain ⟨e, ev, q2⟩ := vr_dv r1 vr1 q1
  split at q2
  · rename_i j ds1 e1
    cases ev.int
    obtain ⟨kk, e2, q2⟩ := q2
    obtain ⟨a', vs1, x1, x2, x3, x4⟩ := r1.sl i _ e1
    rw [g2] at x1; cases x1
    obtain ⟨r2, s2⟩ := r1.mut e1 g2 g3 x3 (fza_set kk x4 (fz_kp s1.kp f))
    exact ⟨a, vs1, j, kk, rfl, rfl, x3, by rw [fza_len x4]; exact e2, k _ _ _ _ q2 r2⟩
  · exact q2.elim
/-- x op= e -/
def sAug (i : Nat) (o : O2) (t : DE T) : DS T := fun xc D ρ τ => match ρ[i]? with
  | some (some (.d d)) => t xc ρ τ fun rv ρ1 τ1 => withD rv ρ1 fun e => o d e fun rv => match rv with
    | .d f => D.nx (ρ1.set i (some (.d f))) τ1
    | _ => False
  | _ => False
theorem sd_aug {i : Nat} {x : Str} {op : Operator} {r : R2} {o : O2} {pos' : Pos} (c : C2 K r o) (hN : X.N.Nodup) (hi : X.N[i]? = some x) (hx : Loc X.env.scope x) (he : PE X e (toTE K W Wd te)) (ho : PIp X op r) (hf : X.fn x = true ∨ X.env.scope.names.lookup x = some .local := by first | exact .inl rfl | exact .inr rfl | assumption) :
    PS X (.AugAssign (.Name x pos') op e pos) (toTS K W Wd (sAug i o te)) := by
  refine ps_imp (ps_aug hN hi hx he ho hf) fun D σ H ⟨C, ρ, τ, Dd, xc, r0, q, hx, k, kr⟩ => ?_
  unfold sAug at q
  split at q
  · rename_i d e1
    obtain ⟨v, y1, y2⟩ := r0.sl i _ e1
    refine ⟨v, y1, C, ρ, τ, _, xc, r0, q, hx, fun v1 H1 rv ρ1 τ1 q1 r1 vr1 nw1 s1 => ?_⟩
    obtain ⟨e, ev, q2⟩ := vr_dv r1 vr1 q1
    refine c _ _ _ _ _ _ _ _ (.inl (fz_kp s1.kp y2)) ev q2 fun v2 H2 rv2 hq nv => ?_
    cases rv2 with
    | d f => exact (k _ _ _ _ ((r1.ex nv.1).put nv.2)).1 hq
    | new ds => exact hq.elim
    | var j => exact hq.elim
  · exact q.elim
/-- while: an invariant with its measure -/
def sWhile (c : DT T) (tb : DS T) : DS T := fun xc D ρ τ => ∃ P : Nat → Env → T → Prop, (∃ m, P m ρ τ) ∧ ∀ m ρ τ, P m ρ τ →
  c xc ρ τ fun b ρ1 τ1 => if b = true then tb xc { D with nx := fun ρ' τ' => ∃ m', m' < m ∧ P m' ρ' τ', ct := fun ρ' τ' => ∃ m', m' < m ∧ P m' ρ' τ', bk := D.nx } ρ1 τ1 else D.nx ρ1 τ1
theorem sd_while {c : Expr} {body : List Stmt} {tc : DT T} {tb : DS T} (hp : PassesOwn (model X.prog X.w) X.A X.env X.xe) (hc : PT X c (toTT K W Wd tc)) (hb : PSs X body (toTS K W Wd tb)) : PS X (.While c body [] pos) (toTS K W Wd (sWhile tc tb)) := by
  refine ps_imp (ps_while hp hc hb) fun D σ H ⟨C, ρ, τ, Dd, xc, r, ⟨P, ⟨m0, p0⟩, hs⟩, hx, k, kr⟩ => ?_
  refine ⟨fun m σ' H' => ∃ ρ' τ', Rel C K ρ' τ' σ' H' ∧ P m ρ' τ', ⟨m0, ρ, τ, r, p0⟩, ?_⟩
  rintro m σ1 H1 ⟨ρ1, τ1, r1, p1⟩
  refine ⟨C, ρ1, τ1, _, xc, r1, hs m ρ1 τ1 p1, hx, fun b H2 ρ2 τ2 hq r2 s2 => ?_⟩
  cases b with
  | true =>
    rw [if_pos rfl] at hq
    refine iteT ?_
    refine ⟨fun σ' H' => ∃ m', m' < m ∧ ∃ ρ' τ', Rel C K ρ' τ' σ' H' ∧ P m' ρ' τ', fun σ' H' h => h, C, ρ2, τ2, _, xc, r2, hq, hx, fun σ3 H3 ρ3 τ3 r3 => ⟨?_, ?_, ?_⟩, kr⟩
    · rintro ⟨m', hm, p⟩; exact ⟨m', hm, ρ3, τ3, r3, p⟩
    · intro q; exact (k _ _ _ _ r3).1 q
    · rintro ⟨m', hm, p⟩; exact ⟨m', hm, ρ3, τ3, r3, p⟩
  | false =>
    rw [if_neg Bool.false_ne_true] at hq
    exact iteF ((k _ _ _ _ r2).1 hq)
end
end
end KD

/-! what is walked, for, comprehensions, calls, defs -/
namespace KD
open PySem PySem.Spec PyProof.Rows L2 KX
/-- what J gives, from H1 on -/
def WalkD (K : PySem.W.Frag) (fo : Addr → Prop) (J : It) (H1 : Hp) (xs : List D) : Prop := ∀ i H, Kp fo H1 H → (i < xs.length → J.go i H ∧ ∀ x H', J.yld i H x H' → Ex H H' ∧ ∃ d, xs[i]? = some d ∧ Fz K fo H' x d) ∧ (xs.length ≤ i → J.stop i H)
abbrev DI (T : Type) := DX T → Env → T → (List D → Env → T → Prop) → Prop
section
variable {T : Type} {Wd : Wld T} {C : Ct Wd} {K : PySem.W.Frag} {fo : Addr → Prop} {ρ ρ' : Env} {τ τ' : T} {σ : L2.St} {H H' : Hp} {v : V} {W : WX}
def toTI (K : PySem.W.Frag) (W : WX) (Wd : Wld T) (t : DI T) : TI := fun σ H R => ∃ (C : Ct Wd) (ρ : Env) (τ : T) (Qd : List D → Env → T → Prop) (xc : DX T), Rel C K ρ τ σ H ∧ t xc ρ τ Qd ∧ XOk K W C xc ∧
  ∀ J H' xs ρ' τ', Qd xs ρ' τ' → Rel C K ρ' τ' σ H' → Stp C ρ σ H ρ' H' → WalkD K C.fo J H' xs → xs.length ≤ sizeLine → R J H'
theorem walkd_list {a : Addr} {vs : List V} {ds : List D} {H1 : Hp} (h : SqF H1 a vs) (f : FzA K fo H1 vs ds) : WalkD K fo (Itl K a) H1 ds := by
  intro i H kp
  have h2 := kp.f h
  have f2 := fza_kp kp f
  refine ⟨fun hi => ⟨?_, fun x H' y => ?_⟩, fun hi => ⟨vs, h2.l, by rw [fza_len f]; exact hi⟩⟩
  · obtain ⟨x, e⟩ : ∃ x, vs[i]? = some x := ⟨_, List.getElem?_eq_getElem (by rw [fza_len f]; exact hi)⟩
    exact ⟨vs, x, h2.l, e⟩
  · obtain ⟨rfl, y⟩ := y
    obtain ⟨d, e, q⟩ := fza_getV f2 (y vs h2.l)
    exact ⟨Evl.Ex.refl _, d, e, q⟩
theorem walkd_tup {a : Addr} {vs : List V} {ds : List D} {H1 : Hp} (h : SqT K H1 a vs) (f : FzA K fo H1 vs ds) : WalkD K fo (Itt K a) H1 ds := by
  intro i H kp
  have h2 := kp.t h
  have f2 := fza_kp kp f
  refine ⟨fun hi => ⟨?_, fun x H' y => ?_⟩, fun hi => ⟨vs, h2, by rw [fza_len f]; exact hi⟩⟩
  · obtain ⟨x, e⟩ : ∃ x, vs[i]? = some x := ⟨_, List.getElem?_eq_getElem (by rw [fza_len f]; exact hi)⟩
    exact ⟨vs, x, h2, e⟩
  · obtain ⟨rfl, y⟩ := y
    obtain ⟨d, e, q⟩ := fza_getV f2 (y vs h2)
    exact ⟨Evl.Ex.refl _, d, e, q⟩
def signs (l : List Nat) : List D := l.map fun c => .str [c]
theorem walkd_str {l : List Nat} {H1 : Hp} : WalkD K fo (Its (tx l)) H1 (signs l) := by
  intro i H kp
  have w := @walk_str (tx l)
  have hn : (tx l).cps.size = l.length := tx_len l
  unfold signs
  rw [List.length_map, ← hn]
  refine ⟨fun hi => ⟨w.goes i H hi trivial, fun x H' y => ?_⟩, fun hi => hi⟩
  obtain ⟨rfl, c, e, rfl⟩ := w.yields i H x H' hi trivial y
  refine ⟨Evl.Ex.refl _, .str [c], ?_, .str [c]⟩
  have e3 : (tx l).cps.toList[i]? = some c := by rw [Array.getElem?_toList]; exact e
  rw [tx_list] at e3
  rw [List.getElem?_map, e3]
  rfl
def rangeD (lo : Int) (n : Nat) : List D := (List.range n).map fun i => .int (lo + (i : Nat))
theorem walkd_range {lo : Int} {n : Nat} {H1 : Hp} : WalkD K fo (Itr lo n) H1 (rangeD lo n) := by
  intro i H kp
  unfold rangeD
  rw [List.length_map, List.length_range]
  refine ⟨fun hi => ⟨hi, fun x H' y => ?_⟩, fun hi => hi⟩
  obtain ⟨rfl, rfl⟩ := y
  refine ⟨Evl.Ex.refl _, .int (lo + (i : Nat)), ?_, .int _⟩
  rw [List.getElem?_map, List.getElem?_range hi]
  rfl
def rangeDC (lo c : Int) (n : Nat) : List D := (List.range n).map fun i => .int (lo + (i : Nat) * c)
theorem walkd_rangeC {lo c : Int} {n : Nat} {H1 : Hp} : WalkD K fo (Itc lo c n) H1 (rangeDC lo c n) := by
  intro i H kp
  have w := @walk_rangeC lo c n
  unfold rangeDC
  rw [List.length_map, List.length_range]
  refine ⟨fun hi => ⟨w.goes i H hi trivial, fun x H' y => ?_⟩, fun hi => hi⟩
  obtain ⟨rfl, rfl⟩ := w.yields i H x H' hi trivial y
  refine ⟨Evl.Ex.refl _, .int (lo + (i : Nat) * c), ?_, .int _⟩
  rw [List.getElem?_map, List.getElem?_range hi]
  rfl
/-! ### sequences walked -/
def iSeq (K : PySem.W.Frag) (tl : TE) : TI := fun σ H R => tl σ H fun x H1 => (∃ a xs, x = .ref a ∧ SqL K H1 a xs ∧ (xs.length ≤ sizeLine → R (Itl K a) H1)) ∨ (∃ a xs, x = .ref a ∧ SqT K H1 a xs ∧ (xs.length ≤ sizeLine → R (Itt K a) H1)) ∨ ∃ z, x = .str z ∧ R (Its z) H1
theorem pi_seq {X : Cx} {tg l : Expr} {tl : TE} (hl : PE X l tl) (hK : X.K = K := by rfl) : PI X tg l (iSeq K tl) := by
  subst hK
  refine ⟨fun pins s σ H R I h => ?_⟩
  refine thn (hl.run pins s σ H _ I h) fun v s1 ⟨x, H1, I1, r1, q1⟩ => ?_
  have fresh : ∀ b, b = s1.heap.objs.size → FpOk X pins H1 b := fun b e => by
    subst e
    exact I1.fpOk (Nat.le_refl _) (I1.hok.fresh (Nat.le_refl _))
  rcases q1 with ⟨a, xs, rfl, hq, q⟩ | ⟨a, xs, rfl, hq, q⟩ | ⟨x, rfl, q⟩
  · cases r1
    obtain ⟨its, rv, p, hz⟩ := I1.list hq
    refine wpAny_pyIter_list p.isList ?_
    exact ⟨s1.heap.objs.size, [s1.heap.objs.size], _, _, H1, rfl, I1.kept (t' := s1.toks) fun b o e => Heap.get?_push_of_some _ e, turn_list a _, ⟨_, Heap.get?_push_size _ rfl, rfl, rfl⟩, fun b hb => fresh b (by simpa using hb), q hz⟩
  · cases r1
    obtain ⟨its, rv, p, hz⟩ := I1.tuple hq
    refine wpAny_pyIter_tuple (show s1.heap.IsTuple a its.toArray from p) ?_
    exact ⟨s1.heap.objs.size, [s1.heap.objs.size], _, _, H1, rfl, I1.kept (t' := s1.toks) fun b o e => Heap.get?_push_of_some _ e, turn_tuple a _, ⟨_, Heap.get?_push_size _ rfl, rfl, rfl⟩, fun b hb => fresh b (by simpa using hb), q hz⟩
  · obtain ⟨t, rfl⟩ := r1
    cases ha : x.cps.all (· < 128)
    · exact wpAny_pyIter_wide ha (pi_one (tk := s1.toks) I1 _ (turn_str _ x t "str_iterator" (.inr rfl)) ⟨_, Heap.get?_push_size _ rfl, rfl, rfl⟩ q)
    · exact wpAny_pyIter_ascii ha (pi_one (tk := s1.toks) I1 _ (turn_str _ x t "str_ascii_iterator" (.inl rfl)) ⟨_, Heap.get?_push_size _ rfl, rfl, rfl⟩ q)
def dIt (t : DF T) : DI T := fun xc ρ τ Q => t xc ρ τ fun d ρ1 τ1 => match d with
  | .lst ds => Q ds ρ1 τ1
  | .tup ds => Q ds ρ1 τ1
  | .str l => l.length ≤ sizeLine ∧ Q (signs l) ρ1 τ1
  | _ => False
theorem id_seq {X : Cx} {tg l : Expr} {t : DF T} (hl : PE X l (toTF K W Wd t)) (hK : X.K = K := by rfl) : PI X tg l (toTI K W Wd (dIt t)) := by
  refine pi_imp (pi_seq (K := K) hl hK) fun σ H R ⟨C, ρ, τ, Qd, xc, r, q, hx, k⟩ => ⟨C, ρ, τ, _, xc, r, q, hx, fun v H' d ρ' τ' hq r' f s => ?_⟩
  cases d with
  | lst ds =>
    cases f with
    | lst h1 h2 => exact .inl ⟨_, _, rfl, h1.l, fun hz => k _ _ _ _ _ hq r' s (walkd_list h1 h2) (by rw [← fza_len h2]; exact hz)⟩
  | tup ds =>
    cases f with
    | tup h1 h2 => exact .inr (.inl ⟨_, _, rfl, h1, fun hz => k _ _ _ _ _ hq r' s (walkd_tup h1 h2) (by rw [← fza_len h2]; exact hz)⟩)
  | str l =>
    cases f
    exact .inr (.inr ⟨_, rfl, k _ _ _ _ _ hq.2 r' s walkd_str (by unfold signs; rw [List.length_map]; exact hq.1)⟩)
  | _ => exact hq.elim
/-- range -/
def dRng1 (u : DA T) : DI T := fun xc ρ τ Q => u xc ρ τ fun ds ρ1 τ1 => match ds with
  | [.int j] => j ≤ sizeLine ∧ -(2 ^ 62) ≤ j ∧ Q (rangeD 0 j.toNat) ρ1 τ1
  | _ => False
def dRng2 (u : DA T) : DI T := fun xc ρ τ Q => u xc ρ τ fun ds ρ1 τ1 => match ds with
  | [.int i, .int j] => (-(2 ^ 62) ≤ i ∧ i < 2 ^ 62 ∧ -(2 ^ 62) ≤ j ∧ j < 2 ^ 62) ∧ j - i ≤ sizeLine ∧ Q (rangeD i (j - i).toNat) ρ1 τ1
  | _ => False
def dRng3 (u : DA T) : DI T := fun xc ρ τ Q => u xc ρ τ fun ds ρ1 τ1 => match ds with
  | [.int i, .int j, .int c] => ∃ n, RgC i j c n ∧ n ≤ sizeLine ∧ Q (rangeDC i c n) ρ1 τ1
  | _ => False
theorem fza1 {vs : List V} {i : Int} (f : FzA K fo H vs [.int i]) : vs = [.int i] := by
  cases f with
  | cons a b => cases a; cases b; rfl
theorem fza2 {vs : List V} {i j : Int} (f : FzA K fo H vs [.int i, .int j]) : vs = [.int i, .int j] := by
  cases f with
  | cons a b => cases a; rw [fza1 b]
theorem fza3 {vs : List V} {i j c : Int} (f : FzA K fo H vs [.int i, .int j, .int c]) : vs = [.int i, .int j, .int c] := by
  cases f with
  | cons a b => cases a; rw [fza2 b]
theorem line62 : (sizeLine : Int) < 2 ^ 62 := by rw [sizeLine_eq]; decide
theorem id_rng1 {X : Cx} {tg e : Expr} {u : DA T} (h : PI X tg e (iRng1 (toTA K W Wd u))) : PI X tg e (toTI K W Wd (dRng1 u)) := by
  refine pi_imp h fun σ H R ⟨C, ρ, τ, Qd, xc, r, q, hx, k⟩ => ⟨C, ρ, τ, _, xc, r, q, hx, fun vs H' ds ρ' τ' hq r' f s => ?_⟩
  split at hq
  · rename_i j
    have := line62
    refine ⟨j, fza1 f, hq.2.1, by omega, k _ _ _ _ _ hq.2.2 r' s walkd_range ?_⟩
    unfold rangeD
    rw [List.length_map, List.length_range]
    omega
  · exact hq.elim
theorem id_rng2 {X : Cx} {tg e : Expr} {u : DA T} (h : PI X tg e (iRng2 (toTA K W Wd u))) : PI X tg e (toTI K W Wd (dRng2 u)) := by
  refine pi_imp h fun σ H R ⟨C, ρ, τ, Qd, xc, r, q, hx, k⟩ => ⟨C, ρ, τ, _, xc, r, q, hx, fun vs H' ds ρ' τ' hq r' f s => ?_⟩
  split at hq
  · rename_i i j
    refine ⟨i, j, fza2 f, hq.1, k _ _ _ _ _ hq.2.2 r' s walkd_range ?_⟩
    unfold rangeD
    rw [List.length_map, List.length_range]
    omega
  · exact hq.elim
theorem id_rng3 {X : Cx} {tg e : Expr} {u : DA T} (h : PI X tg e (iRng3 (toTA K W Wd u))) : PI X tg e (toTI K W Wd (dRng3 u)) := by
  refine pi_imp h fun σ H R ⟨C, ρ, τ, Qd, xc, r, q, hx, k⟩ => ⟨C, ρ, τ, _, xc, r, q, hx, fun vs H' ds ρ' τ' hq r' f s => ?_⟩
  split at hq
  · rename_i i j c
    obtain ⟨n, h1, h2, h3⟩ := hq
    refine ⟨i, j, c, n, fza3 f, h1, k _ _ _ _ _ h3 r' s walkd_rangeC ?_⟩
    unfold rangeDC
    rw [List.length_map, List.length_range]
    exact h2
  · exact hq.elim

/-! ### targets of loops and comprehensions -/
def GOk (K : PySem.W.Frag) (Wd : Wld T) (g' : TG) (g : DG T) : Prop := ∀ v σ H R (C : Ct Wd) ρ τ d xc Qd, Rel C K ρ τ σ H → Fz K C.fo H v d → g d xc ρ τ Qd → (∀ σ' ρ' τ', Qd ρ' τ' → Rel C K ρ' τ' σ' H → (∀ i, own ρ' i → own ρ i) → R σ' H) → g' v σ H R
theorem own_set {i j : Nat} {d : D} (h : own (ρ.set i (some (.d d))) j) : own ρ j := by
  obtain ⟨es, h⟩ := h
  rcases set_get h with ⟨_, _, z⟩ | ⟨ne, h⟩
  · cases z
  · exact ⟨es, h⟩
theorem go_name {i : Nat} : GOk K Wd (gName i) (gdN i) := fun v σ H R C ρ τ d xc Qd r f q k => k _ _ _ q (r.put f) fun _ => own_set
def GOks (K : PySem.W.Frag) (Wd : Wld T) (g' : TGs) (g : DGs T) : Prop := ∀ vs σ H R (C : Ct Wd) ρ τ ds xc Qd, Rel C K ρ τ σ H → FzA K C.fo H vs ds → g ds xc ρ τ Qd → (∀ σ' ρ' τ', Qd ρ' τ' → Rel C K ρ' τ' σ' H → (∀ i, own ρ' i → own ρ i) → R σ' H) → g' vs σ H R
theorem gos_nil : GOks K Wd gNil gdNil := by
  intro vs σ H R C ρ τ ds xc Qd r f q k
  cases ds with
  | nil => cases f; exact ⟨rfl, k _ _ _ q r fun _ h => h⟩
  | cons d ds => exact q.elim
theorem gos_name {i : Nat} {g' : TGs} {g : DGs T} (h : GOks K Wd g' g) : GOks K Wd (gCons (gName i) g') (gdCons (gdN i) g) := by
  intro vs σ H R C ρ τ ds xc Qd r f q k
  cases ds with
  | nil => exact q.elim
  | cons d ds =>
    cases f with
    | cons f1 f2 => exact ⟨_, _, rfl, h _ _ _ _ C _ _ _ _ _ (r.put f1) f2 q fun σ' ρ' τ' z1 z2 z3 => k _ _ _ z1 z2 fun i hi => own_set (z3 i hi)⟩
theorem go_tup {n : Nat} {g' : TGs} {g : DGs T} (h : GOks K Wd g' g) : GOk K Wd (gTup K n g') (gdTup n g) := by
  intro v σ H R C ρ τ d xc Qd r f q k
  cases d with
  | tup ds =>
    cases f with
    | tup h1 h2 => exact ⟨_, _, rfl, h1, by rw [fza_len h2]; exact q.1, h _ _ _ _ C _ _ _ _ _ r h2 q.2 k⟩
  | _ => exact q.elim
/-! ### for -/
def fD (g : DG T) (tb : DS T) (xc : DX T) (D : DEnds T) : List KD.D → Env → T → Prop
  | [] => D.nx
  | x :: r => fun ρ τ => g x xc ρ τ fun ρ1 τ1 => tb xc { D with nx := fD g tb xc D r, ct := fD g tb xc D r, bk := D.nx } ρ1 τ1
def sFor (t : DI T) (g : DG T) (tb : DS T) : DS T := fun xc D ρ τ => t xc ρ τ fun xs ρ1 τ1 => fD g tb xc D xs ρ1 τ1
theorem sd_for {X : Cx} {tg iter : Expr} {body : List Stmt} {t : DI T} {g' : TG} {g : DG T} {tb : DS T} {pos : Pos} (go : GOk K Wd g' g) (hp : PassesOwn (model X.prog X.w) X.A X.env X.xe) (hc : X.calm = true) (hi : PI X tg iter (toTI K W Wd t)) (hg : PG X tg g') (hb : PSs X body (toTS K W Wd tb))
    (hs : ∀ x, foldedSetIterable iter X.env x = pure x := by intro _; rfl) : PS X (.For tg iter body [] pos) (toTS K W Wd (sFor t g tb)) := by
  refine ps_imp (ps_for hp hc hi hg hb hs) fun D σ H ⟨C, ρ, τ, Dd, xc, r, q, hx, k, kr⟩ => ⟨C, ρ, τ, _, xc, r, q, hx, fun J H1 xs ρ1 τ1 q1 r1 s1 wk hz => ?_⟩
  refine ⟨fun i m σ' H' => i ≤ xs.length ∧ m = xs.length - i ∧ ∃ ρ' τ', Rel (C.kp H1) K ρ' τ' σ' H' ∧ fD g tb xc Dd (xs.drop i) ρ' τ', ⟨xs.length, Nat.zero_le _, by simp, ρ1, τ1, r1.kpI .refl, q1⟩, ?_⟩
  rintro i m σ2 H2 ⟨hi, rfl, ρ2, τ2, r2, q2⟩
  obtain ⟨wgo, wst⟩ := wk i H2 r2.kpE.2
  by_cases hlt : i < xs.length
  · obtain ⟨w1, w2⟩ := wgo hlt
    rw [List.drop_eq_getElem_cons hlt] at q2
    refine .inr ⟨w1, fun σ' H' => ∃ ρ' τ', Rel (C.kp H1) K ρ' τ' σ' H' ∧ fD g tb xc Dd (xs.drop (i + 1)) ρ' τ', fun σ' H' z1 => ⟨_, by omega, hlt, rfl, z1⟩, fun x H3 y => ?_⟩
    obtain ⟨e3, d, ed, fd⟩ := w2 x H3 y
    rw [List.getElem?_eq_getElem hlt] at ed
    cases ed
    refine go x σ2 H3 _ (C.kp H1) ρ2 τ2 xs[i] xc _ (r2.ex e3) fd q2 fun σ4 ρ4 τ4 q4 r4 _ => ?_
    exact ⟨C.kp H1, ρ4, τ4, _, xc, r4, q4, hx.kp, fun σ5 H5 ρ5 τ5 r5 => ⟨fun z => ⟨ρ5, τ5, r5, z⟩, fun z => (k _ _ _ _ r5.kpE.1).1 z, fun z => ⟨ρ5, τ5, r5, z⟩⟩, fun v H' d τ' z rr fz => kr v H' d τ' z rr.kpE.1 fz⟩
  · have e : i = xs.length := by omega
    subst e
    rw [List.drop_length] at q2
    exact .inl ⟨wst (Nat.le_refl _), (k _ _ _ _ r2.kpE.1).1 q2⟩
end
end KD

/-! comprehensions -/
namespace KD
open PySem PySem.Spec PyProof.Rows L2 KX
/-- what stands at vs again: what stood there ahead -/
def mergeE (ρ0 ρ : Env) : List Nat → Env
  | [] => ρ
  | v :: vs => (mergeE ρ0 ρ vs).set v (match ρ0[v]? with | some (some (.d d)) => some (.d d) | _ => none)
def wipeE (ρ : Env) : List Nat → Env
  | [] => ρ
  | v :: vs => (wipeE ρ vs).set v none
theorem mergeE_some {ρ0 ρ : Env} {i : Nat} {x : Sl} : ∀ {vs : List Nat}, (mergeE ρ0 ρ vs)[i]? = some (some x) → (i ∉ vs ∧ ρ[i]? = some (some x)) ∨ (i ∈ vs ∧ (∃ d, x = .d d) ∧ ρ0[i]? = some (some x))
  | [], h => .inl ⟨by simp, h⟩
  | v :: vs, h => by
    unfold mergeE at h
    rcases set_get h with ⟨rfl, _, z⟩ | ⟨ne, h⟩
    · split at z
      · rename_i d e
        cases z
        exact .inr ⟨by simp, ⟨d, rfl⟩, e⟩
      · cases z
    · rcases mergeE_some h with ⟨h1, h2⟩ | ⟨h1, h2⟩
      · exact .inl ⟨by simp only [List.mem_cons, not_or]; exact ⟨fun e => ne e.symm, h1⟩, h2⟩
      · exact .inr ⟨List.mem_cons_of_mem _ h1, h2⟩
theorem mergeE_len (ρ0 ρ : Env) : ∀ vs : List Nat, (mergeE ρ0 ρ vs).length = ρ.length
  | [] => rfl
  | v :: vs => by unfold mergeE; rw [List.length_set, mergeE_len ρ0 ρ vs]
theorem wipeE_some {ρ : Env} {i : Nat} {x : Sl} : ∀ {vs : List Nat}, (wipeE ρ vs)[i]? = some (some x) → ρ[i]? = some (some x) ∧ i ∉ vs
  | [], h => ⟨h, by simp⟩
  | v :: vs, h => by
    unfold wipeE at h
    rcases set_get h with ⟨_, _, z⟩ | ⟨ne, h⟩
    · cases z
    · obtain ⟨h1, h2⟩ := wipeE_some h
      exact ⟨h1, by simp only [List.mem_cons, not_or]; exact ⟨fun e => ne e.symm, h2⟩⟩
theorem wipeE_len (ρ : Env) : ∀ vs : List Nat, (wipeE ρ vs).length = ρ.length
  | [] => rfl
  | v :: vs => by unfold wipeE; rw [List.length_set, wipeE_len ρ vs]
theorem wipe_get {σ : L2.St} {i : Nat} : ∀ {vs : List Nat}, i ∉ vs → (wipe σ vs)[i]? = σ[i]?
  | [], _ => rfl
  | v :: vs, h => by
    simp only [List.mem_cons, not_or] at h
    unfold wipe
    rw [List.getElem?_set_ne (Ne.symm h.1), wipe_get h.2]
theorem wipe_in {σ : L2.St} {i : Nat} : ∀ {vs : List Nat}, i ∈ vs → i < σ.length → (wipe σ vs)[i]? = some none
  | [], h, _ => by cases h
  | v :: vs, h, hl => by
    unfold wipe
    by_cases e : v = i
    · subst e
      exact List.getElem?_set_self (by rw [wipe_length]; exact hl)
    · rw [List.getElem?_set_ne e]
      rcases List.mem_cons.mp h with z | z
      · exact absurd z.symm e
      · exact wipe_in z hl
theorem wipe_ext {σ1 σ2 : L2.St} {vs : List Nat} (hl : σ1.length = σ2.length) (e : ∀ i, i ∉ vs → σ1[i]? = σ2[i]?) : wipe σ1 vs = wipe σ2 vs := by
  refine List.ext_getElem? fun i => ?_
  by_cases h : i ∈ vs
  · by_cases l : i < σ1.length
    · rw [wipe_in h l, wipe_in h (by rw [← hl]; exact l)]
    · rw [List.getElem?_eq_none (by rw [wipe_length]; omega), List.getElem?_eq_none (by rw [wipe_length]; omega)]
  · rw [wipe_get h, wipe_get h, e i h]
section
variable {T : Type} {Wd : Wld T} {C : Ct Wd} {K : PySem.W.Frag} {fo : Addr → Prop} {ρ ρ' ρ0 : Env} {τ τ' τ0 : T} {σ σ' : L2.St} {H H' H0 : Hp} {v : V} {W : WX}
theorem Rel.wipe {vs : List Nat} (r : Rel C K ρ τ σ H) : Rel C K (wipeE ρ vs) τ (L2.wipe σ vs) H := by
  refine ⟨r.r, by rw [wipeE_len, r.ln, wipe_length], fun i s h => ?_, fun i j a ne hi hj h => ?_⟩
  · obtain ⟨h1, h2⟩ := wipeE_some h
    have h3 := r.sl i s h1
    cases s with
    | d d => obtain ⟨v, x, y⟩ := h3; exact ⟨v, by rw [wipe_get h2]; exact x, y⟩
    | own ds => obtain ⟨a, ws, x1, x2, x3, x4⟩ := h3; exact ⟨a, ws, by rw [wipe_get h2]; exact x1, x2, x3, x4⟩
  · obtain ⟨d1, h1⟩ := hi
    obtain ⟨d2, h2⟩ := hj
    obtain ⟨x1, y1⟩ := wipeE_some h1
    obtain ⟨x2, y2⟩ := wipeE_some h2
    rw [wipe_get y1] at h
    rw [wipe_get y2]
    exact r.dj i j a ne ⟨d1, x1⟩ ⟨d2, x2⟩ h
theorem own_wipe {vs : List Nat} {i : Nat} (h : own (wipeE ρ vs) i) : own ρ i ∧ i ∉ vs := let ⟨ds, e⟩ := h; let ⟨a, b⟩ := wipeE_some e; ⟨⟨ds, a⟩, b⟩
theorem own_merge {vs : List Nat} {i : Nat} (h : own (mergeE ρ0 ρ vs) i) : own ρ i ∧ i ∉ vs := by
  obtain ⟨ds, e⟩ := h
  rcases mergeE_some e with ⟨h1, h2⟩ | ⟨_, ⟨d, z⟩, _⟩
  · exact ⟨⟨ds, h2⟩, h1⟩
  · cases z
/-- back outside of a comprehension -/
theorem Rel.merge {vs : List Nat} (r0 : Rel C K ρ0 τ0 σ H0) (kp : Kp C.fo H0 H) (r : Rel C K ρ τ σ' H) (hl : σ'.length = σ.length) (e : ∀ i, i ∉ vs → σ'[i]? = σ[i]?) : Rel C K (mergeE ρ0 ρ vs) τ σ H := by
  refine ⟨r.r, by rw [mergeE_len, r.ln, hl], fun i s h => ?_, fun i j a ne hi hj h => ?_⟩
  · rcases mergeE_some h with ⟨h2, h1⟩ | ⟨_, ⟨d, rfl⟩, h1⟩
    · have h3 := r.sl i s h1
      cases s with
      | d d => obtain ⟨v, x, y⟩ := h3; exact ⟨v, by rw [← e i h2]; exact x, y⟩
      | own ds => obtain ⟨a, ws, x1, x2, x3, x4⟩ := h3; exact ⟨a, ws, by rw [← e i h2]; exact x1, x2, x3, x4⟩
    · obtain ⟨v, x, y⟩ := r0.sl i _ h1
      exact ⟨v, x, fz_kp kp y⟩
  · obtain ⟨o1, y1⟩ := own_merge hi
    obtain ⟨o2, y2⟩ := own_merge hj
    rw [← e i y1] at h
    rw [← e j y2]
    exact r.dj i j a ne o1 o2 h
/-- a target changes the slots vs alone -/
def GWk (g' : TG) (vs : List Nat) : Prop := ∀ v σ H (R R' : L2.St → Hp → Prop), g' v σ H R → (∀ σ2 H2, R σ2 H2 → σ2.length = σ.length → (∀ i, i ∉ vs → σ2[i]? = σ[i]?) → R' σ2 H2) → g' v σ H R'
theorem gw_name {i : Nat} {vs : List Nat} (h : i ∈ vs) : GWk (gName i) vs := fun v σ H R R' q k => k _ _ q List.length_set fun j hj => List.getElem?_set_ne (by rintro rfl; exact hj h)
def GWks (g' : TGs) (vs : List Nat) : Prop := ∀ ws σ H (R R' : L2.St → Hp → Prop), g' ws σ H R → (∀ σ2 H2, R σ2 H2 → σ2.length = σ.length → (∀ i, i ∉ vs → σ2[i]? = σ[i]?) → R' σ2 H2) → g' ws σ H R'
theorem gws_nil {vs : List Nat} : GWks gNil vs := fun ws σ H R R' q k => ⟨q.1, k _ _ q.2 rfl fun _ _ => rfl⟩
theorem gws_name {i : Nat} {vs : List Nat} {g' : TGs} (h : i ∈ vs) (hg : GWks g' vs) : GWks (gCons (gName i) g') vs := by
  rintro ws σ H R R' ⟨v, r, rfl, q⟩ k
  refine ⟨v, r, rfl, hg _ _ _ _ _ q fun σ2 H2 z l s => k _ _ z (by rw [l, List.length_set]) fun j hj => ?_⟩
  rw [s j hj]
  exact List.getElem?_set_ne (by rintro rfl; exact hj h)
theorem gw_tup {n : Nat} {vs : List Nat} {g' : TGs} (h : GWks g' vs) : GWk (gTup K n g') vs := fun v σ H R R' ⟨a, xs, e, h1, h2, q⟩ k => ⟨a, xs, e, h1, h2, h _ _ _ _ _ q k⟩
/-! ### comprehensions -/
def lcD (g : DG T) (tt : DT T) (te : DF T) (vs : List Nat) (xc : DX T) : List KD.D → List KD.D → Env → T → (List KD.D → Env → T → Prop) → Prop
  | [], acc => fun ρ τ Q => Q acc ρ τ
  | x :: r, acc => fun ρ τ Q => g x xc (wipeE ρ vs) τ fun ρ1 τ1 => tt xc ρ1 τ1 fun b ρ2 τ2 =>
      if b = true then te xc ρ2 τ2 fun y ρ3 τ3 => lcD g tt te vs xc r (acc ++ [y]) (mergeE ρ ρ3 vs) τ3 Q else lcD g tt te vs xc r acc (mergeE ρ ρ2 vs) τ2 Q
def dYes : DT T := fun _ ρ τ Q => Q true ρ τ
def dLc (t : DI T) (g : DG T) (tt : DT T) (te : DF T) (vs : List Nat) : DE T := fun xc ρ τ Q => t xc ρ τ fun xs ρ1 τ1 => lcD g tt te vs xc xs [] ρ1 τ1 fun ds ρ2 τ2 => Q (.new ds) ρ2 τ2
def TtOk (K : PySem.W.Frag) (W : WX) (Wd : Wld T) (tt' : TT) (tt : DT T) : Prop := ∀ σ H Q, toTT K W Wd tt σ H Q → tt' σ H Q
theorem tt_yes : TtOk K W Wd tYes dYes := fun σ H Q ⟨C, ρ, τ, Qd, xc, r, q, hx, k⟩ => k _ _ _ _ q r .refl
theorem tt_it {tt : DT T} : TtOk K W Wd (toTT K W Wd tt) tt := fun _ _ _ h => h
theorem lc_ok {t : DI T} {g' : TG} {g : DG T} {tt' : TT} {tt : DT T} {te : DF T} {vs : List Nat} {Q : VK} (go : GOk K Wd g' g) (gw : GWk g' vs) (ht : TtOk K W Wd tt' tt) (h : toTE K W Wd (dLc t g tt te vs) σ H Q) : tLc (toTI K W Wd t) g' tt' (toTF K W Wd te) vs σ H Q := by
  obtain ⟨C, ρ, τ, Qd, xc, r, q, hx, k⟩ := h
  refine ⟨C, ρ, τ, _, xc, r, q, hx, fun J H1 xs ρ1 τ1 q1 r1 s1 wk hz => ?_⟩
  intro A hA
  have hA0 : C.H0 A = none := r1.r.dm A hA
  have nofo : ¬ C.fo A := fun z => C.dom A z hA0
  have noch : ¬ C.ch A := fun z => nofo (C.sub A z)
  have hAH : H A = none := s1.dm A hA
  have notown1 : ∀ j, own ρ1 j → σ[j]? ≠ some (some (.ref A)) := fun j ⟨es, hj⟩ z => by
    obtain ⟨b, us, y1, y2, y3, y4⟩ := r1.sl j _ hj
    rw [z] at y1; cases y1
    rw [hA] at y3; cases y3
  refine ⟨fun i m H' => i ≤ xs.length ∧ m = xs.length - i ∧ Kp C.fo H1 H' ∧ ∃ (ρ' : Env) (τ' : T) (ws : List V) (acc : List KD.D), Rel C K ρ' τ' σ H' ∧ Stp C ρ1 σ H1 ρ' H' ∧ H' A = some (.lst ws) ∧ FzA K C.fo H' ws acc ∧ acc.length ≤ i ∧
      lcD g tt te vs xc (xs.drop i) acc ρ' τ' (fun ds ρ2 τ2 => Qd (.new ds) ρ2 τ2), ⟨xs.length, Nat.zero_le _, by simp, .of_ex (Evl.Ex.new hA), ρ1, τ1, [], [], r1.ex (Evl.Ex.new hA), .ex (Evl.Ex.new hA), upd_same, .nil, Nat.zero_le _, q1⟩, ?_⟩
  rintro i m H2 ⟨hi, rfl, kp2, ρ2, τ2, ws, acc, r2, s2, hA2, fa, hac, q2⟩
  have notown : ∀ j, own ρ2 j → σ[j]? ≠ some (some (.ref A)) := fun j hj => notown1 j (s2.ow j hj)
  obtain ⟨wgo, wst⟩ := wk i H2 kp2
  by_cases hlt : i < xs.length
  · obtain ⟨w1, w2⟩ := wgo hlt
    rw [List.drop_eq_getElem_cons hlt] at q2
    refine .inr ⟨w1, fun H' => Kp C.fo H1 H' ∧ ∃ (ρ' : Env) (τ' : T) (ws : List V) (acc : List KD.D), Rel C K ρ' τ' σ H' ∧ Stp C ρ1 σ H1 ρ' H' ∧ H' A = some (.lst ws) ∧ FzA K C.fo H' ws acc ∧ acc.length ≤ i + 1 ∧
      lcD g tt te vs xc (xs.drop (i + 1)) acc ρ' τ' (fun ds ρ2 τ2 => Qd (.new ds) ρ2 τ2), fun H' ⟨z1, z2⟩ => ⟨_, by omega, hlt, rfl, z1, z2⟩, fun x H3 y => ?_⟩
    obtain ⟨e3, d, ed, fd⟩ := w2 x H3 y
    rw [List.getElem?_eq_getElem hlt] at ed
    cases ed
    have r3 := (r2.ex e3).wipe (vs := vs)
    have kp3 := kp2.trans (Kp.of_ex e3)
    have hA3 := e3 _ _ hA2
    have fa3 := fza_kp (Kp.of_ex e3) fa
    let R0 : L2.St → Hp → Prop := fun σ4 H4 => H4 = H3 ∧ ∃ (ρ4 : Env) (τ4 : T), (tt xc ρ4 τ4 fun b ρ5 τ5 => if b = true then te xc ρ5 τ5 fun y ρ6 τ6 => lcD g tt te vs xc (xs.drop (i + 1)) (acc ++ [y]) (mergeE ρ2 ρ6 vs) τ6 (fun ds ρ2 τ2 => Qd (.new ds) ρ2 τ2)
      else lcD g tt te vs xc (xs.drop (i + 1)) acc (mergeE ρ2 ρ5 vs) τ5 (fun ds ρ2 τ2 => Qd (.new ds) ρ2 τ2)) ∧ Rel C K ρ4 τ4 σ4 H3 ∧ ∀ i, own ρ4 i → own (wipeE ρ2 vs) i
    refine gw x _ H3 R0 _ (go x _ H3 R0 C _ τ2 xs[i] xc _ r3 fd q2 fun σ4 ρ4 τ4 q4 r4 o4 => ⟨rfl, ρ4, τ4, q4, r4, o4⟩) ?_
    rintro σ4 H4 ⟨rfl, ρ4, τ4, q4, r4, o4⟩ l4 e4
    have l4' : σ4.length = σ.length := by rw [l4, wipe_length]
    have e4' : ∀ j, j ∉ vs → σ4[j]? = σ[j]? := fun j hj => by rw [e4 j hj, wipe_get hj]
    refine ⟨wipe_ext l4' e4', ht σ4 _ _ ⟨C, ρ4, τ4, _, xc, r4, q4, hx, fun b H5 ρ5 τ5 q5 r5 s5 => ?_⟩⟩
    have no4 : ∀ j, own ρ4 j → σ4[j]? ≠ some (some (.ref A)) := fun j hj => by
      obtain ⟨z1, z2⟩ := own_wipe (o4 j hj)
      rw [e4' j z2]
      exact notown j z1
    have stp : ∀ {ρ6 : Env} {H6 : Hp}, Stp C ρ4 σ4 H4 ρ6 H6 → Stp C ρ1 σ H1 (mergeE ρ2 ρ6 vs) H6 := fun {ρ6 H6} s6 => by
      have s23 := s2.trans (Stp.ex e3)
      refine ⟨s23.kp.trans s6.kp, fun b o n m h => ?_, fun j hj => ?_, fun b h => s23.dm b (s6.dm b h)⟩
      · refine s6.st b o n (fun j hj => ?_) (s23.st b o n m h)
        obtain ⟨z1, z2⟩ := own_wipe (o4 j hj)
        rw [e4' j z2]
        exact m j (s2.ow j z1)
      · obtain ⟨z1, z2⟩ := own_merge hj
        exact s2.ow j (own_wipe (o4 j (s6.ow j z1))).1
    have rel : ∀ {ρ6 : Env} {τ6 : T} {H6 : Hp}, Stp C ρ4 σ4 H4 ρ6 H6 → Rel C K ρ6 τ6 σ4 H6 → Rel C K (mergeE ρ2 ρ6 vs) τ6 σ H6 := fun {ρ6 τ6 H6} s6 r6 => r2.merge ((Kp.of_ex e3).trans s6.kp) r6 l4' e4'
    cases b with
    | false =>
      rw [if_neg Bool.false_ne_true] at q5
      refine iteF ⟨kp3.trans s5.kp, _, τ5, ws, acc, rel s5 r5, stp s5, s5.st A _ noch no4 hA3, fza_kp s5.kp fa3, by omega, q5⟩
    | true =>
      rw [if_pos rfl] at q5
      refine iteT ⟨C, ρ5, τ5, _, xc, r5, q5, hx, fun y H6 dy ρ6 τ6 q6 r6 f6 s6 => ?_⟩
      have s46 := s5.trans s6
      have hA6 : H6 A = some (.lst ws) := s46.st A _ noch no4 hA3
      have fa6 := fza_kp s46.kp fa3
      have rr := rel s46 r6
      have ss := stp s46
      obtain ⟨r7, s7, kp7⟩ := rr.newN (u0 := .lst (ws ++ [y])) hA0 hA6 (fun j hj => notown1 j (ss.ow j hj)) ss hA
      refine ⟨ws, hA6, ?_, (kp3.trans s46.kp).trans kp7, _, τ6, ws ++ [y], acc ++ [dy], r7, s7, upd_same, fza_kp kp7 (fza_app fa6 (fza_one f6)), ?_, q6⟩
      · rw [fza_len fa6]
        omega
      · rw [List.length_append]
        simp only [List.length_cons, List.length_nil]
        omega
  · have e : i = xs.length := by omega
    subst e
    rw [List.drop_length] at q2
    refine .inl ⟨wst (Nat.le_refl _), k _ _ _ _ _ q2 r2 ⟨A, ws, rfl, hA0, hA2, fa, notown⟩ ⟨A, rfl, hAH⟩ (s1.trans s2)⟩
theorem lc_ok2 {t : DI T} {g' : TG} {g : DG T} {tt' : TT} {tt : DT T} {te : DF T} {vs : List Nat} {i : Nat} {D : Ends} (go : GOk K Wd g' g) (gw : GWk g' vs) (ht : TtOk K W Wd tt' tt) (h : tAsg (toTE K W Wd (dLc t g tt te vs)) (gName i) D σ H) : tAsg (tLc (toTI K W Wd t) g' tt' (toTF K W Wd te) vs) (gName i) D σ H := lc_ok go gw ht h
section
variable {X : Cx}
theorem ed_lc {elt tg iter : Expr} {ifs : List Expr} {scope : Scope} {own : List (Str × Nat)} {pos : Pos} {t : DI T} {g' : TG} {g : DG T} {tt' : TT} {tt : DT T} {te : DF T} (go : GOk K Wd g' g) (gw : GWk g' (own.map (·.2))) (hto : TtOk K W Wd tt' tt)
    (hc : X.calm = true) (hN : X.N.Nodup) (hi : PI X tg iter (toTI K W Wd t)) (ok : BlkOk X.N X.env.scope scope own)
    (hg : ∀ (s : Shared) (H : Hp) (C : Addr) (cl : List (Str × Addr)) (fp : List Addr), PG (X.blk s H scope (compEnvC scope cl C X.env) fp) tg g') (ht : ∀ (s : Shared) (H : Hp) (C : Addr) (cl : List (Str × Addr)) (fp : List Addr), PTs (X.blk s H scope (compEnvC scope cl C X.env) fp) ifs tt')
    (he : ∀ (s : Shared) (H : Hp) (C : Addr) (cl : List (Str × Addr)) (fp : List Addr), PE (X.blk s H scope (compEnvC scope cl C X.env) fp) elt (toTF K W Wd te)) (hs : ∀ x, foldedSetIterable iter X.env x = pure x := by intro _; rfl) :
    PE X (.ListComp elt [⟨tg, iter, ifs, 0⟩] scope pos) (toTE K W Wd (dLc t g tt te (own.map (·.2)))) := pe_imp (pe_lc hc hN hi ok hg ht he hs) fun _ _ _ h => lc_ok go gw hto h
theorem sd_setLc {i : Nat} {y : Str} {py : Pos} {elt tg iter : Expr} {ifs : List Expr} {scope : Scope} {own : List (Str × Nat)} {pos spos : Pos} {t : DI T} {g' : TG} {g : DG T} {tt' : TT} {tt : DT T} {te : DF T} (go : GOk K Wd g' g) (gw : GWk g' (own.map (·.2))) (hto : TtOk K W Wd tt' tt)
    (hc : X.calm = true) (hN : X.N.Nodup) (hy : X.N[i]? = some y) (hyl : X.env.scope.names.lookup y = some .local)
    (hsw : swapsWith (.ListComp elt [⟨tg, iter, ifs, 0⟩] scope pos) (some (.Name y py)) spos.line X.env = pure true) (hi : PI X tg iter (toTI K W Wd t)) (ok : BlkOk X.N X.env.scope scope own)
    (hg : ∀ (s : Shared) (H : Hp) (C : Addr) (cl : List (Str × Addr)) (fp : List Addr), PG (X.blk s H scope (compEnvC scope cl C X.env) fp) tg g') (ht : ∀ (s : Shared) (H : Hp) (C : Addr) (cl : List (Str × Addr)) (fp : List Addr), PTs (X.blk s H scope (compEnvC scope cl C X.env) fp) ifs tt')
    (he : ∀ (s : Shared) (H : Hp) (C : Addr) (cl : List (Str × Addr)) (fp : List Addr), PE (X.blk s H scope (compEnvC scope cl C X.env) fp) elt (toTF K W Wd te)) (hs : ∀ x, foldedSetIterable iter X.env x = pure x := by intro _; rfl) :
    PS X (.Assign [.Name y py] (.ListComp elt [⟨tg, iter, ifs, 0⟩] scope pos) spos) (toTS K W Wd (sSet i (dLc t g tt te (own.map (·.2))))) :=
  ps_imp (ps_setLc hc hN hy hyl hsw hi ok hg ht he hs) fun D σ H h => by
    have h2 := sset_ok h
    exact lc_ok2 go gw hto h2
end
end
end KD

/-! calls, defs, raise, try -/
namespace KD
open PySem PySem.Spec PyProof.Rows L2 KX KM
abbrev SpD (T : Type) := List D → T → (D → T → Prop) → (Exn → T → Prop) → Prop
/-- a def's promise over data -/
def spE {T : Type} (en : Exn → Value) (K : PySem.W.Frag) (Wd : Wld T) (sp : SpD T) : Sp := fun vs H Q E => ∃ (C : Ct Wd) (ds : List D) (τ : T) (Qd : D → T → Prop) (Ed : Exn → T → Prop), C.H0 = H ∧ FzA K C.fo H vs ds ∧ C.at_ τ H ∧ C.fl H ∧ sp ds τ Qd Ed ∧
  (∀ v H' d τ', Qd d τ' → RelR C τ' H' → Fz K C.fo H' v d → Q v H') ∧ ∀ e H' τ', Ed e τ' → RelR C τ' H' → E (en e) none H'
/-- what is raised is told by its text -/
abbrev spD {T : Type} (K : PySem.W.Frag) (Wd : Wld T) (sp : SpD T) : Sp := spE enc K Wd sp
/-- what is raised is told by its class alone -/
abbrev spN {T : Type} (CM : Addr) (K : PySem.W.Frag) (Wd : Wld T) (sp : SpD T) : Sp := spE (fun _ => .ref CM) K Wd sp
/-- a wish about the class, as one about texts -/
abbrev dropW (CM : Addr) (W : WX) : WX := fun _ _ σ H => W (.ref CM) none σ H
/-- nothing is held -/
def PW : Wld Unit := ⟨fun _ _ _ => True, fun _ _ _ _ _ _ => trivial⟩
/-- around a callee: nothing of ours changes -/
def Ct.pure {T : Type} {Wd : Wld T} (C : Ct Wd) (H : Hp) (h : ∀ a, C.fo a → H a ≠ none) : Ct PW := ⟨H, C.fo, fun _ => False, fun _ h => h.elim, h, Kp C.fo H, fun _ _ => .trans⟩
def Ct.now {T : Type} {Wd : Wld T} (C : Ct Wd) (H : Hp) (h : ∀ a, C.fo a → H a ≠ none) : Ct Wd := ⟨H, C.fo, C.ch, C.sub, h, Kp C.fo H, fun _ _ => .trans⟩
section
variable {T : Type} {Wd : Wld T} {C : Ct Wd} {K : PySem.W.Frag} {fo : Addr → Prop} {ρ ρ' : Env} {τ τ' : T} {σ : L2.St} {H H' : Hp} {v : V} {W : WX}
theorem Rel.dom (r : Rel C K ρ τ σ H) : ∀ a, C.fo a → H a ≠ none := fun a h z => C.dom a h (r.r.dm a z)
theorem Rel.r0 (r : Rel C K ρ τ σ H) : RelR (C.now H r.dom) τ H := ⟨r.r.at_, fun _ _ _ h => h, fun _ h => h, .refl⟩
/-- behind a call that may change what is held -/
theorem Rel.after (r : Rel C K ρ τ σ H) (q : RelR (C.now H r.dom) τ' H') : Rel C K ρ τ' σ H' ∧ Stp C ρ σ H ρ H' := by
  have bt : ∀ b o, ¬ C.ch b → H b = some o → H' b = some o := q.bt
  have kp : Kp C.fo H H' := q.fl
  refine ⟨⟨⟨q.at_, fun b o n h => bt b o n (r.r.bt b o n h), fun b h => r.r.dm b (q.dm b h), C.flk _ _ r.r.fl kp⟩, r.ln, fun i s h => ?_, r.dj⟩, kp, fun b o n _ h => bt b o n h, fun _ h => h, fun b h => q.dm b h⟩
  have h1 := r.sl i s h
  cases s with
  | d d => obtain ⟨v, a, b⟩ := h1; exact ⟨v, a, fz_kp kp b⟩
  | own ds => obtain ⟨a, vs, h2, h3, h4, h5⟩ := h1; exact ⟨a, vs, h2, h3, bt a _ (r.noch h3) h4, fza_kp kp h5⟩
theorem Rel.afterP {u : Unit} (r : Rel C K ρ τ σ H) (q : RelR (C.pure H r.dom) u H') : Rel C K ρ τ σ H' ∧ Stp C ρ σ H ρ H' := by
  have e : Ex H H' := fun b o h => q.bt b o (fun z => z) h
  exact ⟨r.ex e, .ex e⟩
/-- a call; of a def that leaves ours alone -/
def dCall (sp : SpD T) (u : DA T) : DE T := fun xc ρ τ Q => u xc ρ τ fun ds ρ1 τ1 => sp ds τ1 (fun d τ2 => Q (.d d) ρ1 τ2) fun e τ2 => xc e ρ1 τ2
def dCallP (sp : SpD Unit) (u : DA T) : DE T := fun xc ρ τ Q => u xc ρ τ fun ds ρ1 τ1 => sp ds () (fun d _ => Q (.d d) ρ1 τ1) fun e _ => xc e ρ1 τ1
theorem call_ok {en : Exn → Value} {sp : SpD T} {u : DA T} {Q : VK} {E : XK} (h : toTE K W Wd (dCall sp u) σ H Q) (hE : ∀ e H', W (enc e) none σ H' → E (en e) none H') : toTA K W Wd u σ H fun vs H1 => spE en K Wd sp vs H1 Q E := by
  obtain ⟨C, ρ, τ, Qd, xc, r, q, hx, k⟩ := h
  refine ⟨C, ρ, τ, _, xc, r, q, hx, fun vs H1 ds ρ1 τ1 q1 r1 f1 s1 => ?_⟩
  refine ⟨C.now H1 r1.dom, ds, τ1, _, _, rfl, f1, r1.r.at_, .refl, q1, fun v H' d τ' hq rr fz => ?_, fun e H' τ' hq rr => ?_⟩
  · obtain ⟨r2, s2⟩ := r1.after rr
    exact k _ _ _ _ _ hq r2 fz trivial (s1.trans s2)
  · obtain ⟨r2, s2⟩ := r1.after rr
    exact hE _ _ (hx _ _ _ _ _ hq r2)
theorem callP_ok {en : Exn → Value} {sp : SpD Unit} {u : DA T} {Q : VK} {E : XK} (h : toTE K W Wd (dCallP sp u) σ H Q) (hE : ∀ e H', W (enc e) none σ H' → E (en e) none H') : toTA K W Wd u σ H fun vs H1 => spE en K PW sp vs H1 Q E := by
  obtain ⟨C, ρ, τ, Qd, xc, r, q, hx, k⟩ := h
  refine ⟨C, ρ, τ, _, xc, r, q, hx, fun vs H1 ds ρ1 τ1 q1 r1 f1 s1 => ?_⟩
  refine ⟨C.pure H1 r1.dom, ds, (), _, _, rfl, f1, trivial, .refl, q1, fun v H' d τ' hq rr fz => ?_, fun e H' τ' hq rr => ?_⟩
  · obtain ⟨r2, s2⟩ := r1.afterP rr
    exact k _ _ _ _ _ hq r2 fz trivial (s1.trans s2)
  · obtain ⟨r2, s2⟩ := r1.afterP rr
    exact hE _ _ (hx _ _ _ _ _ hq r2)
/-- a promise of defs that let nothing out -/
def calm0 {T : Type} (sp : SpD T) : SpD T := fun ds τ Q _ => sp ds τ Q fun _ _ => False
section
variable {X : Cx} {e : Expr} {es : List Expr} {pos p : Pos} {x : Str} {CX : CXT} {kk : Nat} {f : Addr} {fd : FuncData} {ps : List Str} {dvs : List V} {dds : List Value} {u : DA T}
theorem xok_false {xc : DX T} : XOk K (fun _ _ _ _ => False) C (fun _ _ _ => False : DX T) := fun _ _ _ _ _ h _ => h.elim
/-- a call of a def that raises nothing -/
theorem ed_call0 {sp : SpD T} (h : PE X e (tCall (spD K Wd (calm0 sp)) [] E0 (toTA K W Wd u))) : PE X e (toTE K W Wd (dCall (calm0 sp) u)) := by
  refine pe_imp h fun σ H Q ⟨C, ρ, τ, Qd, xc, r, q, hx, k⟩ => ?_
  refine ⟨C, ρ, τ, _, xc, r, q, hx, fun vs H1 ds ρ1 τ1 q1 r1 f1 s1 => ?_⟩
  show spD K Wd (calm0 sp) (vs ++ []) H1 Q E0
  rw [List.append_nil]
  refine ⟨C.now H1 r1.dom, ds, τ1, _, fun _ _ => False, rfl, f1, r1.r.at_, .refl, q1, fun v H' d τ' hq rr fz => ?_, fun e H' τ' hq rr => hq.elim⟩
  obtain ⟨r2, s2⟩ := r1.after rr
  exact k _ _ _ _ _ hq r2 fz trivial (s1.trans s2)
theorem ed_call0P {sp : SpD Unit} (h : PE X e (tCall (spD K PW (calm0 sp)) [] E0 (toTA K W Wd u))) : PE X e (toTE K W Wd (dCallP (calm0 sp) u)) := by
  refine pe_imp h fun σ H Q ⟨C, ρ, τ, Qd, xc, r, q, hx, k⟩ => ?_
  refine ⟨C, ρ, τ, _, xc, r, q, hx, fun vs H1 ds ρ1 τ1 q1 r1 f1 s1 => ?_⟩
  show spD K PW (calm0 sp) (vs ++ []) H1 Q E0
  rw [List.append_nil]
  refine ⟨C.pure H1 r1.dom, ds, (), _, fun _ _ => False, rfl, f1, trivial, .refl, q1, fun v H' d τ' hq rr fz => ?_, fun e H' τ' hq rr => hq.elim⟩
  obtain ⟨r2, s2⟩ := r1.afterP rr
  exact k _ _ _ _ _ hq r2 fz trivial (s1.trans s2)
/-- a call of a def that may raise -/
theorem ed_callX {sp : SpD T} (h : PE X e (tCallS (spD K Wd sp) (WE W) (toTA K W Wd u))) : PE X e (toTE K W Wd (dCall sp u)) :=
  pe_imp h fun σ H Q q => call_ok q fun m H' z => z
theorem ed_callXP {sp : SpD Unit} (h : PE X e (tCallS (spD K PW sp) (WE W) (toTA K W Wd u))) : PE X e (toTE K W Wd (dCallP sp u)) :=
  pe_imp h fun σ H Q q => callP_ok q fun m H' z => z
theorem ed_callN {CM : Addr} {W0 : WX} {sp : SpD T} (h : PE X e (tCallS (spN CM K Wd sp) (WE W0) (toTA K (dropW CM W0) Wd u))) : PE X e (toTE K (dropW CM W0) Wd (dCall sp u)) :=
  pe_imp h fun σ H Q q => call_ok q fun m H' z => z
theorem ed_callNP {CM : Addr} {W0 : WX} {sp : SpD Unit} (h : PE X e (tCallS (spN CM K PW sp) (WE W0) (toTA K (dropW CM W0) Wd u))) : PE X e (toTE K (dropW CM W0) Wd (dCallP sp u)) :=
  pe_imp h fun σ H Q q => callP_ok q fun m H' z => z
end
/-! ### defs -/
def dstart (N : List Str) (ds : List D) : Env := ds.map (fun d => some (.d d)) ++ List.replicate (N.length - ds.length) none
theorem rel_start {N : List Str} {vs : List V} {ds : List D} (f : FzA K C.fo H vs ds) (a : C.at_ τ H) (l : C.fl H) (h0 : C.H0 = H) : Rel C K (dstart N ds) τ (L2.start N vs) H := by
  subst h0
  have hl := fza_len f
  have noown : ∀ i, ¬ own (dstart N ds) i := by
    rintro i ⟨es, h⟩
    unfold dstart at h
    by_cases hi : i < ds.length
    · rw [List.getElem?_append_left (by simpa using hi), List.getElem?_map, List.getElem?_eq_getElem hi] at h
      cases h
    · rw [List.getElem?_append_right (by simpa using Nat.le_of_not_lt hi)] at h
      rw [List.getElem?_replicate] at h
      split at h
      · cases h
      · cases h
  refine ⟨⟨a, fun _ _ _ h => h, fun _ h => h, l⟩, by simp [dstart, L2.start, hl], fun i s h => ?_, fun i j b ne hi => absurd hi (noown i)⟩
  unfold dstart at h
  by_cases hi : i < ds.length
  · rw [List.getElem?_append_left (by simpa using hi), List.getElem?_map, List.getElem?_eq_getElem hi] at h
    cases h
    obtain ⟨v, e1, e2⟩ := fza_get f (List.getElem?_eq_getElem hi)
    refine ⟨v, ?_, e2⟩
    unfold L2.start
    rw [List.getElem?_append_left (by simp; omega), List.getElem?_map, e1]
    rfl
  · rw [List.getElem?_append_right (by simpa using Nat.le_of_not_lt hi), List.getElem?_replicate] at h
    split at h <;> cases h
section
variable {P : Program} {w : World} {mg : Str → Option Value} {base : Heap}
abbrev W0 : WX := fun _ _ _ _ => True
/-- a def that lets nothing out -/
theorem okD0 {x qual : Str} {st : Stmt} {f : Addr} {fd : FuncData} {N ps : List Str} {k : Nat} {sp : SpD T} (F : Fun K x qual st f fd) (S : FnScope N ps (defScope st)) (len : ∀ ds τ Q E, sp ds τ Q E → ds.length = ps.length)
    (walk : ∀ (cdv : Value) (A : Around) (outer : List PySem.Env) (s : Shared) (H : Hp) (E : XK), Room k (A.deeper (envOfC qual (defScope st) s.heap.objs.size f cdv)) →
      ∃ t : DS T, PSs (cxOf CX0 P w K mg base N qual (defScope st) f cdv A outer s H E).nox (defBody st) (toTS K W0 Wd t) ∧
        ∀ ds τ Q, sp ds τ Q (fun _ _ => False) → t (fun _ _ _ => False) { nx := fun _ τ => Q .non τ, rt := Q } (dstart N ds) τ) : FnOk P w K mg base CX0 (k + 1) f fd ps (spD K Wd (calm0 sp)) := by
  refine F.ok S (fun vs H Q E ⟨C, ds, τ, Qd, Ed, h0, f, a, l, q, _⟩ => by rw [fza_len f]; exact len _ _ _ _ q) fun cdv A outer s H vs Q E hr ⟨C, ds, τ, Qd, Ed, h0, f, a, l, q, k1, k2⟩ => ?_
  obtain ⟨t, ht, hq⟩ := walk cdv A outer s H E hr
  refine ⟨_, ht, C, dstart N ds, τ, _, _, rel_start f a l h0, hq ds τ Qd q, fun _ _ _ _ _ h _ => h.elim, fun σ' H' ρ' τ' r' => ⟨fun z => k1 _ _ _ _ z r'.r .non, fun z => z.elim, fun z => z.elim⟩, fun v H' d τ' z rr fz => k1 _ _ _ _ z rr fz⟩
abbrev WD (E : XK) : WX := fun cls d _ H => E cls d H
/-- a def that may raise, with its text -/
theorem okDM {CM : Addr} {x qual : Str} {st : Stmt} {f : Addr} {fd : FuncData} {N ps : List Str} {k : Nat} {sp : SpD T} (F : Fun K x qual st f fd) (S : FnScope N ps (defScope st)) (len : ∀ ds τ Q E, sp ds τ Q E → ds.length = ps.length)
    (walk : ∀ (cdv : Value) (A : Around) (outer : List PySem.Env) (s : Shared) (H : Hp) (E : XK), Room k (A.deeper (envOfC qual (defScope st) s.heap.objs.size f cdv)) →
      ∃ t : DS T, PSs (cxOf (KM.CM CM P w) P w K mg base N qual (defScope st) f cdv A outer s H E) (defBody st) (toTS K (WD E) Wd t) ∧
        ∀ ds τ Q Ed, sp ds τ Q Ed → t (fun e _ τ => Ed e τ) { nx := fun _ τ => Q .non τ, rt := Q } (dstart N ds) τ) : FnOk P w K mg base (KM.CM CM P w) (k + 1) f fd ps (spD K Wd sp) := by
  refine KM.okM F S (fun vs H Q E ⟨C, ds, τ, Qd, Ed, h0, f, a, l, q, _⟩ => by rw [fza_len f]; exact len _ _ _ _ q) fun cdv A outer s H vs Q E hr ⟨C, ds, τ, Qd, Ed, h0, f, a, l, q, k1, k2⟩ => ?_
  obtain ⟨t, ht, hq⟩ := walk cdv A outer s H E hr
  refine ⟨_, ht, C, dstart N ds, τ, _, _, rel_start f a l h0, hq ds τ Qd Ed q, fun e σ H ρ τ h r => k2 _ _ _ h r.r, fun σ' H' ρ' τ' r' => ⟨fun z => k1 _ _ _ _ z r'.r .non, fun z => z.elim, fun z => z.elim⟩, fun v H' d τ' z rr fz => k1 _ _ _ _ z rr fz⟩
theorem okDN {CM : Addr} {x qual : Str} {st : Stmt} {f : Addr} {fd : FuncData} {N ps : List Str} {k : Nat} {sp : SpD T} (F : Fun K x qual st f fd) (S : FnScope N ps (defScope st)) (len : ∀ ds τ Q E, sp ds τ Q E → ds.length = ps.length)
    (walk : ∀ (cdv : Value) (A : Around) (outer : List PySem.Env) (s : Shared) (H : Hp) (E : XK), Room k (A.deeper (envOfC qual (defScope st) s.heap.objs.size f cdv)) →
      ∃ t : DS T, PSs (cxOf (L2N.CX P w) P w K mg base N qual (defScope st) f cdv A outer s H E) (defBody st) (toTS K (dropW CM (WD E)) Wd t) ∧
        ∀ ds τ Q Ed, sp ds τ Q Ed → t (fun e _ τ => Ed e τ) { nx := fun _ τ => Q .non τ, rt := Q } (dstart N ds) τ) : FnOk P w K mg base (L2N.CX P w) (k + 1) f fd ps (spN CM K Wd sp) := by
  refine KM.okN F S (fun vs H Q E ⟨C, ds, τ, Qd, Ed, h0, f, a, l, q, _⟩ => by rw [fza_len f]; exact len _ _ _ _ q) fun cdv A outer s H vs Q E hr ⟨C, ds, τ, Qd, Ed, h0, f, a, l, q, k1, k2⟩ => ?_
  obtain ⟨t, ht, hq⟩ := walk cdv A outer s H E hr
  refine ⟨_, ht, C, dstart N ds, τ, _, _, rel_start f a l h0, hq ds τ Qd Ed q, fun e σ H ρ τ h r => k2 _ _ _ h r.r, fun σ' H' ρ' τ' r' => ⟨fun z => k1 _ _ _ _ z r'.r .non, fun z => z.elim, fun z => z.elim⟩, fun v H' d τ' z rr fz => k1 _ _ _ _ z rr fz⟩
end
/-! ### raise -/
def sRs (c : Nat) (t : DE T) : DS T := fun xc D ρ τ => t xc ρ τ fun rv ρ1 τ1 => match rv with
  | .d (.str m) => xc (c, m) ρ1 τ1
  | _ => False
theorem sd_rsM {X : Cx} {st : Stmt} {t : DE T} (h : PS X st (tRsM (tMk (toTE K W Wd t)) W)) : PS X st (toTS K W Wd (sRs 0 t)) := by
  refine ps_imp h fun D σ H ⟨C, ρ, τ, Dd, xc, r, q, hx, k, kr⟩ => ?_
  refine ⟨C, ρ, τ, _, xc, r, q, hx, fun v H' rv ρ' τ' hq r' vr nw s => ?_⟩
  split at hq
  · rename_i m
    cases vr
    exact ⟨tx m, rfl, hx _ _ _ _ _ hq r'⟩
  · exact hq.elim
theorem sd_rsN {CM : Addr} {W0 : WX} {X : Cx} {st : Stmt} {m : List Nat} (h : PS X st (tRs CM W0)) : PS X st (toTS K (dropW CM W0) Wd (sRs 0 (dC (T := T) (.str m)))) := by
  refine ps_imp h fun D σ H ⟨C, ρ, τ, Dd, xc, r, q, hx, k, kr⟩ => ?_
  exact hx _ _ _ _ _ q r
end
end KD

/-! built-in functions and methods over data -/
namespace KD
open PySem PySem.Spec PyProof.Rows L2 KX
section
variable {T : Type} {Wd : Wld T} {C : Ct Wd} {K : PySem.W.Frag} {fo : Addr → Prop} {ρ ρ' : Env} {τ τ' : T} {σ : L2.St} {H H' : Hp} {v : V} {W : WX}
def lenD : D → Option Nat
  | .str l => some l.length
  | .lst ds => some ds.length
  | .tup ds => some ds.length
  | _ => none
def oLen : O1 := fun d Q => szOk d ∧ ∃ n, lenD d = some n ∧ Q (.d (.int (n : Nat)))
theorem c_len : C1 K (fun x H Q => rLenU K [x] H Q) oLen := by
  intro fo H x d Qd Q dx ⟨hz, n, e, o⟩ k
  cases d with
  | str l => cases e; cases dx.str; exact q_lenS hz (k _ _ _ o (newv_scal fun _ => .int _))
  | lst ds =>
    cases e
    obtain ⟨a, vs, rfl, h1, f⟩ := dx.lst
    exact q_lenL (.inl h1) (k _ _ _ o (by rw [fza_len f]; exact newv_scal fun _ => .int _))
  | tup ds =>
    cases e
    obtain ⟨a, vs, rfl, h1, f⟩ := dx.tup
    exact q_lenT h1 (k _ _ _ o (by rw [fza_len f]; exact newv_scal fun _ => .int _))
  | _ => cases e
def kindD : D → Option String
  | .non => some "NoneType" | .bl _ => some "bool" | .int _ => some "int" | .str _ => some "str" | .lst _ => some "list" | .tup _ => some "tuple" | _ => none
def isiT (T : String) : D → Option Bool
  | .non => some false
  | .bl _ => some (T == "bool" || T == "int")
  | .int _ => some (T == "int")
  | .str _ => some (T == "str")
  | .lst _ => some (T == "list")
  | .tup _ => some (T == "tuple")
  | _ => none
def oIsi (T : String) : O1 := fun d Q => match isiT T d with
  | some b => Q (.d (.bl b))
  | none => False
theorem tyx_of {d : D} {k : String} (h : Dv K fo H v d) (e : kindD d = some k) : TyX K H v (.type k) := by
  cases d with
  | non => cases e; cases h.non; exact .base .non
  | bl b => cases e; cases h.bl; exact .base (.bl b)
  | int i => cases e; cases h.int; exact .base (.int i)
  | str l => cases e; cases h.str; exact .base (.str _)
  | lst ds =>
    cases e
    obtain ⟨a, vs, rfl, h1 | ⟨o, h1⟩, f⟩ := h.lst
    · exact .base (.lst h1)
    · exact .base (.frz h1)
  | tup ds =>
    cases e
    obtain ⟨a, vs, rfl, (h1 | ⟨o, h1⟩) | ⟨o, its, n, h1, h2, _⟩, f⟩ := h.tup
    · exact .base (.tup h1)
    · exact .fTuple h1
    · exact .kTuple h1 h2
  | _ => cases e
/-- the five built-in types that are asked of -/
theorem c_isi {T : String} (hT : ∀ k, k = "NoneType" ∨ k = "bool" ∨ k = "int" ∨ k = "str" ∨ k = "list" ∨ k = "tuple" → kitB k T = some (k == T || (k == "bool" && T == "int"))) (hN : T ≠ "NoneType") : C1 K (fun x H Q => rIsi K [x, .ty T] H Q) (oIsi T) := by
  intro fo H x d Qd Q dx o k
  have go : ∀ kd b, kindD d = some kd → (kd == T || (kd == "bool" && T == "int")) = b → (kd = "NoneType" ∨ kd = "bool" ∨ kd = "int" ∨ kd = "str" ∨ kd = "list" ∨ kd = "tuple") → Qd (.d (.bl b)) → rIsi K [x, .ty T] H Q := fun kd b e1 e2 e3 q =>
    ⟨x, .ty T, _, .type T, b, rfl, .ty T, tyx_of dx e1, kit_ty (by rw [hT kd e3, e2]), k _ _ _ q (newv_scal fun _ => .bl _)⟩
  have sw : ∀ a : String, (a == T) = (T == a) := fun a => by
    by_cases z : a = T
    · subst z; rfl
    · rw [beq_eq_false_iff_ne.mpr z, beq_eq_false_iff_ne.mpr (Ne.symm z)]
  cases d with
  | non => exact go _ false rfl (by rw [beq_eq_false_iff_ne.mpr (Ne.symm hN)]; rfl) (.inl rfl) o
  | bl b => exact go _ _ rfl (by rw [sw]; rfl) (.inr (.inl rfl)) o
  | int i => exact go _ _ rfl (by rw [sw]; simp) (.inr (.inr (.inl rfl))) o
  | str l => exact go _ _ rfl (by rw [sw]; simp) (.inr (.inr (.inr (.inl rfl)))) o
  | lst ds => exact go _ _ rfl (by rw [sw]; simp) (.inr (.inr (.inr (.inr (.inl rfl))))) o
  | tup ds => exact go _ _ rfl (by rw [sw]; simp) (.inr (.inr (.inr (.inr (.inr rfl))))) o
  | _ => exact o.elim
theorem kt_str : ∀ k, k = "NoneType" ∨ k = "bool" ∨ k = "int" ∨ k = "str" ∨ k = "list" ∨ k = "tuple" → kitB k "str" = some (k == "str" || (k == "bool" && "str" == "int")) := by
  rintro k (rfl | rfl | rfl | rfl | rfl | rfl) <;> decide +kernel
theorem kt_bool : ∀ k, k = "NoneType" ∨ k = "bool" ∨ k = "int" ∨ k = "str" ∨ k = "list" ∨ k = "tuple" → kitB k "bool" = some (k == "bool" || (k == "bool" && "bool" == "int")) := by
  rintro k (rfl | rfl | rfl | rfl | rfl | rfl) <;> decide +kernel
theorem kt_int : ∀ k, k = "NoneType" ∨ k = "bool" ∨ k = "int" ∨ k = "str" ∨ k = "list" ∨ k = "tuple" → kitB k "int" = some (k == "int" || (k == "bool" && "int" == "int")) := by
  rintro k (rfl | rfl | rfl | rfl | rfl | rfl) <;> decide +kernel
theorem kt_list : ∀ k, k = "NoneType" ∨ k = "bool" ∨ k = "int" ∨ k = "str" ∨ k = "list" ∨ k = "tuple" → kitB k "list" = some (k == "list" || (k == "bool" && "list" == "int")) := by
  rintro k (rfl | rfl | rfl | rfl | rfl | rfl) <;> decide +kernel
theorem kt_tuple : ∀ k, k = "NoneType" ∨ k = "bool" ∨ k = "int" ∨ k = "str" ∨ k = "list" ∨ k = "tuple" → kitB k "tuple" = some (k == "tuple" || (k == "bool" && "tuple" == "int")) := by
  rintro k (rfl | rfl | rfl | rfl | rfl | rfl) <;> decide +kernel
theorem ci_str : C1 K (fun x H Q => rIsi K [x, .ty "str"] H Q) (oIsi "str") := c_isi kt_str (by decide)
theorem ci_bool : C1 K (fun x H Q => rIsi K [x, .ty "bool"] H Q) (oIsi "bool") := c_isi kt_bool (by decide)
theorem ci_int : C1 K (fun x H Q => rIsi K [x, .ty "int"] H Q) (oIsi "int") := c_isi kt_int (by decide)
theorem ci_list : C1 K (fun x H Q => rIsi K [x, .ty "list"] H Q) (oIsi "list") := c_isi kt_list (by decide)
theorem ci_tuple : C1 K (fun x H Q => rIsi K [x, .ty "tuple"] H Q) (oIsi "tuple") := c_isi kt_tuple (by decide)
theorem ed_isi {X : Cx} {e : Expr} {c : V} {r : List V → Hp → VK → Prop} {o : O1} {t : DE T} (h : PE X e (tCB r (tCons (toTE K W Wd t) (tCons (tC c) tNil)))) (cc : C1 K (fun x H Q => r [x, c] H Q) o) : PE X e (toTE K W Wd (dU o t)) :=
  pe_imp h fun σ H Q q => du_ok cc q
/-! all, any, sum -/
def blsD : List D → Option (List Bool)
  | [] => some []
  | .bl b :: r => (blsD r).map (b :: ·)
  | _ :: _ => none
def intsD : List D → Option (List Int)
  | [] => some []
  | .int b :: r => (intsD r).map (b :: ·)
  | _ :: _ => none
def strsD : List D → Option (List (List Nat))
  | [] => some []
  | .str b :: r => (strsD r).map (b :: ·)
  | _ :: _ => none
theorem bls_of : ∀ {ds : List D} {bs : List Bool} {vs : List V}, blsD ds = some bs → FzA K fo H vs ds → vs = bs.map V.bl
  | [], bs, vs, h, f => by cases h; cases f; rfl
  | .bl b :: r, bs, vs, h, f => by
    cases f with
    | cons f1 f2 =>
      cases f1
      simp only [blsD, Option.map_eq_some_iff] at h
      obtain ⟨x, h1, rfl⟩ := h
      rw [bls_of h1 f2]; rfl
  | .non :: _, _, _, h, _ => by cases h
  | .int _ :: _, _, _, h, _ => by cases h
  | .str _ :: _, _, _, h, _ => by cases h
  | .tup _ :: _, _, _, h, _ => by cases h
  | .lst _ :: _, _, _, h, _ => by cases h
  | .fn _ :: _, _, _, h, _ => by cases h
  | .obj _ _ _ :: _, _, _, h, _ => by cases h
theorem ints_of : ∀ {ds : List D} {bs : List Int} {vs : List V}, intsD ds = some bs → FzA K fo H vs ds → vs = bs.map V.int
  | [], bs, vs, h, f => by cases h; cases f; rfl
  | .int b :: r, bs, vs, h, f => by
    cases f with
    | cons f1 f2 =>
      cases f1
      simp only [intsD, Option.map_eq_some_iff] at h
      obtain ⟨x, h1, rfl⟩ := h
      rw [ints_of h1 f2]; rfl
  | .non :: _, _, _, h, _ => by cases h
  | .bl _ :: _, _, _, h, _ => by cases h
  | .str _ :: _, _, _, h, _ => by cases h
  | .tup _ :: _, _, _, h, _ => by cases h
  | .lst _ :: _, _, _, h, _ => by cases h
  | .fn _ :: _, _, _, h, _ => by cases h
  | .obj _ _ _ :: _, _, _, h, _ => by cases h
theorem strs_of : ∀ {ds : List D} {bs : List (List Nat)} {vs : List V}, strsD ds = some bs → FzA K fo H vs ds → vs = (bs.map tx).map V.str
  | [], bs, vs, h, f => by cases h; cases f; rfl
  | .str b :: r, bs, vs, h, f => by
    cases f with
    | cons f1 f2 =>
      cases f1
      simp only [strsD, Option.map_eq_some_iff] at h
      obtain ⟨x, h1, rfl⟩ := h
      rw [strs_of h1 f2]; rfl
  | .non :: _, _, _, h, _ => by cases h
  | .bl _ :: _, _, _, h, _ => by cases h
  | .int _ :: _, _, _, h, _ => by cases h
  | .tup _ :: _, _, _, h, _ => by cases h
  | .lst _ :: _, _, _, h, _ => by cases h
  | .fn _ :: _, _, _, h, _ => by cases h
  | .obj _ _ _ :: _, _, _, h, _ => by cases h
theorem blsD_map : ∀ l : List Bool, blsD (l.map D.bl) = some l
  | [] => rfl
  | b :: l => by simp [blsD, blsD_map l]
theorem intsD_map : ∀ l : List Int, intsD (l.map D.int) = some l
  | [] => rfl
  | b :: l => by simp [intsD, intsD_map l]
theorem strsD_map : ∀ l : List (List Nat), strsD (l.map D.str) = some l
  | [] => rfl
  | b :: l => by simp [strsD, strsD_map l]
def oAll : O1 := fun d Q => match d with
  | .lst ds => (match blsD ds with | some bs => Q (.d (.bl (bs.all id))) | none => False)
  | _ => False
def oAny : O1 := fun d Q => match d with
  | .lst ds => (match blsD ds with | some bs => Q (.d (.bl (bs.any id))) | none => False)
  | _ => False
def oSum : O1 := fun d Q => match d with
  | .lst ds => (match intsD ds with | some bs => Q (.d (.int bs.sum)) | none => False)
  | _ => False
theorem c_all : C1 K (fun x H Q => rAll K [x] H Q) oAll := by
  intro fo H x d Qd Q dx o k
  cases d with
  | lst ds =>
    obtain ⟨a, vs, rfl, h1, f⟩ := dx.lst
    simp only [oAll] at o
    split at o
    · rename_i bs e
      have := bls_of e f
      subst this
      exact ⟨a, bs, rfl, .inl h1, k _ _ _ o (newv_scal fun _ => .bl _)⟩
    · exact o.elim
  | _ => exact o.elim
theorem c_any : C1 K (fun x H Q => rAny K [x] H Q) oAny := by
  intro fo H x d Qd Q dx o k
  cases d with
  | lst ds =>
    obtain ⟨a, vs, rfl, h1, f⟩ := dx.lst
    simp only [oAny] at o
    split at o
    · rename_i bs e
      have := bls_of e f
      subst this
      exact ⟨a, bs, rfl, .inl h1, k _ _ _ o (newv_scal fun _ => .bl _)⟩
    · exact o.elim
  | _ => exact o.elim
theorem c_sum : C1 K (fun x H Q => rSum K [x] H Q) oSum := by
  intro fo H x d Qd Q dx o k
  cases d with
  | lst ds =>
    obtain ⟨a, vs, rfl, h1, f⟩ := dx.lst
    simp only [oSum] at o
    split at o
    · rename_i bs e
      have := ints_of e f
      subst this
      exact ⟨a, bs, rfl, .inl h1, k _ _ _ o (newv_scal fun _ => .int _)⟩
    · exact o.elim
  | _ => exact o.elim
/-! str, int, abs, bool, tuple, list -/
def oStr : O1 := fun d Q => match d with
  | .int i => i.natAbs < 10 ^ 4300 ∧ Q (.d (.str (M53.itxt i)))
  | .str l => Q (.d (.str l))
  | _ => False
theorem c_str : C1 K (fun x H Q => rStr [x] H Q) oStr := by
  intro fo H x d Qd Q dx o k
  cases d with
  | int i => cases dx.int; exact .inl ⟨i, rfl, o.1, by rw [M53.tx_int]; exact k _ _ _ o.2 (newv_scal fun _ => .str _)⟩
  | str l => cases dx.str; exact .inr (.inr ⟨_, rfl, k _ _ _ o (newv_scal fun _ => .str _)⟩)
  | _ => exact o.elim
def oInt : O1 := fun d Q => match d with
  | .int i => Q (.d (.int i))
  | .bl b => Q (.d (.int (if b then 1 else 0)))
  | .str l => ∃ n, PySem.intText? (tx l) = some n ∧ l.length ≤ 4300 ∧ Q (.d (.int n))
  | _ => False
theorem c_int : C1 K (fun x H Q => rInt [x] H Q) oInt := by
  intro fo H x d Qd Q dx o k
  cases d with
  | int i => cases dx.int; exact .inl ⟨i, rfl, k _ _ _ o (newv_scal fun _ => .int _)⟩
  | bl b => cases dx.bl; exact .inr (.inl ⟨b, rfl, k _ _ _ o (newv_scal fun _ => .int _)⟩)
  | str l =>
    cases dx.str
    obtain ⟨n, h1, h2, q⟩ := o
    exact .inr (.inr ⟨_, n, rfl, h1, by rw [tx_len]; exact h2, k _ _ _ q (newv_scal fun _ => .int _)⟩)
  | _ => exact o.elim
def oAbs : O1 := fun d Q => match d with
  | .int i => Q (.d (.int (if i < 0 then -i else i)))
  | _ => False
theorem c_abs : C1 K (fun x H Q => rAbs [x] H Q) oAbs := by
  intro fo H x d Qd Q dx o k
  cases d with
  | int i => cases dx.int; exact ⟨i, rfl, k _ _ _ o (newv_scal fun _ => .int _)⟩
  | _ => exact o.elim
def oTuple : O1 := fun d Q => match d with
  | .lst ds => Q (.d (.tup ds))
  | .tup ds => Q (.d (.tup ds))
  | _ => False
theorem c_tuple : C1 K (fun x H Q => rTupleU K [x] H Q) oTuple := by
  intro fo H x d Qd Q dx o k
  cases d with
  | lst ds =>
    obtain ⟨a, vs, rfl, h1, f⟩ := dx.lst
    exact ⟨a, vs, rfl, .inl ⟨.inl h1, fun l hl => k _ _ _ o (newv_tup hl f)⟩⟩
  | tup ds =>
    obtain ⟨a, vs, rfl, h1, f⟩ := dx.tup
    exact ⟨a, vs, rfl, .inr ⟨h1, k _ _ _ o ⟨Evl.Ex.refl _, .tup h1 f⟩⟩⟩
  | _ => exact o.elim
def oList : O1 := fun d Q => match d with
  | .lst ds => Q (.new ds)
  | .tup ds => Q (.new ds)
  | _ => False
theorem c_list : C1 K (fun x H Q => rListU K [x] H Q) oList := by
  intro fo H x d Qd Q dx o k
  cases d with
  | lst ds =>
    obtain ⟨a, vs, rfl, h1, f⟩ := dx.lst
    exact ⟨a, vs, rfl, .inl (.inl h1), fun l hl => k _ _ _ o (newv_lst hl f)⟩
  | tup ds =>
    obtain ⟨a, vs, rfl, h1, f⟩ := dx.tup
    exact ⟨a, vs, rfl, .inr h1, fun l hl => k _ _ _ o (newv_lst hl f)⟩
  | _ => exact o.elim
def oNeg : O1 := fun d Q => match d with
  | .int i => Q (.d (.int (-i)))
  | _ => False
theorem c_neg : C1 K (rU fun i => .int (-i)) oNeg := by
  intro fo H x d Qd Q dx o k
  cases d with
  | int i => cases dx.int; exact ⟨i, rfl, k _ _ _ o (newv_scal fun _ => .int _)⟩
  | _ => exact o.elim
/-! is None -/
def isN : D → Bool | .non => true | _ => false
def oIsN : O1 := fun d Q => Q (.d (.bl (isN d)))
def oNotN : O1 := fun d Q => Q (.d (.bl (!isN d)))
theorem dv_non {d : D} (h : Dv K fo H v d) : decide (v = .non) = isN d := by
  cases d with
  | non => cases h.non; rfl
  | bl _ => cases h.bl; rfl
  | int _ => cases h.int; rfl
  | str _ => cases h.str; rfl
  | tup _ => obtain ⟨a, vs, rfl, _⟩ := h.tup; rfl
  | lst _ => obtain ⟨a, vs, rfl, _⟩ := h.lst; rfl
  | fn _ =>
    rcases h with h | ⟨_, _, _, _, z, _⟩
    · cases h; rfl
    · cases z
  | obj _ _ _ =>
    rcases h with h | ⟨_, _, _, _, z, _⟩
    · cases h; rfl
    · cases z
theorem ed_isN {X : Cx} {e : Expr} {t : DE T} (h : PE X e (tIsN (toTE K W Wd t))) : PE X e (toTE K W Wd (dU oIsN t)) :=
  pe_imp h fun σ H Q q => du_ok (r := fun x H Q => Q (.bl (decide (x = .non))) H) (fun fo H x d Qd Q dx o k => by dsimp only; rw [dv_non dx]; exact k _ _ _ o (newv_scal fun _ => .bl _)) q
theorem ed_notN {X : Cx} {e : Expr} {t : DE T} (h : PE X e (tNotN (toTE K W Wd t))) : PE X e (toTE K W Wd (dU oNotN t)) :=
  pe_imp h fun σ H Q q => du_ok (r := fun x H Q => Q (.bl (!decide (x = .non))) H) (fun fo H x d Qd Q dx o k => by dsimp only; rw [dv_non dx]; exact k _ _ _ o (newv_scal fun _ => .bl _)) q
/-- any value that is a bool, as a test -/
theorem td_of {X : Cx} {e : Expr} {t : DE T} {t' : TE} (h : PT X e (tB t')) (w : ∀ σ H Q, toTE K W Wd t σ H Q → t' σ H Q) : PT X e (toTT K W Wd (dB t)) := pt_imp h fun _ _ _ q => w _ _ _ (db_ok q)
theorem isN_ok {t : DE T} {Q : VK} (q : toTE K W Wd (dU oIsN t) σ H Q) : tIsN (toTE K W Wd t) σ H Q := du_ok (r := fun x H Q => Q (.bl (decide (x = .non))) H) (fun fo H x d Qd Q dx o k => by dsimp only; rw [dv_non dx]; exact k _ _ _ o (newv_scal fun _ => .bl _)) q
theorem notN_ok {t : DE T} {Q : VK} (q : toTE K W Wd (dU oNotN t) σ H Q) : tNotN (toTE K W Wd t) σ H Q := du_ok (r := fun x H Q => Q (.bl (!decide (x = .non))) H) (fun fo H x d Qd Q dx o k => by dsimp only; rw [dv_non dx]; exact k _ _ _ o (newv_scal fun _ => .bl _)) q
/-! texts -/
def oJoin : O2 := fun d e Q => match d, e with
  | .str a, .lst es => (match strsD es with | some ls => (ls.map (·.length)).sum + ls.length * a.length ≤ 16777216 ∧ Q (.d (.str (TL.joinL a ls))) | none => False)
  | .str a, .tup es => (match strsD es with | some ls => (ls.map (·.length)).sum + ls.length * a.length ≤ 16777216 ∧ Q (.d (.str (TL.joinL a ls))) | none => False)
  | _, _ => False
theorem join_tx (a : List Nat) (ls : List (List Nat)) : Txt.join (tx a) (ls.map tx) = tx (TL.joinL a ls) := by
  refine TL.ext_tl ?_
  rw [TL.join_eq, TL.tl_join]
  show TL.joinL (tx a).cps.toList ((ls.map tx).map fun s => s.cps.toList) = (tx _).cps.toList
  rw [tx_list, tx_list, List.map_map]
  congr 1
  exact (List.map_congr_left fun x _ => tx_list x).trans (List.map_id _)
theorem c_join : C2 K (fun x y H Q => rJoin K x [y] H Q) oJoin := by
  intro fo H x y d e Qd Q dx dy o k
  have lens : ∀ ls : List (List Nat), ((ls.map tx).map (·.length)) = ls.map (·.length) := fun ls => by
    rw [List.map_map]
    exact List.map_congr_left fun z _ => tx_len z
  unfold oJoin at o
  split at o
  · rename_i a es
    split at o
    · rename_i ls e1
      cases dx.str
      obtain ⟨p, vs, rfl, h1, f⟩ := dy.lst
      have := strs_of e1 f
      subst this
      exact ⟨_, p, _, rfl, rfl, .inl (.inl h1), by rw [lens, List.length_map, tx_len]; exact o.1, by rw [join_tx]; exact k _ _ _ o.2 (newv_scal fun _ => .str _)⟩
    · exact o.elim
  · rename_i a es
    split at o
    · rename_i ls e1
      cases dx.str
      obtain ⟨p, vs, rfl, h1, f⟩ := dy.tup
      have := strs_of e1 f
      subst this
      exact ⟨_, p, _, rfl, rfl, .inr h1, by rw [lens, List.length_map, tx_len]; exact o.1, by rw [join_tx]; exact k _ _ _ o.2 (newv_scal fun _ => .str _)⟩
    · exact o.elim
  · exact o.elim
def oSplit : O2 := fun d e Q => match d, e with
  | .str a, .str b => (b ≠ [] ∧ (b.all fun c => decide (c < 256)) = true ∧ a.length + 2 ≤ sizeLine) ∧ Q (.new ((TL.spl b 0 [] a).map .str))
  | _, _ => False
theorem split_tx (a b : List Nat) (hb : b ≠ []) (hk : (b.all fun c => decide (c < 256)) = true) : Txt.split (tx a) (tx b) = (TL.spl b 0 [] a).map tx := by
  refine TL.map_tl_inj ?_
  rw [TL.split_spl _ _ (by show (tx b).cps.toList ≠ []; rw [tx_list]; exact hb) (TL.kind_ok (by
    show (tx b).cps.all (· < 256) = true
    rw [← Array.all_toList, tx_list]
    exact hk))]
  show TL.spl (tx b).cps.toList 0 [] (tx a).cps.toList = _
  rw [tx_list, tx_list, List.map_map]
  exact ((List.map_congr_left fun x _ => tx_list x).trans (List.map_id _)).symm
theorem c_split : C2 K (fun x y H Q => (∃ a b, x = .str a ∧ [y] = [.str b] ∧ (b.length == 0) = false ∧ a.length + 2 ≤ sizeLine ∧ rNewStrs (Txt.split a b) H Q)) oSplit := by
  intro fo H x y d e Qd Q dx dy o k
  unfold oSplit at o
  split at o
  · rename_i a b
    obtain ⟨⟨h1, h2, h3⟩, q⟩ := o
    cases dx.str; cases dy.str
    refine ⟨_, _, rfl, rfl, ?_, by rw [tx_len]; exact h3, ?_⟩
    · rw [tx_len]
      exact beq_eq_false_iff_ne.mpr fun z => h1 (List.length_eq_zero_iff.mp z)
    · intro p hp
      rw [split_tx a b h1 h2]
      refine k _ _ _ q (newv_lst hp ?_)
      rw [List.map_map]
      exact fza_map _ _ _ fun z _ => .str z
  · exact o.elim
def partD (a b : List Nat) : D := match TL.par b [] a with
  | some (x, y) => .tup [.str x, .str b, .str y]
  | none => .tup [.str a, .str [], .str []]
def oPart : O2 := fun d e Q => match d, e with
  | .str a, .str b => (b ≠ [] ∧ a.length ≤ sizeLine) ∧ Q (.d (partD a b))
  | _, _ => False
theorem c_part : C2 K (fun x y H Q => (∃ a b, x = .str a ∧ [y] = [.str b] ∧ (b.length == 0) = false ∧ a.length ≤ sizeLine ∧
    ∀ p, H p = none → Q (.ref p) (upd H p (.tup [.str (Txt.partition a b).1, .str (Txt.partition a b).2.1, .str (Txt.partition a b).2.2])))) oPart := by
  intro fo H x y d e Qd Q dx dy o k
  unfold oPart at o
  split at o
  · rename_i a b
    obtain ⟨⟨h1, h3⟩, q⟩ := o
    cases dx.str; cases dy.str
    refine ⟨_, _, rfl, rfl, ?_, by rw [tx_len]; exact h3, fun p hp => ?_⟩
    · rw [tx_len]
      exact beq_eq_false_iff_ne.mpr fun z => h1 (List.length_eq_zero_iff.mp z)
    · have e1 := TL.partition_par (tx a) (tx b) (by show (tx b).cps.toList ≠ []; rw [tx_list]; exact h1)
      have e2 : TL.par (TL.tl (tx b)) [] (TL.tl (tx a)) = TL.par b [] a := by
        show TL.par (tx b).cps.toList [] (tx a).cps.toList = _
        rw [tx_list, tx_list]
      rw [e2] at e1
      unfold partD at q
      cases z : TL.par b [] a with
      | none =>
        rw [z] at q e1
        rw [e1]
        exact k _ _ _ q (newv_tup hp (.cons (.str a) (.cons (.str []) (.cons (.str []) .nil))))
      | some xy =>
        obtain ⟨x, y⟩ := xy
        rw [z] at q e1
        rw [e1]
        exact k _ _ _ q (newv_tup hp (.cons (.str x) (.cons (.str b) (.cons (.str y) .nil))))
  · exact o.elim
/-! slices -/
def cutL {α : Type} (xs : List α) (lo hi : Option Int) : List α := (xs.drop (HT.sIx xs.length 0 lo)).take (HT.sIx xs.length xs.length hi - HT.sIx xs.length 0 lo)
abbrev DO (T : Type) := DX T → Env → T → (Option Int → Env → T → Prop) → Prop
def dNo : DO T := fun _ ρ τ Q => Q none ρ τ
def dSome (t : DE T) : DO T := fun xc ρ τ Q => t xc ρ τ fun rv ρ1 τ1 => withD rv ρ1 fun d => match d with
  | .int i => Q (some i) ρ1 τ1
  | _ => False
def toTO (K : PySem.W.Frag) (W : WX) (Wd : Wld T) (t : DO T) : TO := fun σ H Q => ∃ (C : Ct Wd) (ρ : Env) (τ : T) (Qd : Option Int → Env → T → Prop) (xc : DX T), Rel C K ρ τ σ H ∧ t xc ρ τ Qd ∧ XOk K W C xc ∧
  ∀ b H' ρ' τ', Qd b ρ' τ' → Rel C K ρ' τ' σ H' → Stp C ρ σ H ρ' H' → Q b H'
theorem po_imp {X : Cx} {e : Option Expr} {t1 t2 : TO} (h : PO X e t1) (w : ∀ σ H Q, t2 σ H Q → t1 σ H Q) : PO X e t2 := by
  obtain ⟨r⟩ := h
  exact ⟨fun pins s σ H Q I q => r pins s σ H Q I (w σ H Q q)⟩
theorem od_no {X : Cx} : PO X none (toTO K W Wd (dNo (T := T))) := po_imp po_none fun σ H Q ⟨C, ρ, τ, Qd, xc, r, q, hx, k⟩ => k _ _ _ _ q r .refl
theorem od_some {X : Cx} {e : Expr} {t : DE T} (h : PE X e (toTE K W Wd t)) : PO X (some e) (toTO K W Wd (dSome t)) := by
  refine po_imp (po_some h) fun σ H Q ⟨C, ρ, τ, Qd, xc, r, q, hx, k⟩ => ⟨C, ρ, τ, _, xc, r, q, hx, fun v H' rv ρ' τ' hq r' vr nw s => ?_⟩
  obtain ⟨d, dv, q2⟩ := vr_dv r' vr hq
  cases d with
  | int i => exact ⟨i, dv.int, k _ _ _ _ q2 r' s⟩
  | _ => exact q2.elim
def rSlD (K : PySem.W.Frag) : V → Option Int → Option Int → Hp → VK → Prop := fun x lo hi H Q => rSlU K x lo hi H Q ∨ rSlA K x lo hi H Q
theorem sr_sl {X : Cx} (hK : X.K = K := by rfl) : SlR X (rSlD K) := by subst hK; exact SlR.or (w_sl (K := X.K)) sl_tupA
def dSl (t : DE T) (lo hi : DO T) : DE T := fun xc ρ τ Q => t xc ρ τ fun rv ρ1 τ1 => lo xc ρ1 τ1 fun l ρ2 τ2 => hi xc ρ2 τ2 fun u ρ3 τ3 => withD rv ρ3 fun d => match d with
  | .str a => a.length ≤ sizeLine ∧ Q (.d (.str (cutL a l u))) ρ3 τ3
  | .tup ds => Q (.d (.tup (cutL ds l u))) ρ3 τ3
  | .lst ds => Q (.new (cutL ds l u)) ρ3 τ3
  | _ => False
theorem cutV_eq (vs : List V) (lo hi : Option Int) : cutV vs lo hi = cutL vs lo hi := rfl
theorem fza_cut {ds : List D} {vs : List V} (lo hi : Option Int) (f : FzA K fo H vs ds) : FzA K fo H (cutL vs lo hi) (cutL ds lo hi) := by
  unfold cutL
  rw [fza_len f]
  exact fza_take _ (fza_drop _ f)
theorem cut_whole {α : Type} (xs : List α) (lo hi : Option Int) (h : HT.sIx xs.length 0 lo = 0 ∧ HT.sIx xs.length xs.length hi = xs.length) : cutL xs lo hi = xs := by
  unfold cutL
  rw [h.1, h.2]
  simp
theorem ed_sl {X : Cx} {e : Expr} {t : DE T} {lo hi : DO T} (h : PE X e (tSl (rSlD K) (toTE K W Wd t) (toTO K W Wd lo) (toTO K W Wd hi))) : PE X e (toTE K W Wd (dSl t lo hi)) := by
  refine pe_imp h fun σ H Q ⟨C, ρ, τ, Qd, xc, r, q, hx, k⟩ => ⟨C, ρ, τ, _, xc, r, q, hx, fun v H1 rv ρ1 τ1 q1 r1 vr1 nw1 s1 => ⟨C, ρ1, τ1, _, xc, r1, q1, hx, fun l H2 ρ2 τ2 q2 r2 s2 => ⟨C, ρ2, τ2, _, xc, r2, q2, hx, fun u H3 ρ3 τ3 q3 r3 s3 => ?_⟩⟩⟩
  have s123 := (s1.trans s2).trans s3
  obtain ⟨d, dv, q4⟩ := vr_dv r3 (vr1.stp (s2.trans s3)) q3
  have fin : ∀ {v' : V} {H' : Hp} {rv' : RV}, Qd rv' ρ3 τ3 → NewV K C.fo H3 H' v' rv' → Q v' H' := fun {v' H' rv'} hq nv => by
    obtain ⟨r4, vr4, nw4, e4⟩ := newv_ok r3 nv
    exact k _ _ _ _ _ hq r4 vr4 (nw4.stp s123) (s123.trans (.ex e4))
  cases d with
  | str a =>
    cases dv.str
    exact .inl (q_slS q4.1 (fin q4.2 (newv_scal fun _ => .str _)))
  | tup ds =>
    obtain ⟨a, vs, rfl, h1, f⟩ := dv.tup
    refine .inr ⟨a, vs, rfl, h1, fun hw => ?_, fun _ p hp => ?_⟩
    · rw [fza_len f] at hw
      have q5 : Qd (RV.d (D.tup (cutL ds l u))) ρ3 τ3 := q4
      rw [cut_whole ds l u hw] at q5
      exact fin q5 ⟨Evl.Ex.refl _, .tup h1 f⟩
    · rw [cutV_eq]
      exact fin q4 (newv_tup hp (fza_cut l u f))
  | lst ds =>
    obtain ⟨a, vs, rfl, h1, f⟩ := dv.lst
    exact .inl (.inr ⟨a, vs, rfl, .inl h1, fun p hp => by rw [cutV_eq]; exact fin q4 (newv_lst hp (fza_cut l u f))⟩)
  | _ => exact q4.elim
end
end KD

/-! names of the module, two stores at once, try -/
namespace KD
open PySem PySem.Spec PyProof.Rows L2 KX KM
/-- a name of the module that is data -/
def GlobD (K : PySem.W.Frag) (mg : Str → Option Value) (x : Str) (d : D) : Prop := ∃ u v, mg x = some u ∧ RelV v u ∧ ∀ (fo : Addr → Prop) (H : Hp), Fz K fo H v d
section
variable {T : Type} {Wd : Wld T} {C : Ct Wd} {K : PySem.W.Frag} {fo : Addr → Prop} {ρ ρ' : Env} {τ τ' : T} {σ : L2.St} {H H' : Hp} {v : V} {W : WX}
theorem ed_glob {X : Cx} {x : Str} {d : D} {pos : Pos} (hm : GlobD K X.mg x d) (hg : Gl X x := by rfl) (hd : (x == ("__debug__" : Str)) = false := by decide) : PE X (.Name x pos) (toTE K W Wd (dC (T := T) d)) := by
  obtain ⟨u, v, h1, h2, h3⟩ := hm
  exact ed_c (pe_glob hg h1 h2 hd) h3
/-- a def as a value -/
theorem ed_fn {X : Cx} {x : Str} {f : Addr} {pos : Pos} (hm : X.mg x = some (.ref f)) (hg : Gl X x := by rfl) (hd : (x == ("__debug__" : Str)) = false := by decide) : PE X (.Name x pos) (toTE K W Wd (dC (T := T) (.fn f))) :=
  ed_c (pe_glob (v := .ref f) hg hm rfl hd) fun _ _ => .fn f
def dD (t : DF T) : DE T := fun xc ρ τ Q => t xc ρ τ fun d ρ1 τ1 => Q (.d d) ρ1 τ1
theorem ed_d {X : Cx} {e : Expr} {t : DF T} (h : PE X e (toTF K W Wd t)) : PE X e (toTE K W Wd (dD t)) :=
  pe_imp h fun σ H Q ⟨C, ρ, τ, Qd, xc, r, q, hx, k⟩ => ⟨C, ρ, τ, _, xc, r, q, hx, fun v H' d ρ' τ' hq r' f s => k _ _ _ _ _ hq r' f trivial s⟩
theorem w_sum {X : Cx} (hc : X.calm = true) (hK : X.K = K := by rfl) : CallR X (.builtin "sum") (rSum K) := by subst hK; exact cr_sum hc
/-- a, b = x, y -/
def stRV (i : Nat) (rv : RV) (ρ : Env) : Option Env := match rv with
  | .d d => some (ρ.set i (some (.d d)))
  | .new ds => some (ρ.set i (some (.own ds)))
  | .var _ => none
def sPar (i j : Nat) (ta tb : DE T) : DS T := fun xc D ρ τ => ta xc ρ τ fun r1 ρ1 τ1 => tb xc ρ1 τ1 fun r2 ρ2 τ2 => match stRV i r1 ρ2 with
  | some ρ3 => (match stRV j r2 ρ3 with | some ρ4 => D.nx ρ4 τ2 | none => False)
  | none => False
theorem put_rv {i : Nat} {rv : RV} {ρ2 : Env} (r : Rel C K ρ τ σ H) (h : VR C K ρ σ H v rv) (e : stRV i rv ρ = some ρ2) : Rel C K ρ2 τ (σ.set i (some v)) H := by
  cases rv with
  | d d => cases e; exact r.put h
  | new ds =>
    cases e
    obtain ⟨a, vs, rfl, h0, h1, f, no⟩ := h
    exact r.putN h0 h1 f no
  | var j => cases e
theorem spar_ok {i j : Nat} {ta tb : DE T} {D : Ends} (h : toTS K W Wd (sPar i j ta tb) D σ H) : tPar i j (tCons (toTE K W Wd ta) (tCons (toTE K W Wd tb) tNil)) D σ H := by
  obtain ⟨C, ρ, τ, Dd, xc, r, q, hx, k, kr⟩ := h
  refine ⟨C, ρ, τ, _, xc, r, q, hx, fun v1 H1 rv1 ρ1 τ1 q1 r1 vr1 nw1 s1 => ⟨C, ρ1, τ1, _, xc, r1, q1, hx, fun v2 H2 rv2 ρ2 τ2 q2 r2 vr2 nw2 s2 => ⟨v1, v2, rfl, ?_⟩⟩⟩
  have vr1' := vr1.stp s2
  split at q2
  · rename_i ρ3 e3
    have r3 := put_rv (i := i) r2 vr1' e3
    split at q2
    · rename_i ρ4 e4
      refine (k _ _ _ _ (put_rv (i := j) r3 ?_ e4)).1 q2
      -- the second value over the slots behind the first store
      cases rv2 with
      | d d => exact vr2
      | var _ => cases e4
      | new ds =>
        obtain ⟨a, vs, rfl, h0, h1, f, no⟩ := vr2
        refine ⟨a, vs, rfl, h0, h1, f, fun m hm z => ?_⟩
        obtain ⟨a', ea, n0⟩ := nw2
        cases ea
        by_cases hi : m = i
        · subst hi
          rcases set_get z with ⟨_, _, z2⟩ | ⟨ne, _⟩
          · cases z2
            -- the first value stood already
            cases rv1 with
            | d d =>
              cases e3
              obtain ⟨es, hm⟩ := hm
              rcases set_get hm with ⟨_, _, z3⟩ | ⟨ne, _⟩
              · cases z3
              · exact ne rfl
            | new es =>
              obtain ⟨b, ws, eb, _, hb, _⟩ := vr1
              cases eb
              rw [n0] at hb
              cases hb
            | var _ => cases e3
          · exact ne rfl
        · rw [List.getElem?_set_ne (Ne.symm hi)] at z
          refine no m ?_ z
          obtain ⟨es, hm⟩ := hm
          cases rv1 with
          | d d =>
            cases e3
            rw [List.getElem?_set_ne (Ne.symm hi)] at hm
            exact ⟨es, hm⟩
          | new _ =>
            cases e3
            rw [List.getElem?_set_ne (Ne.symm hi)] at hm
            exact ⟨es, hm⟩
          | var _ => cases e3
    · exact q2.elim
  · exact q2.elim
theorem sd_par {X : Cx} {i j : Nat} {st : Stmt} {ta tb : DE T} (h : PS X st (tPar i j (tCons (toTE K W Wd ta) (tCons (toTE K W Wd tb) tNil)))) : PS X st (toTS K W Wd (sPar i j ta tb)) := ps_imp h fun _ _ _ q => spar_ok q
/-- a, b, c = x, y, z -/
def sPar3 (i j l : Nat) (ta tb tc : DE T) : DS T := fun xc D ρ τ => ta xc ρ τ fun r1 ρ1 τ1 => tb xc ρ1 τ1 fun r2 ρ2 τ2 => tc xc ρ2 τ2 fun r3 ρ3 τ3 => match stRV i r1 ρ3 with
  | some ρ4 => (match stRV j r2 ρ4 with | some ρ5 => (match stRV l r3 ρ5 with | some ρ6 => D.nx ρ6 τ3 | none => False) | none => False)
  | none => False
/-- a value that came later stands over a slot that was stored -/
theorem vr_over {i : Nat} {rv rw : RV} {ρ2 : Env} {v w : V} {H1 : Hp} (hv : VR C K ρ σ H v rv) (e : stRV i rv ρ = some ρ2) (hw : VR C K ρ σ H w rw) (old : ∀ ds a, rv = .new ds → v = .ref a → H1 a ≠ none) (nw : NewAt H1 w rw) (nv : ∀ j, rw ≠ .var j) : VR C K ρ2 (σ.set i (some v)) H w rw := by
  cases rw with
  | d d => exact hw
  | var j => exact absurd rfl (nv j)
  | new ds =>
    obtain ⟨a, vs, rfl, h0, h1, f, no⟩ := hw
    refine ⟨a, vs, rfl, h0, h1, f, fun m hm z => ?_⟩
    obtain ⟨a', ea, n0⟩ := nw
    cases ea
    by_cases hi : m = i
    · subst hi
      rcases set_get z with ⟨_, _, z2⟩ | ⟨ne, _⟩
      · cases z2
        cases rv with
        | d d =>
          cases e
          obtain ⟨es, hm⟩ := hm
          rcases set_get hm with ⟨_, _, z3⟩ | ⟨ne, _⟩
          · cases z3
          · exact ne rfl
        | new es => exact old es a rfl rfl n0
        | var _ => cases e
      · exact ne rfl
    · rw [List.getElem?_set_ne (Ne.symm hi)] at z
      refine no m ?_ z
      obtain ⟨es, hm⟩ := hm
      cases rv with
      | d d => cases e; rw [List.getElem?_set_ne (Ne.symm hi)] at hm; exact ⟨es, hm⟩
      | new _ => cases e; rw [List.getElem?_set_ne (Ne.symm hi)] at hm; exact ⟨es, hm⟩
      | var _ => cases e
theorem stRV_nv {i : Nat} {rv : RV} {ρ ρ2 : Env} (e : stRV i rv ρ = some ρ2) : ∀ j, rv ≠ .var j := fun j z => by subst z; cases e
theorem vr_there {ds : List D} {a : Addr} {rv : RV} (h : VR C K ρ σ H v rv) (e1 : rv = .new ds) (e2 : v = .ref a) : H a ≠ none := by
  subst e1 e2
  obtain ⟨b, vs, eb, _, hb, _⟩ := h
  cases eb
  rw [hb]
  simp
theorem spar3_ok {i j l : Nat} {ta tb tc : DE T} {D : Ends} (h : toTS K W Wd (sPar3 i j l ta tb tc) D σ H) : tPar3 i j l (tCons (toTE K W Wd ta) (tCons (toTE K W Wd tb) (tCons (toTE K W Wd tc) tNil))) D σ H := by
  obtain ⟨C, ρ, τ, Dd, xc, r, q, hx, k, kr⟩ := h
  refine ⟨C, ρ, τ, _, xc, r, q, hx, fun v1 H1 rv1 ρ1 τ1 q1 r1 vr1 nw1 s1 => ⟨C, ρ1, τ1, _, xc, r1, q1, hx, fun v2 H2 rv2 ρ2 τ2 q2 r2 vr2 nw2 s2 => ⟨C, ρ2, τ2, _, xc, r2, q2, hx, fun v3 H3 rv3 ρ3 τ3 q3 r3 vr3 nw3 s3 => ⟨v1, v2, v3, rfl, ?_⟩⟩⟩⟩
  have x1 := vr1.stp (s2.trans s3)
  have x2 := vr2.stp s3
  split at q3
  · rename_i ρ4 e4
    split at q3
    · rename_i ρ5 e5
      split at q3
      · rename_i ρ6 e6
        have y2 := vr_over x1 e4 x2 (fun ds a z1 z2 => vr_there vr1 z1 z2) nw2 (stRV_nv e5)
        have y3 := vr_over x1 e4 vr3 (fun ds a z1 z2 n => vr_there vr1 z1 z2 (s2.dm a n)) nw3 (stRV_nv e6)
        have y4 := vr_over y2 e5 y3 (fun ds a z1 z2 => vr_there vr2 z1 z2) nw3 (stRV_nv e6)
        exact (k _ _ _ _ (put_rv (put_rv (put_rv r3 x1 e4) y2 e5) y4 e6)).1 q3
      · exact q3.elim
    · exact q3.elim
  · exact q3.elim
theorem sd_par3 {X : Cx} {i j l : Nat} {st : Stmt} {ta tb tc : DE T} (h : PS X st (tPar3 i j l (tCons (toTE K W Wd ta) (tCons (toTE K W Wd tb) (tCons (toTE K W Wd tc) tNil))))) : PS X st (toTS K W Wd (sPar3 i j l ta tb tc)) := ps_imp h fun _ _ _ q => spar3_ok q
section
variable {X : Cx} {a b c : Expr} {ta tb tc : DE T} {pos : Pos} {o o' : O2} {r r' : R2}
theorem ed_chain {op op' : CmpOp} (c1 : C2 K r o) (c2 : C2 K r' o') (ho : OpR X (compareOp op) r) (ho' : OpR X (compareOp op') r') (ha : PE X a (toTE K W Wd ta)) (hb : PE X b (toTE K W Wd tb)) (hc : PE X c (toTE K W Wd tc)) (hm : lastMarks [op, op'] [b, c] = false := by with_unfolding_all rfl) :
    PE X (.Compare a [op, op'] [b, c] pos) (toTE K W Wd (dChain o o' ta tb tc)) := pe_imp (pe_chain ho ho' ha hb hc hm) fun _ _ _ h => dchain_ok c1 c2 h
theorem td_chain {op op' : CmpOp} (c1 : C2 K r o) (c2 : C2 K r' o') (ho : OpR X (compareOp op) r) (ho' : OpR X (compareOp op') r') (ha : PE X a (toTE K W Wd ta)) (hb : PE X b (toTE K W Wd tb)) (hc : PE X c (toTE K W Wd tc)) (hm : lastMarks [op, op'] [b, c] = false := by with_unfolding_all rfl) :
    PT X (.Compare a [op, op'] [b, c] pos) (toTT K W Wd (dB (dChain o o' ta tb tc))) := pt_imp (pt_chain ho ho' ha hb hc hm) fun _ _ _ h => dchain_ok c1 c2 (db_ok h)
theorem or_mul (hK : X.K = K := by rfl) : OpR X (binaryOp .Mult) rMulU := k_mul
end
theorem GlobD.of {mg : Str → Option Value} {x : Str} {v : V} {d : D} (h : ∃ u, mg x = some u ∧ RelV v u) (f : ∀ (fo : Addr → Prop) (H : Hp), Fz K fo H v d) : GlobD K mg x d := let ⟨u, a, b⟩ := h; ⟨u, v, a, b, f⟩
theorem fz_str {x : Str} {l : List Nat} (h : x = tx l) (fo : Addr → Prop) (H : Hp) : Fz K fo H (.str x) (.str l) := by subst h; exact .str l
end
end KD

/-! try -/
namespace KD
open PySem PySem.Spec PyProof.Rows L2 KX KM
section
variable {T : Type} {Wd : Wld T} {C : Ct Wd} {K : PySem.W.Frag} {fo : Addr → Prop} {ρ ρ' : Env} {τ τ' : T} {σ : L2.St} {H H' : Hp} {v : V} {W Wo : WX} {CM : Addr}
def sTry (t u : DS T) : DS T := fun xc D ρ τ => t (fun _ ρ1 τ1 => u xc D ρ1 τ1) D ρ τ
/-- what is caught is told by its class -/
theorem sd_tryN {X : Cx} {st : Stmt} {t u : DS T} (self : PySem.W.exmOne X.K (.ref CM) (.ref CM) = some true) (h : PS X st (fun D σ H => toTS K (dropW CM (wOnly X.K (.ref CM) (fun _ _ _ => toTS K W Wd u) Wo D)) Wd t D σ H)) : PS X st (toTS K W Wd (sTry t u)) :=
  ps_imp h fun D σ H ⟨C, ρ, τ, Dd, xc, r, q, hx, k, kr⟩ => ⟨C, ρ, τ, Dd, _, r, q, fun e σ1 H1 ρ1 τ1 q1 r1 => ⟨true, self, fun _ a _ => ⟨C, ρ1, τ1, Dd, xc, r1, q1, hx, k, kr⟩, fun z => nomatch z⟩, k, kr⟩
/-- the suite raises anew -/
theorem sd_tryR {X : Cx} {st : Stmt} {t u : DS T} (self : PySem.W.exmOne X.K (.ref CM) (.ref CM) = some true) (h : PS X st (fun D σ H => toTS K (dropW CM (wRe X.K (.ref CM) (toTS K W Wd u) D)) Wd t D σ H)) : PS X st (toTS K W Wd (sTry t u)) :=
  ps_imp h fun D σ H ⟨C, ρ, τ, Dd, xc, r, q, hx, k, kr⟩ => ⟨C, ρ, τ, Dd, _, r, q, fun e σ1 H1 ρ1 τ1 q1 r1 => ⟨self, ⟨C, ρ1, τ1, Dd, xc, r1, q1, hx, k, kr⟩⟩, k, kr⟩
/-- what is caught has a name; its text is told -/
def sTryA (i : Nat) (t : DS T) (u : Addr → List Nat → DS T) : DS T := fun xc D ρ τ => t (fun e ρ1 τ1 => ∀ a, u a e.2 xc { nx := fun ρ' τ' => D.nx (ρ'.set i none) τ', rt := D.rt, bk := fun ρ' τ' => D.bk (ρ'.set i none) τ', ct := fun ρ' τ' => D.ct (ρ'.set i none) τ' } (ρ1.set i (some (.d (.fn a)))) τ1) D ρ τ
theorem Rel.none1 {i : Nat} (r : Rel C K ρ τ σ H) : Rel C K (ρ.set i none) τ (σ.set i none) H := r.wipe (vs := [i])
theorem sd_tryA {X : Cx} {st : Stmt} {i : Nat} {t : DS T} {u : Addr → List Nat → DS T} (h : PS X st (fun D σ H => toTS K (wAsM i (fun a m => toTS K W Wd (u a m.cps.toList)) D) Wd t D σ H)) : PS X st (toTS K W Wd (sTryA i t u)) := by
  refine ps_imp h fun D σ H ⟨C, ρ, τ, Dd, xc, r, q, hx, k, kr⟩ => ⟨C, ρ, τ, Dd, _, r, q, fun e σ1 H1 ρ1 τ1 q1 r1 => ?_, k, kr⟩
  intro m a em ha
  have em2 : tx e.2 = m := by
    have : (Value.str (tx e.2) e.1) = .str m 0 := em
    injection this
  subst em2
  refine ⟨C, ρ1.set i (some (.d (.fn a))), τ1, { nx := fun ρ' τ' => Dd.nx (ρ'.set i none) τ', rt := Dd.rt, bk := fun ρ' τ' => Dd.bk (ρ'.set i none) τ', ct := fun ρ' τ' => Dd.ct (ρ'.set i none) τ' }, xc, r1.put (.fn a), ?_, hx, fun σ' H' ρ' τ' r' => ?_, kr⟩
  · have := q1 a
    rw [tx_list]
    exact this
  · obtain ⟨k1, k2, k3⟩ := k _ _ _ _ (r'.none1 (i := i))
    exact ⟨k1, k2, k3⟩
/-- str(n) of the caught -/
def dStrX (i : Nat) (a : Addr) (m : List Nat) : DE T := fun _ ρ τ Q => ρ[i]? = some (some (.d (.fn a))) ∧ Q (.d (.str m)) ρ τ
theorem ed_strX {X : Cx} {e : Expr} {i : Nat} {a : Addr} {m : Str} (h : PE X e (tCB (rStrE a m) (tCons (tVar i) tNil))) : PE X e (toTE K W Wd (dStrX (T := T) i a m.cps.toList)) := by
  refine pe_imp h fun σ H Q ⟨C, ρ, τ, Qd, xc, r, q, hx, k⟩ => ?_
  obtain ⟨v, e1, f⟩ := r.sl i _ q.1
  cases f
  refine ⟨_, e1, rfl, ?_⟩
  refine k _ _ _ _ _ q.2 r ?_ trivial .refl
  have : tx m.cps.toList = m := tx_of m
  show Fz K C.fo H (.str m) (.str m.cps.toList)
  have z : Fz K C.fo H (.str (tx m.cps.toList)) (.str m.cps.toList) := .str _
  rw [this] at z
  exact z
section
variable {X : Cx} {x n : Str} {i : Nat} {body suite : List Stmt} {b₀ : Stmt} {np pos pos' : Pos} {t u : DS T}
theorem sd_tryE (self : PySem.W.exmOne X.K (.ref CM) (.ref CM) = some true) (hs : X.stack = X.env :: X.outer) (hf : X.env.frame = some X.env.locals) (hc : Names X x (.ref CM)) (tk : Takes X Wo)
    (hb : ∀ (W : WX) (pn : List (Addr × Obj)) (xe : Value → Shared → Prop), Takes (X.tr pn xe) W → PassesOwn (model X.prog X.w) X.A X.env xe → PSs (X.tr pn xe) body (toTS K (dropW CM W) Wd t))
    (hsu : ∀ (a : Addr) (oe : Obj) (cls : Value) (d : Option Addr) (pn : List (Addr × Obj)), Zc cls d oe → (∃ vs, oe.data = .fields vs) → PSs (X.suite a ((a, oe) :: pn)) (b₀ :: suite) (toTS K W Wd u)) :
    PS X (.Try body [.ExceptHandler (some (.Name x np)) none (b₀ :: suite) pos'] [] [] pos) (toTS K W Wd (sTry t u)) :=
  sd_tryN (Wo := Wo) self (ps_try_only (tb := fun W => toTS K (dropW CM W) Wd t) (ts := fun _ _ _ => toTS K W Wd u) hs hf hc tk hb hsu)
theorem sd_tryRe (self : PySem.W.exmOne X.K (.ref CM) (.ref CM) = some true) (hs : X.stack = X.env :: X.outer) (hf : X.env.frame = some X.env.locals) (hc : Names X x (.ref CM)) (hpa : ∀ hd : Option Value, PassesOwnAt (model X.prog X.w) (X.A.mark hd) X.A X.env X.xe) (tk : TakesM CM X W)
    (hb : ∀ (W : WX) (pn : List (Addr × Obj)) (xe : Value → Shared → Prop), L2N.Takes (X.tr pn xe) W → PassesOwn (model X.prog X.w) X.A X.env xe → PSs (X.tr pn xe) body (toTS K (dropW CM W) Wd t))
    (hsu : ∀ (p : Addr × Obj) (pn : List (Addr × Obj)), TakesM CM (L2H.suiteX X p.1 (p :: pn)) W → L2H.HotC (L2H.suiteX X p.1 (p :: pn)) → PSs (L2H.suiteX X p.1 (p :: pn)) (b₀ :: suite) (toTS K W Wd u)) :
    PS X (.Try body [.ExceptHandler (some (.Name x np)) none (b₀ :: suite) pos'] [] [] pos) (toTS K W Wd (sTry t u)) :=
  sd_tryR self (ps_try_reM (tb := fun W => toTS K (dropW CM W) Wd t) (ts := toTS K W Wd u) hs hf hc hpa tk hb hsu)
theorem sd_tryAs {u : Addr → List Nat → DS T} (hs : X.stack = X.env :: X.outer) (hf : X.env.frame = some X.env.locals) (nd : X.N.Nodup) (hi : X.N[i]? = some n) (hn : X.env.kindOf n = some .local) (hc : Names X x (.ref CM)) (self : PySem.W.exmOne X.K (.ref CM) (.ref CM) = some true)
    (hb : ∀ (W : WX) (pn : List (Addr × Obj)) (xe : Value → Shared → Prop), TakesM CM (X.tr pn xe) W → PassesOwn (model X.prog X.w) X.A X.env xe → PSs (X.tr pn xe) body (toTS K W Wd t))
    (hsu : ∀ (p q : Addr × Obj) (m : Str) (pn : List (Addr × Obj)) (a : Addr) (ml : List Nat), Held CM p q m → p.1 = a → m = tx ml → PSs (X.suite p.1 (p :: q :: pn)) (b₀ :: suite) (toTS K W Wd (u a ml))) :
    PS X (.Try body [.ExceptHandler (some (.Name x np)) (some n) (b₀ :: suite) pos'] [] [] pos) (toTS K W Wd (sTryA i t u)) :=
  sd_tryA (ps_try_asM (tb := fun W => toTS K W Wd t) (ts := fun a m => toTS K W Wd (u a m.cps.toList)) hs hf nd hi hn hc self hb fun p q m pn hh => hsu p q m pn p.1 m.cps.toList hh rfl (tx_of m).symm)
end
theorem ed_strX2 {X : Cx} {e : Expr} {i : Nat} {p a : Addr} {m : Str} {ml : List Nat} (ea : p = a) (em : m = tx ml) (h : PE X e (tCB (rStrE p m) (tCons (tVar i) tNil))) : PE X e (toTE K W Wd (dStrX (T := T) i a ml)) := by
  subst ea em
  have := ed_strX (K := K) (W := W) (Wd := Wd) h
  rw [tx_list] at this
  exact this
/-- str(i) where an exception is handled -/
def oStrS : O1 := fun d Q => match d with
  | .int i => i.natAbs.log2 < 1920 ∧ Q (.d (.str (M53.itxt i)))
  | _ => False
theorem c_strS : C1 K (fun x H Q => ∃ i, [x] = [V.int i] ∧ i.natAbs.log2 < 1920 ∧ Q (.str (toString i)) H) oStrS := by
  intro fo H x d Qd Q dx o k
  cases d with
  | int i =>
    cases dx.int
    refine ⟨i, rfl, o.1, ?_⟩
    rw [M53.tx_int]
    exact k _ _ _ o.2 (newv_scal fun _ => .str _)
  | _ => exact o.elim
end
end KD

/-! records: objects of an own class whose fields are data -/
namespace KD
open PySem PySem.Spec PyProof.Rows L2 KX KM
/-- what K tells of the class -/
structure OwnC (K : PySem.W.Frag) (C : Addr) : Prop where
  cl : Cls K C
  ha : PySem.W.findIn K (.ref C) "__class__" = some (some (.builtin "object.__class__"))
  hn : PySem.W.specialIn K (.builtin "object.__class__") "__get__" = some (some (.builtin "getset_descriptor.__get__"))
  htk : PySem.W.takesIn K (.builtin "object.__class__") = some true
  hm : PySem.W.mroIn K C (.type "object") = some true
  me : PySem.W.kitOne K (.ref C) (.ref C) = some true
  no : ∀ k, k = "NoneType" ∨ k = "bool" ∨ k = "int" ∨ k = "str" ∨ k = "list" ∨ k = "tuple" → PySem.W.kitOne K (.type k) (.ref C) = some false
section
variable {T : Type} {Wd : Wld T} {C : Ct Wd} {K : PySem.W.Frag} {fo : Addr → Prop} {ρ ρ' : Env} {τ τ' : T} {σ : L2.St} {H H' : Hp} {v : V} {W Wo : WX} {CR : Addr}
theorem Dv.obj {CR : Addr} {ns : List Str} {ds : List D} (h : Dv K fo H v (.obj CR ns ds)) : ∃ a dx xs, v = .ref a ∧ H a = some (.ins CR dx (ns.zip xs)) ∧ ¬ fo a ∧ ns.length = ds.length ∧ FzA K fo H xs ds := by
  rcases h with h | ⟨a, vs, ds, _, z, _⟩
  · cases h with
    | obj h1 h2 h3 h4 => exact ⟨_, _, _, rfl, h1, h2, h3, h4⟩
  · cases z
/-- isinstance(x, the class) -/
def isiC (CR : Addr) : D → Option Bool
  | .obj C _ _ => if C = CR then some true else none
  | .fn _ => none
  | _ => some false
def oIsC (CR : Addr) : O1 := fun d Q => match isiC CR d with
  | some b => Q (.d (.bl b))
  | none => False
theorem c_isC (O : OwnC K CR) : C1 K (fun x H Q => rIsi K [x, .ref CR] H Q) (oIsC CR) := by
  intro fo H x d Qd Q dx o k
  have go : ∀ kd, kindD d = some kd → (kd = "NoneType" ∨ kd = "bool" ∨ kd = "int" ∨ kd = "str" ∨ kd = "list" ∨ kd = "tuple") → Qd (.d (.bl false)) → rIsi K [x, .ref CR] H Q := fun kd e1 e3 q =>
    ⟨x, .ref CR, _, .ref CR, false, rfl, .own CR, tyx_of dx e1, O.no kd e3, k _ _ _ q (newv_scal fun _ => .bl _)⟩
  cases d with
  | non => exact go _ rfl (.inl rfl) o
  | bl b => exact go _ rfl (.inr (.inl rfl)) o
  | int i => exact go _ rfl (.inr (.inr (.inl rfl))) o
  | str l => exact go _ rfl (.inr (.inr (.inr (.inl rfl)))) o
  | lst ds => exact go _ rfl (.inr (.inr (.inr (.inr (.inl rfl))))) o
  | tup ds => exact go _ rfl (.inr (.inr (.inr (.inr (.inr rfl))))) o
  | fn a => exact o.elim
  | obj C' ns ds =>
    obtain ⟨a, dx, xs, rfl, h1, _⟩ := dx.obj
    simp only [oIsC, isiC] at o
    by_cases z : C' = CR
    · subst z
      rw [if_pos rfl] at o
      exact ⟨_, .ref C', _, .ref C', true, rfl, .own C', .base (.ins h1 O.cl O.ha O.hn O.htk O.hm), O.me, k _ _ _ o (newv_scal fun _ => .bl _)⟩
    · rw [if_neg z] at o
      exact o.elim
/-- x.f -/
def oFld (CR : Addr) (f : Str) : O1 := fun d Q => match d with
  | .obj C ns ds => C = CR ∧ ∃ e, (ns.zip ds).lookup f = some e ∧ Q (.d e)
  | _ => False
theorem zip_lookup : ∀ {ns : List Str} {ds : List D} {xs : List V} {f : Str} {e : D}, FzA K fo H xs ds → (ns.zip ds).lookup f = some e → ∃ x, (ns.zip xs).lookup f = some x ∧ Fz K fo H x e
  | [], _, _, _, _, _, h => by cases h
  | n :: ns, [], _, _, _, _, h => by cases h
  | n :: ns, d :: ds, _, f, e, a, h => by
    cases a with
    | cons a1 a2 =>
      rename_i x xs
      rw [List.zip_cons_cons, List.lookup_cons] at h
      rw [List.zip_cons_cons, List.lookup_cons]
      cases z : f == n with
      | true => rw [z] at h; cases h; exact ⟨x, rfl, a1⟩
      | false => rw [z] at h; exact zip_lookup a2 h
theorem c_fld {f : Str} (cl : Cls K CR) (na : NoAttr K CR f) : C1 K (fun x H Q => ∃ a C dx fs v, x = .ref a ∧ H a = some (.ins C dx fs) ∧ Cls K C ∧ NoAttr K C f ∧ fs.lookup f = some v ∧ Q v H) (oFld CR f) := by
  intro fo H x d Qd Q dx o k
  cases d with
  | obj C' ns ds =>
    obtain ⟨a, dx, xs, rfl, h1, _, _, h4⟩ := dx.obj
    obtain ⟨rfl, e, h5, q⟩ := o
    obtain ⟨y, h6, h7⟩ := zip_lookup h4 h5
    exact ⟨a, _, _, _, y, rfl, h1, cl, na, h6, k _ _ _ q ⟨Evl.Ex.refl _, h7⟩⟩
  | _ => exact o.elim
theorem ed_fld {X : Cx} {e : Expr} {f : Str} {pos : Pos} {t : DE T} (cl : Cls K CR) (na : NoAttr K CR f) (h : PE X (.Attribute e f pos) (tFld K (toTE K W Wd t) f)) : PE X (.Attribute e f pos) (toTE K W Wd (dU (oFld CR f) t)) :=
  pe_imp h fun σ H Q q => du_ok (c_fld cl na) q
/-! ### made -/
/-- an __init__ that stores its parameters one behind the other -/
def spInit (CR : Addr) (ns : List Str) : Sp := fun vs H Q _ => ∃ r dx ys, vs = .ref r :: ys ∧ ys.length = ns.length ∧ H r = some (.ins CR dx []) ∧ Q .non (upd H r (.ins CR dx (ns.zip ys)))
def dMake (CR : Addr) (ns : List Str) (dds : List D) (u : DA T) : DE T := fun xc ρ τ Q => u xc ρ τ fun ds ρ1 τ1 => (ds ++ dds).length = ns.length ∧ Q (.d (.obj CR ns (ds ++ dds))) ρ1 τ1
theorem ed_make {X : Cx} {e : Expr} {ns : List Str} {dvs : List V} {dds : List D} {E : XK} {u : DA T} (hd : ∀ (fo : Addr → Prop) (H : Hp), FzA K fo H dvs dds) (h : PE X e (tMake CR (spInit CR ns) dvs E (toTA K W Wd u))) : PE X e (toTE K W Wd (dMake CR ns dds u)) := by
  refine pe_imp h fun σ H Q ⟨C, ρ, τ, Qd, xc, r, q, hx, k⟩ => ⟨C, ρ, τ, _, xc, r, q, hx, fun vs H1 ds ρ1 τ1 q1 r1 f1 s1 x dx nx ndx ne => ?_⟩
  have hl : (vs ++ dvs).length = ns.length := by
    rw [List.length_append, fza_len f1, fza_len (hd C.fo H1), ← List.length_append]
    exact q1.1
  refine ⟨x, dx, vs ++ dvs, rfl, hl, upd_same, rfl, ?_⟩
  have nx1 : upd H1 dx (.own x) x = none := by rw [upd_ne ne.symm]; exact nx
  have e2 : Ex H1 (upd (upd (upd H1 dx (.own x)) x (.ins CR dx [])) x (.ins CR dx (ns.zip (vs ++ dvs)))) :=
    Evl.Ex.mut (Evl.Ex.mut (Evl.Ex.new ndx) nx) nx
  have h2 : upd (upd (upd H1 dx (.own x)) x (.ins CR dx [])) x (.ins CR dx (ns.zip (vs ++ dvs))) x = some (.ins CR dx (ns.zip (vs ++ dvs))) := upd_same
  generalize upd (upd (upd H1 dx (.own x)) x (.ins CR dx [])) x (.ins CR dx (ns.zip (vs ++ dvs))) = H2 at e2 h2
  have r2 := r1.ex e2
  have fa := fza_app (fza_kp (.of_ex e2) f1) (hd C.fo H2)
  have nf : ¬ C.fo x := fun z => C.dom x z (r1.r.dm x nx)
  exact k _ _ _ _ _ q1.2 r2 (.obj h2 nf (by rw [← fza_len fa]; exact hl.symm) fa) trivial (s1.trans (.ex e2))
/-! ### == by the class's own __eq__ -/
def fo0 : Addr → Prop := fun _ => False
mutual
theorem fz_fo {fo fo' : Addr → Prop} (h : ∀ a, fo' a → fo a) : ∀ {d : D} {v : V}, Fz K fo H v d → Fz K fo' H v d
  | .non, _, z => by cases z; exact .non
  | .bl b, _, z => by cases z; exact .bl b
  | .int i, _, z => by cases z; exact .int i
  | .str l, _, z => by cases z; exact .str l
  | .fn a, _, z => by cases z; exact .fn a
  | .tup ds, _, z => by
    cases z with
    | tup h1 h2 => exact .tup h1 (fza_fo h h2)
  | .lst ds, _, z => by
    cases z with
    | lst h1 h2 => exact .lst h1 (fza_fo h h2)
  | .obj C ns ds, _, z => by
    cases z with
    | obj h1 h2 h3 h4 => exact .obj h1 (fun z => h2 (h _ z)) h3 (fza_fo h h4)
theorem fza_fo {fo fo' : Addr → Prop} (h : ∀ a, fo' a → fo a) : ∀ {ds : List D} {vs : List V}, FzA K fo H vs ds → FzA K fo' H vs ds
  | [], _, z => by cases z; exact .nil
  | d :: ds, _, z => by
    cases z with
    | cons h1 h2 => exact .cons (fz_fo h h1) (fza_fo h h2)
end
/-- two such objects, the same data -/
def SameO (K : PySem.W.Frag) (CR : Addr) (ns : List Str) (P : List D → Prop) (a b : Addr) (H : Hp) : Prop := ∃ ds, P ds ∧ Fz K fo0 H (.ref a) (.obj CR ns ds) ∧ Fz K fo0 H (.ref b) (.obj CR ns ds)
theorem Ext.ex (e : Ext H H') : Ex H H' := e
theorem mon_same {ns : List Str} {P : List D → Prop} : ∀ a b H H', Ext H H' → SameO K CR ns P a b H → SameO K CR ns P a b H' := fun a b H H' e ⟨ds, p, f, g⟩ => ⟨ds, p, fz_kp (.of_ex e) f, fz_kp (.of_ex e) g⟩
/-- x == y, both of the class, the same data that P allows -/
def oEqO (CR : Addr) (ns : List Str) (P : List D → Prop) : O2 := fun d e Q => match d, e with
  | .obj C ns1 ds, .obj C' ns2 es => (C = CR ∧ C' = CR ∧ ns1 = ns ∧ ns2 = ns ∧ ds = es ∧ P ds) ∧ Q (.d (.bl true))
  | _, _ => False
theorem c_eqO {ns : List Str} {P : List D → Prop} : C2 K (rEqG (DIns CR (SameO K CR ns P))) (oEqO CR ns P) := by
  intro fo H x y d e Qd Q dx dy o k
  cases d with
  | obj C1 ns1 ds =>
    cases e with
    | obj C2 ns2 es =>
      obtain ⟨⟨rfl, rfl, rfl, rfl, rfl, p⟩, q⟩ := o
      rcases dx with dx | ⟨_, _, _, _, z, _⟩
      · rcases dy with dy | ⟨_, _, _, _, z, _⟩
        · have f1 := fz_fo (fo' := fo0) (fun _ z => z.elim) dx
          have f2 := fz_fo (fo' := fo0) (fun _ z => z.elim) dy
          cases dx with
          | obj g1 _ _ _ =>
            cases dy with
            | obj g2 _ _ _ => exact ⟨⟨_, _, _, _, _, _, rfl, rfl, g1, g2, ds, p, f1, f2⟩, fun H' ex => k _ _ _ q ⟨ex, .bl true⟩⟩
        · cases z
      · cases z
    | _ => exact o.elim
  | _ => cases e <;> exact o.elim
/-- the own __eq__, told over data, as the rule wants it -/
theorem spEq_of {ns : List Str} {P : List D → Prop} {sp : SpD Unit} (h : ∀ ds Q, P ds → (∀ b, b = true → Q (.bl b) ()) → sp [.obj CR ns ds, .obj CR ns ds] () Q (fun _ _ => False)) : ∀ vs H Q E, spEq (SameO K CR ns P) vs H Q E → spD K PW (calm0 sp) vs H Q E := by
  rintro vs H Q E ⟨a, b, rfl, ⟨ds, p, f1, f2⟩, q⟩
  refine ⟨⟨H, fo0, fun _ => False, fun _ h => h.elim, fun _ h => h.elim, Kp fo0 H, fun _ _ => .trans⟩, [.obj CR ns ds, .obj CR ns ds], (), fun d _ => d = .bl true, fun _ _ => False, rfl, .cons f1 (.cons f2 .nil), trivial, .refl, h ds _ p fun b e => by rw [e], ?_, fun _ _ _ z => z.elim⟩
  rintro v H' d τ' rfl rr fz
  cases fz
  exact q H' fun a o z => rr.bt a o (fun z => z) z
end
end KD

/-! the law's draws, as a world -/
namespace KD
open PySem PySem.Spec PyProof.Rows L2 KX
/-- the law's draw: its list at r, with at most N draws past the script -/
def Drw (H : Hp) (r p : Addr) (N : Nat) : Prop := ∃ (ns : List Int) (a b c e f : Int), H r = some (.lst [.ref p, .int a, .int b, .int c, .int e, .int f]) ∧ p ≠ r ∧ H p = some (.lst (ns.map V.int)) ∧ ns.length ≤ 63 ∧ 0 ≤ a ∧ 0 ≤ f ∧ f ≤ (N : Nat)
theorem Drw.lst {H : Hp} {r p : Addr} {N : Nat} (h : Drw H r p N) : ∃ xs, H r = some (.lst xs) := by
  obtain ⟨ns, a, b, c, e, f, h, _⟩ := h
  exact ⟨_, h⟩
theorem sql_ex {K : PySem.W.Frag} {H H' : Hp} {a : Addr} {xs : List V} (e : Ex H H') (h : SqL K H a xs) : SqL K H' a xs := h.elim (fun h => .inl (h.elim (fun h => .inl (e _ _ h)) fun ⟨o, h⟩ => .inr ⟨o, e _ _ h⟩)) fun h => .inr h
theorem Drw.lstp {H : Hp} {r p : Addr} {N : Nat} (h : Drw H r p N) : ∃ xs, H p = some (.lst xs) := by
  obtain ⟨ns, a, b, c, e, f, _, _, h, _⟩ := h
  exact ⟨_, h⟩
theorem Drw.upd {H : Hp} {r p D : Addr} {N : Nat} {o : HO} (h : Drw H r p N) (h1 : r ≠ D) (h2 : p ≠ D) : Drw (L2.upd H D o) r p N := by
  obtain ⟨ns, a, b, c, e, f, g1, g2, g3, g4⟩ := h
  exact ⟨ns, a, b, c, e, f, by rw [upd_ne h1]; exact g1, g2, by rw [upd_ne h2]; exact g3, g4⟩
theorem Drw.ex {H H' : Hp} {r p : Addr} {N : Nat} (h : Drw H r p N) (x : Ex H H') : Drw H' r p N := by
  obtain ⟨ns, a, b, c, e, f, h1, h2, h3, h4⟩ := h
  exact ⟨ns, a, b, c, e, f, x _ _ h1, h2, x _ _ h3, h4⟩
def spDraw (K : PySem.W.Frag) : Sp := fun vs H Q _ => ∃ (a : Addr) (ns : List Int), vs = [.ref a] ∧ SqL K H a (ns.map V.int) ∧ ns.length ≤ 63 ∧ ∀ r p H', H r = none → Ex H H' → Drw H' r p 0 → Q (.ref r) H'
def spTake : Sp := fun vs H Q _ => ∃ (r p : Addr) (m N : Nat), vs = [.ref r, .int (m : Nat)] ∧ 0 < m ∧ m < 1073741824 ∧ Drw H r p N ∧ N ≤ 1000000 ∧ ∀ H' (k : Nat), k < m → But r H H' → Drw H' r p (N + 1) → Q (.int (k : Nat)) H'
theorem q_setB {H0 H : Hp} {r : Addr} {xs : List V} {k : Nat} {v : V} {R : Hp → Prop} (b : But r H0 H) (h : H r = some (.lst xs)) (hk : Nat.blt k xs.length = true) (q : ∀ H', But r H0 H' → H' r = some (.lst (xs.set k v)) → R H') : rSetL (.ref r) (.int (k : Nat)) v H R :=
  q_setL h (by simpa [Nat.blt_eq] using hk) (q _ (b.trans But.mut) upd_same)
theorem mod_nat {i : Int} {m : Nat} (h : 0 < m) : ∃ k : Nat, k < m ∧ i % (m : Int) = (k : Nat) := by
  have h1 := Int.emod_nonneg i (b := (m : Int)) (by omega)
  have h2 := Int.emod_lt_of_pos i (b := (m : Int)) (by omega)
  exact ⟨(i % (m : Int)).toNat, by omega, by omega⟩

structure Dr where
  r : Addr
  p : Addr
  n : Nat
/-- a draw is held -/
def DWd : Wld Dr := ⟨fun ch t H => ch t.r ∧ ch t.p ∧ Drw H t.r t.p t.n, fun ch t H H' ⟨h1, h2, ns, a, b, c, e, f, g1, g2, g3, g4⟩ k => ⟨h1, h2, ns, a, b, c, e, f, k _ _ h1 g1, g2, k _ _ h2 g3, g4⟩⟩
/-- another draw -/
def Dr.up (t : Dr) (j : Nat) : Dr := { t with n := t.n + j }
def sp_take : SpD Dr := fun ds τ Q _ => ∃ m : Nat, ds = [.fn τ.r, .int (m : Nat)] ∧ 0 < m ∧ m < 1073741824 ∧ τ.n ≤ 1000000 ∧ ∀ k : Nat, k < m → Q (.int (k : Nat)) (τ.up 1)
theorem take_of {K : PySem.W.Frag} : ∀ vs H Q E, spD K DWd (calm0 sp_take) vs H Q E → spTake vs H Q E := by
  rintro vs H Q E ⟨C, ds, τ, Qd, Ed, h0, f, ⟨c1, c2, dw⟩, fl, ⟨m, rfl, m1, m2, hn, q⟩, k, _⟩
  subst h0
  cases f with
  | cons f1 f2 =>
    cases f1
    cases f2 with
    | cons f3 f4 =>
      cases f3
      cases f4
      refine ⟨τ.r, τ.p, m, τ.n, rfl, m1, m2, dw, hn, fun H' j hj b dw' => k _ _ _ _ (q j hj) ⟨⟨c1, c2, dw'⟩, fun x o nx h => b x o (fun z => nx (z ▸ c1)) h, fun x hx => ?_, ?_⟩ (.int _)⟩
      · cases q2 : C.H0 x with
        | none => rfl
        | some o =>
          by_cases z : x = τ.r
          · subst z
            obtain ⟨xs, e⟩ := dw'.lst
            rw [hx] at e
            cases e
          · rw [b x o z q2] at hx
            cases hx
      · obtain ⟨xs, e⟩ := dw.lst
        have ne : ∀ {x : Addr} {o : HO}, C.H0 x = some o → (∀ l, o ≠ .lst l) → x ≠ τ.r := fun {x o} h n z => by
          subst z
          rw [e] at h
          cases h
          exact n _ rfl
        exact C.flk _ _ fl ⟨fun x xs h => b x _ (ne h fun l z => nomatch z) h, fun x o u h => b x _ (ne h fun l z => nomatch z) h, fun x c dx fs n h => b x _ (ne h fun l z => nomatch z) h⟩
end KD

/-! old promises, turned to data -/
namespace KD
open PySem PySem.Spec PyProof.Rows L2 KX
mutual
def unp : PyData → D
  | .none => .non
  | .bool b => .bl b
  | .int i => .int i
  | .str s => .str s.cps.toList
  | .tuple ds => .tup (unps ds)
  | .list ds => .lst (unps ds)
  | .dict _ => .non
def unps : List PyData → List D
  | [] => []
  | d :: ds => unp d :: unps ds
end
mutual
theorem py_unp : ∀ d : PyData, flatD d = true → py (unp d) = d
  | .none, _ => rfl
  | .bool _, _ => rfl
  | .int _, _ => rfl
  | .str s, _ => by show PyData.str (tx s.cps.toList) = _; rw [tx_of]
  | .tuple ds, h => by show PyData.tuple (pys (unps ds)) = _; rw [pys_unps ds (by simpa [flatD] using h)]
  | .list _, h => by simp [flatD] at h
  | .dict _, h => by simp [flatD] at h
theorem pys_unps : ∀ ds : List PyData, flatDs ds = true → pys (unps ds) = ds
  | [], _ => rfl
  | d :: ds, h => by
    simp only [flatDs, Bool.and_eq_true] at h
    show py (unp d) :: pys (unps ds) = _
    rw [py_unp d h.1, pys_unps ds h.2]
end
mutual
theorem fz_unp {K : PySem.W.Frag} {fo : Addr → Prop} {H : Hp} : ∀ {d : PyData} {v : V}, flatD d = true → Dp K H v d → Fz K fo H v (unp d)
  | .none, _, _, h => by cases h; exact .non
  | .bool _, _, _, h => by cases h; exact .bl _
  | .int _, _, _, h => by cases h; exact .int _
  | .str s, _, _, h => by
    cases h
    have z : Fz K fo H (.str (tx s.cps.toList)) (.str s.cps.toList) := .str _
    rw [tx_of] at z
    exact z
  | .tuple ds, _, f, h => by
    cases h with
    | tup h1 h2 => exact .tup h1 (fza_unp (by simpa [flatD] using f) h2)
  | .list _, _, f, _ => by simp [flatD] at f
  | .dict _, _, f, _ => by simp [flatD] at f
theorem fza_unp {K : PySem.W.Frag} {fo : Addr → Prop} {H : Hp} : ∀ {ds : List PyData} {vs : List V}, flatDs ds = true → DpAll K H vs ds → FzA K fo H vs (unps ds)
  | [], _, _, h => by cases h; exact .nil
  | d :: ds, _, f, h => by
    simp only [flatDs, Bool.and_eq_true] at f
    cases h with
    | cons h1 h2 => exact .cons (fz_unp f.1 h1) (fza_unp f.2 h2)
end
mutual
theorem dat_unp : ∀ d : PyData, dat (unp d) = true
  | .none | .bool _ | .int _ | .str _ | .dict _ => rfl
  | .tuple ds | .list ds => by show dats (unps ds) = true; exact dats_unps ds
theorem dats_unps : ∀ ds : List PyData, dats (unps ds) = true
  | [] => rfl
  | d :: ds => by show (dat (unp d) && dats (unps ds)) = true; rw [dat_unp d, dats_unps ds]; rfl
end
theorem relR_ex {T : Type} {Wd : Wld T} {C : Ct Wd} {τ : T} {H : Hp} (a : C.at_ τ C.H0) (l : C.fl C.H0) (e : Ex C.H0 H) : RelR C τ H :=
  ⟨C.loc _ _ _ a fun b o _ h => e b o h, fun b o _ h => e b o h, fun b h => (by
    cases q : C.H0 b with
    | none => rfl
    | some o =>
      rw [e _ _ q] at h
      cases h), C.flk _ _ l (.of_ex e)⟩
end KD

/-! small laws of data -/
namespace KD
open PySem PySem.Spec PyProof.Rows L2 KX
theorem cutL_to {α : Type} (xs : List α) (n : Nat) : cutL xs none (some (n : Int)) = xs.take n := by
  unfold cutL
  rw [HT.sIx_none, HT.sIx_nat]
  simp only [List.drop_zero, Nat.sub_zero]
  rw [← List.take_take, List.take_length]
theorem cutL_from {α : Type} (xs : List α) (n : Nat) : cutL xs (some (n : Int)) none = xs.drop n := by
  unfold cutL
  rw [HT.sIx_none, HT.sIx_nat]
  by_cases h : n ≤ xs.length
  · rw [Nat.min_eq_left h, List.take_of_length_le]
    simp
  · rw [Nat.min_eq_right (by omega), List.drop_of_length_le (Nat.le_refl _), List.drop_of_length_le (by omega)]
    simp
theorem cutL_to2 {α : Type} (xs : List α) : cutL xs none (some 2) = xs.take 2 := cutL_to xs 2
theorem cutL_from2 {α : Type} (xs : List α) : cutL xs (some 2) none = xs.drop 2 := cutL_from xs 2
theorem cutL_to1 {α : Type} (xs : List α) : cutL xs none (some 1) = xs.take 1 := cutL_to xs 1
theorem cutL_from1 {α : Type} (xs : List α) : cutL xs (some 1) none = xs.drop 1 := cutL_from xs 1
theorem pre_split {S l : List Nat} (h : TL.pre S l = true) : l = S ++ l.drop S.length := by
  have e : l.take S.length = S := by unfold TL.pre at h; exact eq_of_beq h
  conv => lhs; rw [← List.take_append_drop S.length l, e]
theorem par_split {S : List Nat} : ∀ {l cur x y : List Nat}, TL.par S cur l = some (x, y) → cur ++ l = x ++ S ++ y
  | [], cur, x, y, h => by
    unfold TL.par at h
    first | cases h | (split at h <;> first | cases h | (rename_i z; cases h; have := pre_split z; simp at this ⊢; simp [this]))
  | c :: l, cur, x, y, h => by
    unfold TL.par at h
    split at h
    · rename_i z
      cases h
      have := pre_split z
      rw [List.append_assoc, ← this]
    · have := par_split h
      rw [← this]
      simp
section
variable {T : Type} {xc : DX T} {ρ : Env} {τ : T}
/-- for: an invariant at each place; F: what comes behind -/
theorem fd_at {g : DG T} {tb : DS T} {D : DEnds T} (P : Nat → Env → T → Prop) (xs : List KD.D)
    (step : ∀ i x (F : Env → T → Prop) ρ τ, xs[i]? = some x → P i ρ τ → (∀ ρ' τ', P (i + 1) ρ' τ' → F ρ' τ') → g x xc ρ τ fun ρ1 τ1 => tb xc { D with nx := F, ct := F, bk := D.nx } ρ1 τ1)
    (fin : ∀ ρ τ, P xs.length ρ τ → D.nx ρ τ) : ∀ (r : List KD.D) (i : Nat) (ρ : Env) (τ : T), xs.drop i = r → P i ρ τ → i ≤ xs.length → fD g tb xc D r ρ τ
  | [], i, ρ, τ, e, p, hi => by
    have : xs.length ≤ i := by
      have := congrArg List.length e
      simp only [List.length_drop, List.length_nil] at this
      omega
    have e2 : i = xs.length := by omega
    subst e2
    exact fin _ _ p
  | x :: r, i, ρ, τ, e, p, hi => by
    have hx : xs[i]? = some x := by
      have := congrArg (fun l => l[0]?) e
      simpa using this
    have hr : xs.drop (i + 1) = r := by
      have := congrArg List.tail e
      simpa using this
    have hl : i + 1 ≤ xs.length := (List.getElem?_eq_some_iff.mp hx).1
    exact step i x _ ρ τ hx p fun ρ' τ' p' => fd_at P xs step fin r (i + 1) ρ' τ' hr p' hl
theorem fd_list {g : DG T} {tb : DS T} {D : DEnds T} {xs : List KD.D} (P : Nat → Env → T → Prop) (h0 : P 0 ρ τ)
    (step : ∀ i x (F : Env → T → Prop) ρ τ, xs[i]? = some x → P i ρ τ → (∀ ρ' τ', P (i + 1) ρ' τ' → F ρ' τ') → g x xc ρ τ fun ρ1 τ1 => tb xc { D with nx := F, ct := F, bk := D.nx } ρ1 τ1)
    (fin : ∀ ρ τ, P xs.length ρ τ → D.nx ρ τ) : fD g tb xc D xs ρ τ := fd_at P xs step fin xs 0 ρ τ rfl h0 (Nat.zero_le _)
/-- a comprehension -/
theorem lc_at {g : DG T} {tt : DT T} {te : DF T} {vs : List Nat} {Q : List KD.D → Env → T → Prop} (P : Nat → List KD.D → Env → T → Prop) (xs : List KD.D)
    (step : ∀ i x (F : List KD.D → Env → T → Prop) acc ρ τ, xs[i]? = some x → P i acc ρ τ → (∀ acc' ρ' τ', P (i + 1) acc' ρ' τ' → F acc' ρ' τ') → g x xc (wipeE ρ vs) τ fun ρ1 τ1 => tt xc ρ1 τ1 fun b ρ2 τ2 =>
      if b = true then te xc ρ2 τ2 fun y ρ3 τ3 => F (acc ++ [y]) (mergeE ρ ρ3 vs) τ3 else F acc (mergeE ρ ρ2 vs) τ2)
    (fin : ∀ acc ρ τ, P xs.length acc ρ τ → Q acc ρ τ) : ∀ (r : List KD.D) (i : Nat) (acc : List KD.D) (ρ : Env) (τ : T), xs.drop i = r → P i acc ρ τ → i ≤ xs.length → lcD g tt te vs xc r acc ρ τ Q
  | [], i, acc, ρ, τ, e, p, hi => by
    have : xs.length ≤ i := by
      have := congrArg List.length e
      simp only [List.length_drop, List.length_nil] at this
      omega
    have e2 : i = xs.length := by omega
    subst e2
    exact fin _ _ _ p
  | x :: r, i, acc, ρ, τ, e, p, hi => by
    have hx : xs[i]? = some x := by
      have := congrArg (fun l => l[0]?) e
      simpa using this
    have hr : xs.drop (i + 1) = r := by
      have := congrArg List.tail e
      simpa using this
    have hl : i + 1 ≤ xs.length := (List.getElem?_eq_some_iff.mp hx).1
    exact step i x (fun a ρ' τ' => lcD g tt te vs xc r a ρ' τ' Q) acc ρ τ hx p fun acc' ρ' τ' p' => lc_at P xs step fin r (i + 1) acc' ρ' τ' hr p' hl
theorem lc_list {g : DG T} {tt : DT T} {te : DF T} {vs : List Nat} {Q : List KD.D → Env → T → Prop} {acc : List KD.D} {xs : List KD.D} (P : Nat → List KD.D → Env → T → Prop) (h0 : P 0 acc ρ τ)
    (step : ∀ i x (F : List KD.D → Env → T → Prop) acc ρ τ, xs[i]? = some x → P i acc ρ τ → (∀ acc' ρ' τ', P (i + 1) acc' ρ' τ' → F acc' ρ' τ') → g x xc (wipeE ρ vs) τ fun ρ1 τ1 => tt xc ρ1 τ1 fun b ρ2 τ2 =>
      if b = true then te xc ρ2 τ2 fun y ρ3 τ3 => F (acc ++ [y]) (mergeE ρ ρ3 vs) τ3 else F acc (mergeE ρ ρ2 vs) τ2)
    (fin : ∀ acc ρ τ, P xs.length acc ρ τ → Q acc ρ τ) : lcD g tt te vs xc xs acc ρ τ Q := lc_at P xs step fin xs 0 acc ρ τ rfl h0 (Nat.zero_le _)
end
theorem rangeD_get {lo : Int} {n i : Nat} {x : D} (h : (rangeD lo n)[i]? = some x) : i < n ∧ x = .int (lo + (i : Nat)) := by
  unfold rangeD at h
  rw [List.getElem?_map, Option.map_eq_some_iff] at h
  obtain ⟨j, hj, rfl⟩ := h
  have := List.getElem?_eq_some_iff.mp hj
  obtain ⟨h1, h2⟩ := this
  rw [List.length_range] at h1
  rw [List.getElem_range] at h2
  subst h2
  exact ⟨h1, rfl⟩
theorem rangeD_len {lo : Int} {n : Nat} : (rangeD lo n).length = n := by simp [rangeD]
theorem rangeDC_get {lo c : Int} {n i : Nat} {x : D} (h : (rangeDC lo c n)[i]? = some x) : i < n ∧ x = .int (lo + (i : Nat) * c) := by
  unfold rangeDC at h
  rw [List.getElem?_map, Option.map_eq_some_iff] at h
  obtain ⟨j, hj, rfl⟩ := h
  have := List.getElem?_eq_some_iff.mp hj
  obtain ⟨h1, h2⟩ := this
  rw [List.length_range] at h1
  rw [List.getElem_range] at h2
  subst h2
  exact ⟨h1, rfl⟩
theorem rangeDC_len {lo c : Int} {n : Nat} : (rangeDC lo c n).length = n := by simp [rangeDC]
theorem atI_nat {α : Type} (xs : List α) (i : Nat) : atI xs (i : Int) = xs[i]? := by
  unfold atI ixN
  rw [if_pos (by omega)]
  by_cases h : i < xs.length
  · rw [if_pos (by omega)]
    simp
  · rw [if_neg (by omega), List.getElem?_eq_none (by omega)]
    rfl
theorem atI_last {α : Type} (xs : List α) : atI xs (-1) = xs.getLast? := by
  unfold atI ixN
  rw [if_neg (by omega), List.getLast?_eq_getElem?]
  by_cases h : 0 < xs.length
  · rw [if_pos (by omega)]
    simp only [Option.bind_some]
    congr 1
    omega
  · have : xs = [] := List.length_eq_zero_iff.mp (by omega)
    subst this
    rfl
theorem rgC_3 {m : Nat} (h : m % 3 = 0) (hm : m ≤ 1000000000) : RgC 0 ((m : Nat) : Int) 3 (m / 3) := by
  have e : Builtin.Range.rangeSize 0 ((m : Nat) : Int) 3 = ((m / 3 : Nat) : Int) := by
    unfold Builtin.Range.rangeSize
    rw [if_pos (by decide)]
    split <;> omega
  refine ⟨by decide, by decide, ?_, e⟩
  have fit : ∀ i : Int, 0 ≤ i → i ≤ 1000000010 → Builtin.Range.rangeFitsLong i = true := fun i h1 h2 => by
    unfold Builtin.Range.rangeFitsLong
    rw [Bool.and_eq_true, decide_eq_true_eq, decide_eq_true_eq]
    exact ⟨by omega, by omega⟩
  unfold Builtin.Range.small
  rw [e, if_pos (by decide), fit 0 (by omega) (by omega), fit (m : Nat) (by omega) (by omega), fit 3 (by omega) (by omega), fit ((m / 3 : Nat) : Int) (by omega) (by omega), fit ((m : Nat) + (3 - 1)) (by omega) (by omega)]
  simp
theorem atI_c0 {α : Type} (x : α) (xs : List α) : atI (x :: xs) 0 = some x := by
  have := KD.atI_nat (x :: xs) 0
  simpa using this
theorem atI_c1 {α : Type} (x y : α) (xs : List α) : atI (x :: y :: xs) 1 = some y := by
  have := KD.atI_nat (x :: y :: xs) 1
  simpa using this
theorem atI_c2 {α : Type} (x y z : α) (xs : List α) : atI (x :: y :: z :: xs) 2 = some z := by
  have := KD.atI_nat (x :: y :: z :: xs) 2
  simpa using this
theorem atI_c3 {α : Type} (x y z u : α) (xs : List α) : atI (x :: y :: z :: u :: xs) 3 = some u := by
  have := KD.atI_nat (x :: y :: z :: u :: xs) 3
  simpa using this
/-- what comes behind a statement, kept folded -/
def hold {T : Type} (u : DS T) : DS T := u
theorem sSeq_hold {T : Type} {t u : DS T} {xc : DX T} {D : DEnds T} {ρ : Env} {τ : T} : sSeq t u xc D ρ τ = t xc { D with nx := hold u xc D } ρ τ := rfl
end KD

/-! list(zip(a, b)) of two tuples -/
namespace RZ
open PySem PySem.Spec PySem.W
section
variable {prog : Program} {w : World} {A : Around} {E : Value → Shared → Prop} {s : Shared}
theorem zipT_item_held {z TI TO T i1 i2 l1 l2 : Addr} {f : Bool} {oT : Obj} {k1 k2 : Nat} {xs ys : Array Value} {x y : Value} {Q : Value → Shared → Prop} (D : ZipApart z TI TO i1 i2 l1 l2)
    (hz : IsZipHeld s.heap z TI TO T f) (hT : s.heap.get? T = some oT) (hTI : PySem.IsPair s.heap TI (.ref i1) (.ref i2))
    (h1 : s.heap.IsTupleIter i1 l1 k1) (h2 : s.heap.IsTupleIter i2 l2 k2) (hl1 : s.heap.IsTuple l1 xs) (hl2 : s.heap.IsTuple l2 ys) (hx : xs[k1]? = some x) (hy : ys[k2]? = some y)
    (hQ : ∀ h', IsZipHeld h' z TI TO T true → h'.IsTupleIter i1 l1 (k1 + 1) → h'.IsTupleIter i2 l2 (k2 + 1) → PySem.IsPair h' s.heap.objs.size x y → h'.objs.size = s.heap.objs.size + 1 →
      (∀ c o, c ≠ z → c ≠ i1 → c ≠ i2 → s.heap.get? c = some o → h'.get? c = some o) → Q (.ref s.heap.objs.size) { s with heap := h' }) :
    wpAny (model prog w) A (Builtin.«zip.__next__» ⟨[.ref z], []⟩) (fun fin s' => ∃ v, fin = .done (.ret v) ∧ Q v s') E s := by
  show wpAny _ _ (field (.ref z) 2 >>= _) _ _ _
  refine wpAny_bind (wpAny_field hz rfl (x := .bool false) rfl ?_)
  show wpAny _ _ (field (.ref z) 3 >>= _) _ _ _
  refine wpAny_bind (wpAny_field hz rfl (x := .ref TI) rfl ?_)
  refine wpAny_bind (wpAny_seqItems hTI rfl ?_)
  show wpAny _ _ (Builtin.SmallTypes.ownedTupleIsFree (.ref z) >>= _) _ _ _
  refine wpAny_bind (wpAny_tupleHeld_zip hz hT fun h₁ hz₁ hs₁ => ?_)
  simp only [Bool.false_eq_true, if_false]
  refine wpAny_bind ?_
  rw [← Array.forIn_toList]
  simp only [List.forIn_cons, List.forIn_nil]
  refine wpAny_bind (wpAny_bind (wpAny_holding ?_))
  show wpAny _ _ (Builtin.SmallTypes.nextOf (.ref i1) >>= _) _ _ _
  refine wpAny_bind (nextOf_tuple_item (s := { s with heap := h₁ }) (h1.extBut hs₁.extBut D.i1z) (hl1.extBut hs₁.extBut D.l1z) hx fun h₂ h1₂ hs₂ => wpAny_pure ?_)
  refine wpAny_pure ?_
  refine wpAny_bind (wpAny_bind (wpAny_holding ?_))
  show wpAny _ _ (Builtin.SmallTypes.nextOf (.ref i2) >>= _) _ _ _
  refine wpAny_bind (nextOf_tuple_item (s := { s with heap := h₂ }) ((h2.extBut hs₁.extBut D.i2z).extBut hs₂.extBut D.i12.symm) ((hl2.extBut hs₁.extBut D.l2z).extBut hs₂.extBut D.l2i1) hy fun h₃ h2₃ hs₃ => wpAny_pure ?_)
  refine wpAny_pure (wpAny_pure ?_)
  show wpAny _ _ (newTuple [x, y] >>= _) _ _ _
  refine wpAny_bind (wpAny_newTuple ?_)
  have hsz : h₃.objs.size = s.heap.objs.size := by rw [hs₃.1, hs₂.1, hs₁.1]
  have hz₃ : IsZipHeld h₃ z TI TO T true := hs₃.extBut _ _ D.i2z.symm (hs₂.extBut _ _ D.i1z.symm hz₁)
  have hk : ∀ c o, c ≠ z → c ≠ i1 → c ≠ i2 → s.heap.get? c = some o → h₃.get? c = some o := fun c o c1 c2 c3 e => hs₃.extBut _ _ c3 (hs₂.extBut _ _ c2 (hs₁.extBut _ _ c1 e))
  have h1₃ : h₃.IsTupleIter i1 l1 (k1 + 1) := h1₂.extBut hs₃.extBut D.i12
  refine wpAny_pure ⟨_, rfl, ?_⟩
  show Q (.ref h₃.objs.size) _
  have hp : PySem.IsPair (h₃.push { cls := .type "tuple", data := .seq #[x, y] }) h₃.objs.size x y := Heap.get?_push_size _ rfl
  have hz4 : (h₃.push { cls := .type "tuple", data := .seq #[x, y] }).objs.size = h₃.objs.size + 1 := Heap.size_push ..
  rw [hsz] at hp hz4 ⊢
  exact hQ _ (Heap.get?_push_of_some _ hz₃) (h1₃.at fun o e => Heap.get?_push_of_some _ e) (h2₃.at fun o e => Heap.get?_push_of_some _ e) hp hz4 fun c o c1 c2 c3 e => Heap.get?_push_of_some _ (hk c o c1 c2 c3 e)
theorem zipT_end_held {z TI TO T i1 i2 l1 l2 : Addr} {f : Bool} {oT : Obj} {k1 k2 : Nat} {xs ys : Array Value} {Q : Fin → Shared → Prop} (hh : A.handled = none) (D : ZipApart z TI TO i1 i2 l1 l2)
    (hz : IsZipHeld s.heap z TI TO T f) (hT : s.heap.get? T = some oT) (hTI : PySem.IsPair s.heap TI (.ref i1) (.ref i2))
    (h1 : s.heap.IsTupleIter i1 l1 k1) (h2 : s.heap.IsTupleIter i2 l2 k2) (hl1 : s.heap.IsTuple l1 xs) (hl2 : s.heap.IsTuple l2 ys) (hx : xs[k1]? = none)
    (hE : ∀ h' e, (∀ c o, c ≠ z → c ≠ i1 → c ≠ i2 → s.heap.get? c = some o → h'.get? c = some o) → (∃ o, h'.get? e = some o ∧ o.cls = .type "StopIteration") → E (.ref e) { s with heap := h' }) :
    wpAny (model prog w) A (Builtin.«zip.__next__» ⟨[.ref z], []⟩) Q E s := by
  show wpAny _ _ (field (.ref z) 2 >>= _) _ _ _
  refine wpAny_bind (wpAny_field hz rfl (x := .bool false) rfl ?_)
  show wpAny _ _ (field (.ref z) 3 >>= _) _ _ _
  refine wpAny_bind (wpAny_field hz rfl (x := .ref TI) rfl ?_)
  refine wpAny_bind (wpAny_seqItems hTI rfl ?_)
  show wpAny _ _ (Builtin.SmallTypes.ownedTupleIsFree (.ref z) >>= _) _ _ _
  refine wpAny_bind (wpAny_tupleHeld_zip hz hT fun h₁ hz₁ hs₁ => ?_)
  simp only [Bool.false_eq_true, if_false]
  refine wpAny_bind ?_
  rw [← Array.forIn_toList]
  simp only [List.forIn_cons, List.forIn_nil]
  refine wpAny_bind (wpAny_bind (wpAny_holding ?_))
  show wpAny _ _ (Builtin.SmallTypes.nextOf (.ref i1) >>= _) _ _ _
  refine wpAny_bind (nextOf_tuple_end (s := { s with heap := h₁ }) hh (h1.extBut hs₁.extBut D.i1z) (hl1.extBut hs₁.extBut D.l1z) hx fun h₂ e hs₂ he => ?_)
  exact hE h₂ e (fun c o c1 c2 _ x => hs₂ _ _ c2 (hs₁.extBut _ _ c1 x)) he
theorem pyNext_zipT_item_held {z TI TO T i1 i2 l1 l2 : Addr} {f : Bool} {oT : Obj} {k1 k2 : Nat} {xs ys : Array Value} {x y : Value} {Q : Option Value → Shared → Prop} (D : ZipApart z TI TO i1 i2 l1 l2)
    (hz : IsZipHeld s.heap z TI TO T f) (hT : s.heap.get? T = some oT) (hTI : PySem.IsPair s.heap TI (.ref i1) (.ref i2))
    (h1 : s.heap.IsTupleIter i1 l1 k1) (h2 : s.heap.IsTupleIter i2 l2 k2) (hl1 : s.heap.IsTuple l1 xs) (hl2 : s.heap.IsTuple l2 ys) (hx : xs[k1]? = some x) (hy : ys[k2]? = some y)
    (hQ : ∀ h', IsZipHeld h' z TI TO T true → h'.IsTupleIter i1 l1 (k1 + 1) → h'.IsTupleIter i2 l2 (k2 + 1) → PySem.IsPair h' s.heap.objs.size x y → h'.objs.size = s.heap.objs.size + 1 →
      (∀ c o, c ≠ z → c ≠ i1 → c ≠ i2 → s.heap.get? c = some o → h'.get? c = some o) → Q (some (.ref s.heap.objs.size)) { s with heap := h' }) :
    wpAny (model prog w) A (pyNext (.ref z)) Q E s := by
  have hTy : s.TypeIs (.ref z) "zip" := ⟨_, hz, rfl⟩
  unfold pyNext
  exact wpAny_bind (wpAny_attempt (wpAny_callSpecial?_slot (name := Str.ofString "__next__") hTy F.slot_zip_next
    (wpAny_call_entry F.slot_zip_next hTy F.entry_zip_next
      (zipT_item_held D hz hT hTI h1 h2 hl1 hl2 hx hy fun h' a1 a3 a4 a5 a6 a7 => wpAny_pure (hQ h' a1 a3 a4 a5 a6 a7)) (F.args_zip_next_1 _))))
theorem pyNext_zipT_end_held {z TI TO T i1 i2 l1 l2 : Addr} {f : Bool} {oT : Obj} {k1 k2 : Nat} {xs ys : Array Value} {Q : Option Value → Shared → Prop} (hh : A.handled = none) (D : ZipApart z TI TO i1 i2 l1 l2)
    (hz : IsZipHeld s.heap z TI TO T f) (hT : s.heap.get? T = some oT) (hTI : PySem.IsPair s.heap TI (.ref i1) (.ref i2))
    (h1 : s.heap.IsTupleIter i1 l1 k1) (h2 : s.heap.IsTupleIter i2 l2 k2) (hl1 : s.heap.IsTuple l1 xs) (hl2 : s.heap.IsTuple l2 ys) (hx : xs[k1]? = none)
    (hQ : ∀ h', (∀ c o, c ≠ z → c ≠ i1 → c ≠ i2 → s.heap.get? c = some o → h'.get? c = some o) → Q none { s with heap := h' }) : wpAny (model prog w) A (pyNext (.ref z)) Q E s := by
  have hTy : s.TypeIs (.ref z) "zip" := ⟨_, hz, rfl⟩
  unfold pyNext
  refine wpAny_bind (wpAny_attempt (wpAny_callSpecial?_slot (name := Str.ofString "__next__") hTy F.slot_zip_next
    (wpAny_call_entry F.slot_zip_next hTy F.entry_zip_next (zipT_end_held hh D hz hT hTI h1 h2 hl1 hl2 hx fun h' e hk he => ?_) (F.args_zip_next_1 _))))
  obtain ⟨o, ho, hc⟩ := he
  refine wpAny_bind (wpAny_isInstance (T := "StopIteration") (b := true) ⟨o, ho, hc⟩ isSubtype_stop ?_)
  exact wpAny_pure (hQ _ hk)
end
end RZ

namespace KD
open PySem PySem.Spec PyProof.Rows L2 KX RZ
/-- the pairs so far -/
def PrsZ (H : Hp) (xs ys vs : List V) : Prop := ∀ (j : Nat) (v : V), vs[j]? = some v → ∃ (T : Addr) (x y : V), v = V.ref T ∧ H T = some (.tup [x, y]) ∧ xs[j]? = some x ∧ ys[j]? = some y
structure ZSt (X : Cx) (pins : List (Addr × Obj)) (σ : L2.St) (H0 : Hp) (a b z TI TO i1 i2 S : Addr) (xs ys : List V) (i : Nat) (H : Hp) (s : Shared) (vs : List V) : Prop where
  I : Inv X pins σ H s
  fp : ∀ c ∈ [z, TI, TO, i1, i2], FpOk X pins H c
  TIp : PySem.IsPair s.heap TI (.ref i1) (.ref i2)
  h1 : s.heap.IsTupleIter i1 a i
  h2 : s.heap.IsTupleIter i2 b i
  qa : SqT X.K H a xs
  qb : SqT X.K H b ys
  zz : (IsZip s.heap z TI TO .none ∧ ∃ x y, PySem.IsPair s.heap TO x y) ∨ ∃ T f p, IsZipHeld s.heap z TI TO T f ∧ H T = some (.tup p)
  S0 : H0 S = none
  HS : H S = some (.lst vs)
  ex : Ex H0 H
  TOx : ∃ o, s.heap.get? TO = some o
  vl : vs.length = i
  pr : PrsZ H xs ys vs
theorem fp_upd {X : Cx} {pins : List (Addr × Obj)} {H : Hp} {c p : Addr} {o : HO} (h : FpOk X pins H c) (ne : c ≠ p) : FpOk X pins (L2.upd H p o) c := ⟨by rw [upd_ne ne]; exact h.1, h.2⟩
section
variable {X : Cx} {A : Around} {pins : List (Addr × Obj)} {σ : L2.St} {H0 : Hp} {a b z TI TO i1 i2 S : Addr} {xs ys : List V} {R : Result → Shared → Prop} {res : Value}
theorem mem5 {c : Addr} (h : c ∈ [z, TI, TO, i1, i2]) : c = z ∨ c = TI ∨ c = TO ∨ c = i1 ∨ c = i2 := by simpa using h
/-- one turn done -/
theorem zst_step {i : Nat} {H : Hp} {s : Shared} {vs : List V} {h' : Heap} {x y : V} {u v : Value} (D : ZipApart z TI TO i1 i2 a b) (Z : ZSt X pins σ H0 a b z TI TO i1 i2 S xs ys i H s vs)
    (hxs : xs[i]? = some x) (hys : ys[i]? = some y) (ru : RelV x u) (rv : RelV y v) (hz : xs.length ≤ sizeLine)
    (TOx : ∃ o, h'.get? TO = some o) (TIp : PySem.IsPair h' TI (.ref i1) (.ref i2)) (h1 : h'.IsTupleIter i1 a (i + 1)) (h2 : h'.IsTupleIter i2 b (i + 1)) (hp : PySem.IsPair h' s.heap.objs.size u v)
    (kz : ∃ T f, IsZipHeld h' z TI TO T f ∧ (T = s.heap.objs.size ∨ ∃ p, H T = some (.tup p)))
    (hk : ∀ c o, c ∉ [z, TI, TO, i1, i2] → s.heap.get? c = some o → h'.get? c = some o) :
    ∃ its n, h'.get? S = some { cls := .type "list", dict := none, data := .seq its n, slots := #[] } ∧ its.size ≤ sizeLine ∧ its.size < sizeLine + 1 ∧
      ZSt X pins σ H0 a b z TI TO i1 i2 S xs ys (i + 1) (upd (upd H s.heap.objs.size (.tup [x, y])) S (.lst (vs ++ [V.ref s.heap.objs.size]))) { s with heap := h'.update S (Obj.mapSeq (·.push (.ref s.heap.objs.size))) } (vs ++ [V.ref s.heap.objs.size]) := by
  have hi : i < xs.length := (List.getElem?_eq_some_iff.mp hxs).1
  have Hn : H s.heap.objs.size = none := Z.I.fresh
  have new : ObjOk X.prog X.w (upd H s.heap.objs.size (.tup [x, y])) h' s.heap.objs.size (.tup [x, y]) :=
    ⟨by show 2 ≤ sizeLine; decide, [u, v], .cons ru (.cons rv .nil), ⟨_, hp, rfl, _, rfl⟩⟩
  have I1 : Inv X pins σ (upd H s.heap.objs.size (.tup [x, y])) { s with heap := h' } := Z.I.turnedNew (t' := s.toks) (ch := [z, TI, TO, i1, i2]) (fun c o hb q => hk c o hb q) Z.fp (Nat.le_refl _) new
  have SN : S ≠ s.heap.objs.size := ne_of_none Z.HS Hn
  have HS1 : upd H s.heap.objs.size (.tup [x, y]) S = some (.lst vs) := by rw [upd_ne SN]; exact Z.HS
  obtain ⟨lz, its, n, r, hl, e⟩ := I1.lstM HS1
  have e' : h'.get? S = some { cls := .type "list", data := .seq its.toArray n } := e
  have lits : its.length = i := by rw [← r.length]; exact Z.vl
  refine ⟨its.toArray, n, e', by rw [List.size_toArray]; omega, by rw [List.size_toArray]; omega, ?_⟩
  have e1 : Ex H (upd H s.heap.objs.size (.tup [x, y])) := Evl.Ex.new Hn
  have sc : ∀ c, c ∈ [z, TI, TO, i1, i2] → c ≠ S ∧ c ≠ s.heap.objs.size := fun c hc => by
    refine ⟨fun q => ?_, fun q => ?_⟩
    · have := (Z.fp c hc).1
      rw [q, Z.HS] at this
      cases this
    · have lt : c < s.heap.objs.size := by
        rcases mem5 hc with q | q | q | q | q
        · rw [q]
          rcases Z.zz with ⟨h, _⟩ | ⟨T, f, p, h, _⟩
          · exact Heap.lt_size h
          · exact Heap.lt_size h
        · rw [q]; exact Heap.lt_size Z.TIp
        · rw [q]
          obtain ⟨o, h⟩ := Z.TOx
          exact Heap.lt_size h
        · rw [q]; obtain ⟨_, e, _⟩ := Z.h1; exact Heap.lt_size e
        · rw [q]; obtain ⟨_, e, _⟩ := Z.h2; exact Heap.lt_size e
      exact absurd q (Nat.ne_of_lt lt)
  have oth : ∀ c o, c ≠ S → h'.get? c = some o → (h'.update S (Obj.mapSeq (·.push (.ref s.heap.objs.size)))).get? c = some o := fun c o hc q => (Heap.get?_update_other _ _ (Ne.symm hc)).trans q
  have mz : z ∈ [z, TI, TO, i1, i2] := by simp
  have mTI : TI ∈ [z, TI, TO, i1, i2] := by simp
  have m1 : i1 ∈ [z, TI, TO, i1, i2] := by simp
  have m2 : i2 ∈ [z, TI, TO, i1, i2] := by simp
  have ex2 : Ex H0 (upd (upd H s.heap.objs.size (.tup [x, y])) S (.lst (vs ++ [V.ref s.heap.objs.size]))) := Evl.Ex.mut (Z.ex.trans e1) Z.S0
  have Q : ∀ {c xs}, SqT X.K H c xs → SqT X.K (upd (upd H s.heap.objs.size (.tup [x, y])) S (.lst (vs ++ [V.ref s.heap.objs.size]))) c xs := fun {c xs} h => by
    have up : ∀ o, (∀ l, o ≠ .lst l) → H c = some o → upd (upd H s.heap.objs.size (.tup [x, y])) S (.lst (vs ++ [V.ref s.heap.objs.size])) c = some o := fun o nl q => by
      rw [upd_ne (fun w => by rw [w, Z.HS] at q; cases q; exact nl _ rfl)]
      exact e1 _ _ q
    rcases h with (h | ⟨o, h⟩) | h
    · exact .inl (.inl (up _ (fun l q => nomatch q) h))
    · exact .inl (.inr ⟨o, up _ (fun l q => nomatch q) h⟩)
    · exact .inr h
  refine ⟨I1.lset (its' := its ++ [Value.ref s.heap.objs.size]) (t' := s.toks) HS1 e' (by simp) (r.append (.cons (show L2.RelV (V.ref s.heap.objs.size) (Value.ref s.heap.objs.size) from rfl) .nil)) (by rw [List.length_append, List.length_singleton, Z.vl]; omega), fun c hc => fp_upd (fp_upd (Z.fp c hc) (sc c hc).2) (sc c hc).1, oth _ _ (sc _ mTI).1 TIp, h1.at fun o q => oth _ o (sc _ m1).1 q, h2.at fun o q => oth _ o (sc _ m2).1 q, Q Z.qa, Q Z.qb, ?_, Z.S0, upd_same, ex2, let ⟨o, q⟩ := TOx; ⟨o, oth _ _ (sc TO (by simp)).1 q⟩, by rw [List.length_append, Z.vl]; rfl, ?_⟩
  · obtain ⟨T, f, k1, k2⟩ := kz
    refine .inr ⟨T, f, ?_⟩
    rcases k2 with rfl | ⟨p, k2⟩
    · exact ⟨[x, y], oth _ _ (sc _ mz).1 k1, by rw [upd_ne SN.symm]; exact upd_same⟩
    · refine ⟨p, oth _ _ (sc _ mz).1 k1, ?_⟩
      rw [upd_ne (fun w => by rw [w, Z.HS] at k2; cases k2)]
      exact e1 _ _ k2
  · intro j w hw
    rw [List.getElem?_append] at hw
    split at hw
    · obtain ⟨T, x', y', q1, q2, q3, q4⟩ := Z.pr j w hw
      refine ⟨T, x', y', q1, ?_, q3, q4⟩
      rw [upd_ne (fun w => by rw [w, Z.HS] at q2; cases q2)]
      exact e1 _ _ q2
    · rename_i hj
      have : j = i := by
        by_cases q : j - vs.length = 0
        · have := Z.vl; omega
        · rw [List.getElem?_eq_none (by simp; omega)] at hw
          cases hw
      subst this
      rw [Z.vl, Nat.sub_self] at hw
      cases hw
      exact ⟨_, x, y, rfl, by rw [upd_ne SN.symm]; exact upd_same, hxs, hys⟩
/-- the loop over the zip -/
theorem zl_loop (hh : A.handled = none) (D : ZipApart z TI TO i1 i2 a b) (hl : xs.length = ys.length) (hz : xs.length ≤ sizeLine)
    (fin : ∀ s' H' vs, Inv X pins σ H' s' → Ex H0 H' → H' S = some (.lst vs) → vs.length = xs.length → PrsZ H' xs ys vs → R (.ok (.ret res)) s') :
    ∀ (k i : Nat) (H : Hp) (s : Shared) (vs : List V), xs.length - i = k → i ≤ xs.length → ZSt X pins σ H0 a b z TI TO i1 i2 S xs ys i H s vs →
      codeAny (model X.prog X.w) A (.builtin "list.extend.loop" ⟨[.ref S, .ref z, res], []⟩) R s := by
  intro k
  induction k with
  | zero =>
    intro i H s vs hk hi Z
    have e : i = xs.length := by omega
    obtain ⟨its, rv, p, _⟩ := Z.I.tuple Z.qa
    obtain ⟨its2, rv2, p2, _⟩ := Z.I.tuple Z.qb
    have l1 := rv.length
    have none1 : its.toArray[i]? = none := by simp; omega
    refine codeAny_builtin F.entry_extend_loop ?_
    rw [Around.under_plainId F.plain_extend_loop _]
    show wpAny _ A.in1 (pyNext (.ref z) >>= _) _ _ s
    refine wpAny_bind ?_
    have done : ∀ h', (∀ c o, c ∉ [z, TI, TO, i1, i2] → s.heap.get? c = some o → h'.get? c = some o) → R (.ok (.ret res)) { s with heap := h' } := fun h' hk' =>
      fin _ H vs (Z.I.turnedL (t' := s.toks) (ch := [z, TI, TO, i1, i2]) (fun c o hb q => hk' c o hb q) Z.fp) Z.ex Z.HS (by rw [Z.vl]; exact e) Z.pr
    rcases Z.zz with ⟨hz0, x0, y0, hTO⟩ | ⟨T, f, pp, hz1, hT⟩
    · exact pyNext_zipT_end (show A.in1.handled = none from hh) D hz0 Z.TIp hTO Z.h1 Z.h2 p p2 (.inl none1) fun h' hk' => wpAny_pure (done h' fun c o hc q => hk' c o (fun w => hc (by simp [w])) (fun w => hc (by simp [w])) (fun w => hc (by simp [w])) (fun w => hc (by simp [w])) q)
    · obtain ⟨_, _, _, oT, eT, _⟩ := Z.I.hok T _ hT
      exact pyNext_zipT_end_held (show A.in1.handled = none from hh) D hz1 eT Z.TIp Z.h1 Z.h2 p p2 none1 fun h' hk' => wpAny_pure (done h' fun c o hc q => hk' c o (fun w => hc (by simp [w])) (fun w => hc (by simp [w])) (fun w => hc (by simp [w])) q)
  | succ k ih =>
    intro i H s vs hk hi Z
    have hlt : i < xs.length := by omega
    obtain ⟨its, rv, p, _⟩ := Z.I.tuple Z.qa
    obtain ⟨its2, rv2, p2, _⟩ := Z.I.tuple Z.qb
    have hx : xs[i]? = some xs[i] := List.getElem?_eq_getElem hlt
    have hlt2 : i < ys.length := by omega
    have hy : ys[i]? = some ys[i] := List.getElem?_eq_getElem hlt2
    obtain ⟨u, hu, ru⟩ := rv.get hx
    obtain ⟨u2, hu2, ru2⟩ := rv2.get hy
    refine codeAny_builtin F.entry_extend_loop ?_
    rw [Around.under_plainId F.plain_extend_loop _]
    show wpAny _ A.in1 (pyNext (.ref z) >>= _) _ _ s
    refine wpAny_bind ?_
    have go : ∀ h' : Heap, (∃ o, h'.get? TO = some o) → PySem.IsPair h' TI (.ref i1) (.ref i2) → h'.IsTupleIter i1 a (i + 1) → h'.IsTupleIter i2 b (i + 1) → PySem.IsPair h' s.heap.objs.size u u2 →
        (∃ T f, IsZipHeld h' z TI TO T f ∧ (T = s.heap.objs.size ∨ ∃ p, H T = some (.tup p))) → (∀ c o, c ∉ [z, TI, TO, i1, i2] → s.heap.get? c = some o → h'.get? c = some o) →
        wpAny (model X.prog X.w) A.in1 (do Builtin.List.listUpdate (.ref S) (·.push (.ref s.heap.objs.size)); again (.builtin "list.extend.loop" ⟨[.ref S, .ref z, res], []⟩))
          (fun fin s' => match fin with | .done f => R (.ok f) s' | .again c' => c'.quiet = true ∧ codeAny (model X.prog X.w) A c' R s') (fun e s' => R (.error e) s') { s with heap := h' } := by
      intro h' g1 g2 g3 g4 g5 g6 g7
      obtain ⟨its', n, e, hs1, hs2, Z'⟩ := zst_step D Z hx hy ru ru2 hz g1 g2 g3 g4 g5 g6 g7
      show wpAny _ A.in1 (updateSeq S (·.push (.ref s.heap.objs.size)) >>= _) _ _ _
      refine wpAny_bind ?_
      exact wpAny_updateSeq e rfl (wpAny_pure ⟨plainId_quiet F.plain_extend_loop _, ih (i + 1) _ _ _ (by omega) hlt Z'⟩) hs1 (by rw [Array.size_push]; omega)
    rcases Z.zz with ⟨hz0, x0, y0, hTO⟩ | ⟨T, f, pp, hz1, hT⟩
    · refine pyNext_zipT_item D hz0 Z.TIp hTO Z.h1 Z.h2 p p2 (x := u) (y := u2) (by simpa using hu) (by simpa using hu2) fun h' z' TO' h1' h2' hT hsz hk' => ?_
      exact go h' ⟨_, TO'⟩ (hk' _ _ D.TIz D.TITO D.TIi1 D.TIi2 Z.TIp) h1' h2' hT ⟨_, false, z', .inl rfl⟩ fun c o hc q => hk' c o (fun w => hc (by simp [w])) (fun w => hc (by simp [w])) (fun w => hc (by simp [w])) (fun w => hc (by simp [w])) q
    · obtain ⟨_, _, _, oT, eT, _⟩ := Z.I.hok T _ hT
      obtain ⟨oTO, eTO⟩ := Z.TOx
      refine pyNext_zipT_item_held D hz1 eT Z.TIp Z.h1 Z.h2 p p2 (x := u) (y := u2) (by simpa using hu) (by simpa using hu2) fun h' z' h1' h2' hT' hsz hk' => ?_
      exact go h' ⟨_, hk' _ _ D.TOz D.TOi1 D.TOi2 eTO⟩ (hk' _ _ D.TIz D.TIi1 D.TIi2 Z.TIp) h1' h2' hT' ⟨T, true, z', .inr ⟨pp, hT⟩⟩ fun c o hc q => hk' c o (fun w => hc (by simp [w])) (fun w => hc (by simp [w])) (fun w => hc (by simp [w])) q
end
end KD

namespace KD
open PySem PySem.Spec PyProof.Rows L2 KX RZ
theorem zip_no_len : typeLookup (.type "zip") "__len__" = pure none := by rw [typeLookup_type, builtinLookup_eq_fast]; kernel_rfl
theorem zip_no_hint : typeLookup (.type "zip") "__length_hint__" = pure none := by rw [typeLookup_type, builtinLookup_eq_fast]; kernel_rfl
section
variable {X : Cx} {A : Around} {pins : List (Addr × Obj)} {σ : L2.St} {H : Hp} {a b z TI TO i1 i2 : Addr} {xs ys : List V} {s : Shared}
theorem zl_init {R : Result → Shared → Prop} (hh : A.handled = none) (D : ZipApart z TI TO i1 i2 a b) (hl : xs.length = ys.length) (hz : xs.length ≤ sizeLine) (I : Inv X pins σ H s)
    (fp : ∀ c ∈ [z, TI, TO, i1, i2], FpOk X pins H c) (zi : IsZip s.heap z TI TO .none) (TIp : PySem.IsPair s.heap TI (.ref i1) (.ref i2)) (TOp : PySem.IsPair s.heap TO .none .none)
    (h1 : s.heap.IsTupleIter i1 a 0) (h2 : s.heap.IsTupleIter i2 b 0) (qa : SqT X.K H a xs) (qb : SqT X.K H b ys)
    (fin : ∀ s' H' vs, Inv X pins σ H' s' → Ex H H' → H' s.heap.objs.size = some (.lst vs) → vs.length = xs.length → PrsZ H' xs ys vs → R (.ok (.ret .none)) s') :
    wpAny (model X.prog X.w) A.in1 (Builtin.«list.__init__» ⟨[.ref s.heap.objs.size, .ref z], []⟩)
      (fun fin s' => match fin with | .done f => R (.ok f) s' | .again c' => c'.quiet = true ∧ codeAny (model X.prog X.w) A c' R s') (fun e s' => R (.error e) s') { s with heap := s.heap.push { cls := .type "list", data := .seq #[] } } := by
  obtain ⟨S, hSe⟩ : ∃ S, S = s.heap.objs.size := ⟨_, rfl⟩
  rw [← hSe] at fin ⊢
  have hS : (s.heap.push { cls := .type "list", data := .seq #[] }).get? S = some { cls := .type "list", data := .seq #[] } := by rw [hSe]; exact Heap.get?_push_size _ rfl
  have lt : ∀ {c o}, s.heap.get? c = some o → c ≠ S := fun {c o} e w => by
    have := Heap.lt_size e
    rw [w, hSe] at this
    exact Nat.lt_irrefl _ this
  have Sz : S ≠ z := fun w => lt zi w.symm
  show wpAny _ A.in1 (do let old ← Builtin.List.listItems (.ref S); Builtin.List.listUpdate (.ref S) (fun _ => #[]); letGo old.toList.reverse; Builtin.List.listExtendWith (.ref S) (.ref z) .none) _ _ _
  refine wpAny_bind ?_
  unfold Builtin.List.listItems
  refine wpAny_bind (wpAny_seqItems hS rfl (wpAny_pure ?_))
  show wpAny _ A.in1 (updateSeq S (fun _ => #[]) >>= fun _ => letGo (#[] : Array Value).toList.reverse >>= fun _ => Builtin.List.listExtendWith (.ref S) (.ref z) .none) _ _ _
  refine wpAny_bind (wpAny_updateSeq hS rfl ?_)
  have hS₂ := Heap.get?_update_self (Obj.mapSeq (fun _ => (#[] : Array Value))) hS rfl
  have oth : ∀ c o, c ≠ S → s.heap.get? c = some o → ((s.heap.push { cls := .type "list", data := .seq #[] }).update S (Obj.mapSeq (fun _ => (#[] : Array Value)))).get? c = some o :=
    fun c o hb e => (Heap.get?_update_other _ _ (Ne.symm hb)).trans (Heap.get?_push_of_some _ e)
  refine wpAny_bind (wpAny_letGo ?_)
  have zi2 := oth _ _ (lt zi) zi
  generalize (s.heap.push { cls := .type "list", data := .seq #[] }).update S (Obj.mapSeq (fun _ => (#[] : Array Value))) = g at hS₂ oth zi2 ⊢
  have hT : ({ s with heap := g } : Shared).TypeIs (.ref z) "zip" := ⟨_, zi2, rfl⟩
  unfold Builtin.List.listExtendWith
  refine wpAny_bind (wpAny_typeOf hT ?_)
  have e1 : Builtin.List.listSameRef (.ref S) (.ref z) = false := by simp [Builtin.List.listSameRef, Sz]
  have e2 : (Value.type "zip" == Value.type "list") = false := by decide
  have e3 : (Value.type "zip" == Value.type "tuple") = false := by decide
  simp only [e1, e2, e3, Bool.or_false, Bool.false_eq_true, if_false]
  refine wpAny_bind (wpAny_pyIter_zip zi2 ?_)
  refine wpAny_bind (wpAny_holding ?_)
  unfold Builtin.List.listLengthHint
  refine wpAny_bind (wpAny_specialOf hT zip_no_len ?_)
  show wpAny _ A.in1 (specialOf (Value.ref z) (Str.ofString "__length_hint__") >>= _) _ _ _
  refine wpAny_bind (wpAny_specialOf hT zip_no_hint ?_)
  refine wpAny_pure ?_
  show wpAny _ A.in1 (rule "list.extend.makes-room" >>= fun _ => Builtin.List.listTouch (.ref S) >>= fun _ =>
    again (.builtin "list.extend.loop" ⟨[.ref S, .ref z, .none], []⟩)) _ _ _
  refine wpAny_bind (wpAny_rule ?_)
  refine wpAny_bind ?_
  show wpAny _ A.in1 (updateSeq S (·.push .none) >>= fun _ => updateSeq S (·.pop)) _ _ _
  refine wpAny_bind (wpAny_updateSeq hS₂ rfl ?_)
  have hS₃ := Heap.get?_update_self (Obj.mapSeq (·.push Value.none)) hS₂ rfl
  refine wpAny_updateSeq (hz := by seq_fits) hS₃ rfl ?_
  have hS₄ := Heap.get?_update_self (Obj.mapSeq (·.pop)) hS₃ rfl
  have oth2 : ∀ c o, c ≠ S → s.heap.get? c = some o → ((g.update S (Obj.mapSeq (·.push Value.none))).update S (Obj.mapSeq (·.pop))).get? c = some o :=
    fun c o hb e => (Heap.get?_update_other _ _ (Ne.symm hb)).trans ((Heap.get?_update_other _ _ (Ne.symm hb)).trans (oth c o hb e))
  generalize (g.update S (Obj.mapSeq (·.push Value.none))).update S (Obj.mapSeq (·.pop)) = g4 at hS₄ oth2 ⊢
  have S0 : H S = none := by rw [hSe]; exact I.fresh
  have I4 : Inv X pins σ (upd H S (.lst [])) { s with heap := g4 } := I.laid (t' := s.toks) (fun c o e => oth2 c o (lt e) e) (by rw [hSe]; exact Nat.le_refl _) ⟨Nat.zero_le _, [], _, .nil, hS₄⟩
  have ext : Ex H (upd H S (.lst [])) := Evl.Ex.new S0
  have sq : ∀ {c zs}, SqT X.K H c zs → SqT X.K (upd H S (.lst [])) c zs := fun {c zs} h => h.elim (fun h => .inl (h.elim (fun h => .inl (ext _ _ h)) fun ⟨o, h⟩ => .inr ⟨o, ext _ _ h⟩)) fun h => .inr h
  refine wpAny_pure ⟨plainId_quiet F.plain_extend_loop _, zl_loop (res := .none) hh D hl hz (H0 := H) (S := S) fin xs.length 0 (upd H S (.lst [])) { s with heap := g4 } [] (Nat.sub_zero _) (Nat.zero_le _) ?_⟩
  refine ⟨I4, fun c hc => fp_upd (fp c hc) ?_, oth2 _ _ (lt TIp) TIp, h1.at fun o q => oth2 _ o (lt q) q, h2.at fun o q => oth2 _ o (lt q) q, sq qa, sq qb, .inl ⟨oth2 _ _ (lt zi) zi, _, _, oth2 _ _ (lt TOp) TOp⟩, S0, upd_same, ext, ⟨_, oth2 _ _ (lt TOp) TOp⟩, rfl, fun j v h => by simp at h⟩
  rcases mem5 hc with q | q | q | q | q
  · rw [q]; exact lt zi
  · rw [q]; exact lt TIp
  · rw [q]; exact lt TOp
  · rw [q]; obtain ⟨_, e, _⟩ := h1; exact lt e
  · rw [q]; obtain ⟨_, e, _⟩ := h2; exact lt e
theorem zl_call {Q : Value → Shared → Prop} {E : Value → Shared → Prop} (hh : A.handled = none) (D : ZipApart z TI TO i1 i2 a b) (hl : xs.length = ys.length) (hz : xs.length ≤ sizeLine) (I : Inv X pins σ H s)
    (fp : ∀ c ∈ [z, TI, TO, i1, i2], FpOk X pins H c) (zi : IsZip s.heap z TI TO .none) (TIp : PySem.IsPair s.heap TI (.ref i1) (.ref i2)) (TOp : PySem.IsPair s.heap TO .none .none)
    (h1 : s.heap.IsTupleIter i1 a 0) (h2 : s.heap.IsTupleIter i2 b 0) (qa : SqT X.K H a xs) (qb : SqT X.K H b ys)
    (fin : ∀ s' H' vs, Inv X pins σ H' s' → Ex H H' → H' s.heap.objs.size = some (.lst vs) → vs.length = xs.length → PrsZ H' xs ys vs → Q (.ref s.heap.objs.size) s') :
    wpAny (model X.prog X.w) A (call (.type "list") [.ref z]) Q E s := by
  refine callType_codes (Q₁ := fun obj s₁ => obj = .ref s.heap.objs.size ∧ s₁ = { s with heap := s.heap.push { cls := .type "list", data := .seq #[] } }) F.called_list (F.typeCall_list_1 _) F.entry_list_init
    (code_list_new _ ⟨rfl, rfl⟩) fun obj s₁ h₁ => ?_
  obtain ⟨rfl, rfl⟩ := h₁
  have hS : (s.heap.push { cls := .type "list", data := .seq #[] }).get? s.heap.objs.size = some { cls := .type "list", data := .seq #[] } := Heap.get?_push_size _ rfl
  exact ⟨⟨_, hS, rfl⟩, F.args_list_init_2 _ _, zl_init (A := A.in1) (show A.in1.handled = none from hh) D hl hz I fp zi TIp TOp h1 h2 qa qb fun s' H' vs I' e q l p => ⟨rfl, fin s' H' vs I' e q l p⟩⟩
end
/-- list(zip(e, e2)), two tuples of one length -/
def tListZip (K : PySem.W.Frag) (ta : TA) : TE := fun σ H Q => ta σ H fun vs H1 => ∃ a b xs ys, vs = [.ref a, .ref b] ∧ SqT K H1 a xs ∧ SqT K H1 b ys ∧ xs.length = ys.length ∧
  ∀ S H' vs, H1 S = none → Ex H1 H' → H' S = some (.lst vs) → vs.length = xs.length → PrsZ H' xs ys vs → Q (.ref S) H'
theorem pe_listzip {X : Cx} {e e2 : Expr} {ta : TA} {p p2 pos pos2 : Pos} (hc : X.calm = true) (hgl : Gl X "list") (hml : X.mg "list" = none) (hgz : Gl X "zip") (hmz : X.mg "zip" = none) (ha : PA X [e, e2] ta)
    (hs : starEach [e, e2] X.env = (false, eval e X.env) :: starEach [e2] X.env := by rfl) (hpl : (backTo pos2 (starEach [e2] X.env)).any (·.1) = false := by rfl) :
    PE X (.Call (.Name "list" p) [.Call (.Name "zip" p2) [e, e2] [] pos2] [] pos) (tListZip X.K ta) := by
  refine ⟨fun pins s σ H Q I h => ?_⟩
  refine wpAny_Call_Name_kw (ld_blt I hgl hml Pv.boot_list ?_)
  refine PyProof.Rows.callWith_type1 (e := .Call (.Name "zip" p2) [e, e2] [] pos2) (rest := []) (Calls.spliced_cons ?_)
  refine Call_ (ld_blt I hgz hmz PyProof.Rows.boot_zip (PyProof.Rows.callWith_type1 (thn (ha.run pos2 pins s σ H _ I h) fun us s1 ⟨vs, H1, I1, r1, q1⟩ => ?_) hs hpl))
  obtain ⟨a, b, xs, ys, ex, hqx, hqy, hl, q⟩ := q1
  subst ex
  cases r1 with
  | cons r rr =>
    cases rr with
    | cons r' rr =>
      cases rr
      cases r
      cases r'
      have fresh5 : ∀ c, c ∈ [s1.heap.objs.size + 4, s1.heap.objs.size + 2, s1.heap.objs.size + 3, s1.heap.objs.size, s1.heap.objs.size + 1] → FpOk X pins H1 c := fun c hcm => by
        have e' := mem5 hcm
        have hle : s1.heap.objs.size ≤ c := by
          rcases e' with z | z | z | z | z
          · rw [z]; exact Nat.le_add_right _ _
          · rw [z]; exact Nat.le_add_right _ _
          · rw [z]; exact Nat.le_add_right _ _
          · rw [z]; exact Nat.le_refl _
          · rw [z]; exact Nat.le_add_right _ _
        exact I1.fpOk hle (I1.hok.fresh hle)
      obtain ⟨its, rv, p1, hz1⟩ := I1.tuple hqx
      obtain ⟨its2, rv2, p2, _⟩ := I1.tuple hqy
      obtain ⟨o1, ho1, _⟩ := id p1
      obtain ⟨o2, ho2, _⟩ := id p2
      refine call_zipT (show s1.heap.IsTuple a its.toArray from p1) (show s1.heap.IsTuple b its2.toArray from p2) fun h' hz hTI hTO h1 h2 hsz hk => ?_
      have I2 : Inv X pins σ H1 { s1 with heap := h' } := I1.kept (t' := s1.toks) hk
      refine Calls.spliced_nil ?_
      refine zl_call (s := { s1 with heap := h' }) (I.ok.hd hc) (PySem.W.ktu_apart s1.heap.objs.size a b (Heap.lt_size ho1) (Heap.lt_size ho2)) hl hz1 I2 fresh5 hz hTI hTO h1 h2 hqx hqy fun s' H' vs I' e q1 l p => ?_
      exact ⟨.ref _, H', I', rfl, q _ _ vs I2.fresh e q1 l p⟩
end KD

namespace KD
open PySem PySem.Spec PyProof.Rows L2 KX
section
variable {T : Type} {Wd : Wld T} {C : Ct Wd} {K : PySem.W.Frag} {fo : Addr → Prop} {ρ ρ' : Env} {τ τ' : T} {σ : L2.St} {H H' : Hp} {v : V} {W : WX}
theorem fza_of_get : ∀ {vs : List V} {ds : List D}, vs.length = ds.length → (∀ (j : Nat) (v : V) (d : D), vs[j]? = some v → ds[j]? = some d → Fz K fo H v d) → FzA K fo H vs ds
  | [], [], _, _ => .nil
  | [], d :: ds, h, _ => by simp at h
  | v :: vs, [], h, _ => by simp at h
  | v :: vs, d :: ds, h, f => .cons (f 0 v d rfl rfl) (fza_of_get (by simpa using h) fun j w e h1 h2 => f (j + 1) w e (by simpa using h1) (by simpa using h2))
def pairsD (as bs : List D) : List D := List.zipWith (fun a b => .tup [a, b]) as bs
def dListZip (u : DA T) : DE T := fun xc ρ τ Q => u xc ρ τ fun ds ρ1 τ1 => match ds with
  | [.tup as, .tup bs] => as.length = bs.length ∧ Q (.new (pairsD as bs)) ρ1 τ1
  | _ => False
theorem ed_listzip {X : Cx} {e : Expr} {u : DA T} (h : PE X e (tListZip K (toTA K W Wd u))) : PE X e (toTE K W Wd (dListZip u)) := by
  refine pe_imp h fun σ H Q ⟨C, ρ, τ, Qd, xc, r, q, hx, k⟩ => ⟨C, ρ, τ, _, xc, r, q, hx, fun vs H1 ds ρ1 τ1 q1 r1 f1 s1 => ?_⟩
  split at q1
  · rename_i as bs
    cases f1 with
    | cons fa f2 =>
      cases f2 with
      | cons fb f3 =>
        cases f3
        cases fa with
        | tup ha ga =>
          cases fb with
          | tup hb gb =>
            rename_i xa xs xb ys
            refine ⟨_, _, xs, ys, rfl, ha, hb, by rw [fza_len ga, fza_len gb]; exact q1.1, fun S H' vs hS ex hS' hl pr => ?_⟩
            have nv : NewV K C.fo H1 H' (.ref S) (.new (pairsD as bs)) := by
              refine ⟨ex, S, vs, rfl, hS, hS', fza_of_get ?_ fun j w e hw he => ?_⟩
              · unfold pairsD
                rw [hl, fza_len ga, List.length_zipWith]
                have := q1.1
                omega
              · obtain ⟨T, x, y, rfl, hT, hx, hy⟩ := pr j w hw
                unfold pairsD at he
                rw [List.getElem?_zipWith] at he
                obtain ⟨a, ea, fa⟩ := fza_getV ga hx
                obtain ⟨b, eb, fb⟩ := fza_getV gb hy
                rw [ea, eb] at he
                cases he
                exact .tup (SqT.of hT) (.cons (fz_kp (.of_ex ex) fa) (.cons (fz_kp (.of_ex ex) fb) .nil))
            obtain ⟨r2, vr, nw, e⟩ := newv_ok r1 nv
            exact k _ _ _ _ _ q1.2 r2 vr (nw.stp s1) (s1.trans (.ex e))
  · exact q1.elim
end
end KD

/-! lists that are not unequal, their items seen by an own == -/
namespace GQ
open PySem PySem.SeqAt
open AutoSeq1 (wpAny_loadPart')
open MeetsSeq MeetsSeq2 MeetsSeq3 SeqRoads2
section
variable {prog : Program} {w : World} {A : Around} {R : Result → Shared → Prop}
theorem ne_loopG (l b : Addr) (N : Nat) (I : Nat → Shared → Prop) (hl : ListI prog w A (fun e s' => R (.error e) s') l b N I)
    (fin : ∀ s, I N s → R (.ok (.ret (.bool false))) s) (k : Nat) :
    ∀ i : Nat, N - i = k → i ≤ N → ∀ s, I i s →
      wpAny (model prog w) A.in1 (Builtin.«list.__eq__.loop» ⟨[.ref l, .ref b, rawInt i, rawInt 3], []⟩) (FinOf prog w A R) (fun e s' => R (.error e) s') s := by
  induction k with
  | zero =>
    intro i hk hi s h
    obtain ⟨items, items2, n, n2, hl1, hb1, hs1, hs2, _⟩ := hl _ _ h
    have hi' : i = N := by omega
    have hR : R (.ok (.ret (.bool false))) s := fin s (hi' ▸ h)
    obtain ⟨hp, g, d, tk, os⟩ := s
    wp_walk using wpAny_loadPart' hl1, wpAny_loadPart' hb1
    have hi1 : items[((i : Nat) : Int).toNat]? = none := by simp; omega
    have hi2 : items2[((i : Nat) : Int).toNat]? = none := by simp; omega
    rw [hi1, hi2]
    wp_walk using wpAny_loadPart' hl1, wpAny_loadPart' hb1
    show R (.ok (.ret (.bool (items.size != items2.size)))) _
    rw [hs1, hs2]
    simpa using hR
  | succ k ih =>
    intro i hk hi s h
    obtain ⟨items, items2, n, n2, hl1, hb1, hs1, hs2, turn⟩ := hl _ _ h
    have hlt : i < items.size := by omega
    have hlt2 : i < items2.size := by omega
    have ht := turn hlt hlt2
    obtain ⟨hp, g, d, tk, os⟩ := s
    wp_walk using wpAny_loadPart' hl1, wpAny_loadPart' hb1
    have hi1 : items[((i : Nat) : Int).toNat]? = some items[i] := by simp [hlt]
    have hi2 : items2[((i : Nat) : Int).toNat]? = some items2[i] := by simp [hlt2]
    have hc : ((i : Int) + 1) = ((i + 1 : Nat) : Int) := by omega
    rw [hi1, hi2]
    refine wpAny_bind (wpAny_mono ht (fun r s2 h2 => ?_) fun _ _ x => x)
    obtain ⟨hr, h2⟩ := h2
    subst hr
    have hrec := ih (i + 1) (by omega) (by omega) s2 h2
    obtain ⟨hp2, g2, d2, tk2, os2⟩ := s2
    wp_walk
    rw [hc]
    exact ⟨plainId_quiet plain_eq_loop _, codeAny_builtin entry_eq_loop (by
      rw [Around.under_plainId plain_eq_loop _]
      exact hrec)⟩
theorem list_neG (l b : Addr) (N : Nat) (I : Nat → Shared → Prop) (hl : ListI prog w A (fun e s' => R (.error e) s') l b N I)
    (fin : ∀ s, I N s → R (.ok (.ret (.bool false))) s) {s : Shared} (h : I 0 s) :
    wpAny (model prog w) A.in1 (Builtin.«list.__ne__» ⟨[.ref l, .ref b], []⟩) (FinOf prog w A R) (fun e s' => R (.error e) s') s := by
  obtain ⟨items, items2, n, n2, hl1, hb1, hs1, hs2, _⟩ := hl _ _ h
  have hrec := ne_loopG (A := A) (R := R) l b N I hl fin _ 0 rfl (Nat.zero_le _) s h
  obtain ⟨hp, g, d, tk, os⟩ := s
  have f3 := AutoSeq1.sub_list_list
  have hne : ¬ (items.size != items2.size) = true := by simp [hs1, hs2]
  wp_walk using wpAny_loadPart' hl1, wpAny_loadPart' hb1
  exact ⟨plainId_quiet plain_eq_loop _, codeAny_builtin entry_eq_loop (by
    rw [Around.under_plainId plain_eq_loop _]
    exact hrec)⟩
end
section
variable {prog : Program} {w : World} {A : Around} {E : Value → Shared → Prop} {s : Shared}
theorem rc_neListG {l b : Addr} {N : Nat} {Q : Value → Shared → Prop} (hu : A.units < cLine) (I : Nat → Shared → Prop) (hl : ListI prog w A E l b N I)
    (fin : ∀ s, I N s → Q (.bool false) s) (h : I 0 s) : wpAny (model prog w) A (richCompare .NotEq (.ref l) (.ref b)) Q E s := by
  obtain ⟨items, items2, n, n2, hl1, hb1, _, _, _⟩ := hl _ _ h
  refine wpAny_richCompare_same_room (op := .NotEq) ⟨_, hl1, rfl⟩ ⟨_, hb1, rfl⟩ F.slot_list_ne (call_here F.slot_list_ne ⟨_, hl1, rfl⟩ F.entry_list_ne (F.args_list_ne_2 _ _) ?_) hu
  exact list_neG (R := wants (fun v s' => v ≠ .notImplemented ∧ Q v s') E) l b N I hl (fun s' q => ⟨(fun x => nomatch x), fin s' q⟩) h
end
end GQ
namespace KD
open PySem PySem.Spec PyProof.Rows L2 KX KM
/-- x != y of two lists whose items are seen to be equal -/
def rNeLG (D : Eqv) : R2 := fun x y H Q => ∃ a b xs ys, x = V.ref a ∧ y = V.ref b ∧ Rd H a (.lst xs) ∧ Rd H b (.lst ys) ∧ Prs D xs ys H ∧ ∀ H', Ext H H' → Q (.bl false) H'
theorem rd_ext {H H' : Hp} {a : Addr} {xs : List V} (e : Ext H H') (h : Rd H a (.lst xs)) : Rd H' a (.lst xs) := by
  rcases h with h | ⟨o, h⟩
  · exact .inl (e _ _ h)
  · exact .inr ⟨o, e _ _ h⟩
theorem op_neLG {X : Cx} {n : Nat} {D : Eqv} (hD : Mon D) (h : EqG X n D) (hr : Room (n + 1) X.A) : OpR X (compareOp .NotEq) (rNeLG D) := by
  intro pins s σ H x y v u Q I rx ry hq
  obtain ⟨a, b, xs, ys, rfl, rfl, ha, hb, p, q⟩ := hq
  cases rx
  cases ry
  have sb : Sub X (n + 1) X.A := ⟨hr, rfl⟩
  show wpAny (model X.prog X.w) X.A (richCompare .NotEq (.ref a) (.ref b)) (EP X pins σ Q) X.xe s
  refine GQ.rc_neListG (N := xs.length) sb.room.units0 (fun _ s' => LoopI X pins σ H s') (fun i s' l => ?_) (fun s' l => ?_) ⟨H, I, Ext.rfl'⟩
  · obtain ⟨H1, I1, e1⟩ := id l
    obtain ⟨its, k, r, e⟩ := rd_lst I1 (rd_ext e1 ha)
    obtain ⟨its2, k2, r2, e2⟩ := rd_lst I1 (rd_ext e1 hb)
    refine ⟨its.toArray, its2.toArray, k, k2, e, e2, by rw [List.size_toArray, ← r.length], by rw [List.size_toArray, ← r2.length, ← p.1], fun h1 h2 => ?_⟩
    exact turnG hD h sb p r r2 i h1 h2 s' l
  · obtain ⟨H1, I1, e1⟩ := l
    exact ⟨.bl false, H1, I1, rfl, q H1 e1⟩
/-- rows of records: a text and an object of the class -/
def rowO (CR : Addr) (ns : List Str) (P : List D → Prop) (d : D) : Prop := ∃ l es, d = .tup [.str l, .obj CR ns es] ∧ P es
def oNeRows (CR : Addr) (ns : List Str) (P : List D → Prop) : O2 := fun d e Q => match d, e with
  | .lst ds, .lst es => (ds = es ∧ ∀ d ∈ ds, rowO CR ns P d) ∧ Q (.d (.bl false))
  | _, _ => False
abbrev DRow (K : PySem.W.Frag) (CR : Addr) (ns : List Str) (P : List D → Prop) : Eqv := DTup K (fun x y H => DFlat x y H ∨ DIns CR (SameO K CR ns P) x y H)
theorem mon_row {K : PySem.W.Frag} {CR : Addr} {ns : List Str} {P : List D → Prop} : Mon (DRow K CR ns P) := mon_tup (mon_flat.or (mon_ins mon_same))
theorem c_neRows {K : PySem.W.Frag} {CR : Addr} {ns : List Str} {P : List D → Prop} : C2 K (rNeLG (DRow K CR ns P)) (oNeRows CR ns P) := by
  intro fo H x y d e Qd Q dx dy o k
  cases d with
  | lst ds =>
    cases e with
    | lst es =>
      obtain ⟨⟨rfl, hr⟩, q⟩ := o
      obtain ⟨a, vs, rfl, h1, f1⟩ := dx.lst
      obtain ⟨b, ws, rfl, h2, f2⟩ := dy.lst
      refine ⟨a, b, vs, ws, rfl, rfl, h1, h2, ⟨by rw [fza_len f1, fza_len f2], fun i x y hx hy => ?_⟩, fun H' e => k _ _ _ q ⟨e, .bl false⟩⟩
      obtain ⟨d, hd, fd⟩ := fza_getV f1 hx
      obtain ⟨d2, hd2, fd2⟩ := fza_getV f2 hy
      rw [hd] at hd2
      cases hd2
      obtain ⟨l, fs, rfl, pf⟩ := hr d (List.mem_of_getElem? hd)
      cases fd with
      | tup t1 g1 =>
        cases fd2 with
        | tup t2 g2 =>
          refine ⟨_, _, _, _, rfl, rfl, t1, t2, ?_⟩
          cases g1 with
          | cons a1 b1 =>
            cases b1 with
            | cons a2 b2 =>
              cases b2
              cases g2 with
              | cons c1 d1 =>
                cases d1 with
                | cons c2 d2 =>
                  cases d2
                  refine Prs.cons (.inl ?_) (Prs.cons (.inr ?_) Prs.nil)
                  · cases a1
                    cases c1
                    refine ⟨rfl, rfl, ?_⟩
                    simp [eqV]
                  · have f1 := fz_fo (fo' := fo0) (fun _ z => z.elim) a2
                    have f2 := fz_fo (fo' := fo0) (fun _ z => z.elim) c2
                    cases a2 with
                    | obj m1 _ _ _ =>
                      cases c2 with
                      | obj m2 _ _ _ => exact ⟨_, _, _, _, _, _, rfl, rfl, m1, m2, fs, pf, f1, f2⟩
    | _ => exact o.elim
  | _ => cases e <;> exact o.elim
/-- xs * k -/
def oRep : O2 := fun d e Q => match d, e with
  | .lst ds, .int i => ∃ k : Nat, i = (k : Nat) ∧ ds.length * k ≤ 1000000 ∧ k ≤ 1000000 ∧ Q (.new (List.replicate k ds).flatten)
  | _, _ => False
end KD

namespace KD
open PySem PySem.Spec PyProof.Rows L2 KX KM
def rRepR : R2 := fun x y H Q => ∃ l k xs, x = V.ref l ∧ y = V.int k ∧ Rd H l (.lst xs) ∧ 0 ≤ k ∧ k < 2 ^ 62 ∧ xs.length * k.toNat ≤ sizeLine ∧
  ∀ p, H p = none → Q (.ref p) (upd H p (.lst (List.replicate k.toNat xs).flatten))
theorem op_repR {X : Cx} : OpR X (binaryOp .Mult) rRepR := by
  intro pins s σ H x y v u Q I rx ry h
  obtain ⟨l, k, xs, rfl, rfl, hR, k0, k1, hz, q⟩ := h
  cases rx
  obtain ⟨t, rfl⟩ := ry
  obtain ⟨its, n, r, e⟩ := rd_lst I hR
  have hl := r.length
  have hlen : its.toArray.size * k.toNat ≤ sizeLine := by rw [List.size_toArray, ← hl]; exact hz
  have hcap : ¬ its.toArray.size * k.toNat > (2 ^ 63 - 1) / 8 := by
    have : (sizeLine : Nat) ≤ (2 ^ 63 - 1) / 8 := by decide
    omega
  have hfit : ¬ (!Builtin.List.listFitsIndex k) = true := by
    rw [fitsIndex_both (by omega) (by omega)]
    exact Bool.false_ne_true
  have hlong : ¬ Builtin.List.listTooLong (its.toArray.size * k.toNat) = true := by
    rw [notLongL hlen]
    exact Bool.false_ne_true
  have hnew : List.foldl (fun x1 x2 => x1 ++ x2) #[] (List.replicate (if its.toArray.isEmpty = true then 0 else k.toNat) its.toArray) = (List.replicate k.toNat its).flatten.toArray := by
    have f0 : ∀ m : Nat, List.foldl (fun x1 x2 => x1 ++ x2) #[] (List.replicate m its.toArray) = (List.replicate m its).flatten.toArray := fun m => by
      have := foldl_rep its m []
      rw [List.nil_append] at this
      exact this
    rw [f0]
    cases its with
    | nil => simp
    | cons a r' => rw [if_neg (by simp)]
  refine wpAny_binaryOp_repeat_ref (T := "list") (U := "int") (by decide) ⟨_, e, rfl⟩ (fun s' => typeIs_int s' k t) noFill_list_mul F.fills_int_mul F.slot_int_rmul repeat_list F.slot_int_index.lookup
    (call_meets F.slot_int_rmul (typeIs_int s k t) F.entry_int_rmul (F.args_int_rmul_2 _ _) (int___rmul___int_list k t l its.toArray n)
      ⟨e, rfl, ⟨_, e, rfl⟩, call_meets F.slot_list_mul ⟨_, e, rfl⟩ F.entry_list_mul (F.args_list_mul_2 _ _) (AutoListH.list___mul___list_int_3 l its.toArray n k t hfit hcap hlong) ⟨e, ?_⟩⟩)
  rw [hnew]
  exact ⟨.ref _, _, I.lnew (t' := s.toks) (r.rep k.toNat) (by rw [PyProof.Rows.lm_len_rep_flat, Nat.mul_comm]; exact hz), rfl, q _ I.fresh⟩
theorem fza_rep {K : PySem.W.Frag} {fo : Addr → Prop} {H : Hp} {vs : List V} {ds : List D} (f : FzA K fo H vs ds) : ∀ k : Nat, FzA K fo H (List.replicate k vs).flatten (List.replicate k ds).flatten
  | 0 => .nil
  | k + 1 => by
    rw [List.replicate_succ, List.replicate_succ, List.flatten_cons, List.flatten_cons]
    exact fza_app f (fza_rep f k)
/-- xs * k -/
def oRepL : O2 := fun d e Q => match d, e with
  | .lst ds, .int i => (0 ≤ i ∧ i < 2 ^ 62 ∧ ds.length * i.toNat ≤ sizeLine) ∧ Q (.new (List.replicate i.toNat ds).flatten)
  | _, _ => False
theorem c_rep {K : PySem.W.Frag} : C2 K rRepR oRepL := by
  intro fo H x y d e Qd Q dx dy o k
  unfold oRepL at o
  split at o
  · obtain ⟨a, vs, rfl, h1, f1⟩ := dx.lst
    cases dy.int
    exact ⟨a, _, vs, rfl, rfl, h1, o.1.1, o.1.2.1, by rw [fza_len f1]; exact o.1.2.2, fun p hp => k _ _ _ o.2 (newv_lst hp (fza_rep f1 _))⟩
  · exact o.elim
theorem takesM0 {X : Cx} {C : Addr} : TakesM C X (fun _ _ _ _ => False) := fun u s' ⟨m, t, x, _⟩ => by
  obtain ⟨_, _, _, _, _, _, _, _, _, _, _, _, _, _, _, _, z⟩ := x
  exact z.2.2.2.elim
end KD

namespace K66
open PySem PySem.Spec PyProof.Rows L2 KX KD KM M53
def nsR : List Str := ["kind", "text", "data"]
theorem lk_kind (a b c : D) : List.lookup (Str.ofString "kind") (nsR.zip [a, b, c]) = some a := rfl
theorem lk_text (a b c : D) : List.lookup (Str.ofString "text") (nsR.zip [a, b, c]) = some b := rfl
theorem lk_data (a b c : D) : List.lookup (Str.ofString "data") (nsR.zip [a, b, c]) = some c := rfl
theorem wr_flats {k : Nat} : ∀ {ds : List PyData} {ts : List T}, (∀ d ∈ ds, ∀ t, wr k d = some t → flatD d = true) → wrs k ds = some ts → flatDs ds = true
  | [], _, _, _ => rfl
  | d :: ds, ts, h, e => by
    rw [wrs_cons] at e
    cases e1 : wr k d with
    | none => rw [e1] at e; cases e
    | some t =>
      rw [e1] at e
      simp only [Option.bind_some, Option.map_eq_some_iff] at e
      obtain ⟨ts2, e2, _⟩ := e
      simp only [flatDs, Bool.and_eq_true]
      exact ⟨h d (by simp) t e1, wr_flats (fun d hd => h d (by simp [hd])) e2⟩
theorem wr_flat : ∀ (k : Nat) (d : PyData) (t : T), wr k d = some t → flatD d = true
  | k, .none, _, _ => rfl
  | k, .bool _, _, _ => rfl
  | k, .int _, _, _ => rfl
  | k, .str _, _, _ => rfl
  | k, .list ds, t, h => by
    have := (wr_atom (k := k) (d := .list ds) rfl).symm.trans h
    cases this
  | k, .dict ds, t, h => by
    have := (wr_atom (k := k) (d := .dict ds) rfl).symm.trans h
    cases this
  | 0, .tuple ds, t, h => by rw [wr_zero] at h; cases h
  | k + 1, .tuple ds, t, h => by
    rw [wr_succ, Option.map_eq_some_iff] at h
    obtain ⟨ts, e, _⟩ := h
    simp only [flatD]
    exact wr_flats (fun d hd t ht => wr_flat k d t ht) e
theorem rd_flat {l : T} {d : PyData} (h : rd l = some d) : flatD d = true := by
  unfold rd at h
  cases e : runS ⟨[], true, []⟩ (pcs [] l) with
  | none => rw [e] at h; cases h
  | some S =>
    rw [e] at h
    have run : ∀ (ps : List T) (S S' : RS), flatRS S = true → runS S ps = some S' → flatRS S' = true := by
      intro ps
      induction ps with
      | nil => intro S S' f e; cases e; exact f
      | cons p ps ih =>
        intro S S' f e
        simp only [runS] at e
        split at e
        · cases e
        · rename_i S1 e1
          exact ih _ _ (take_flat e1 f) e
    have f := run _ _ _ (by decide) e
    simp only at h
    split at h
    · cases h
    · have f2 : flatDs S.told = true := (flat_all f).2
      cases ht : S.told with
      | nil => rw [ht] at h; cases h
      | cons x xs =>
        rw [ht] at h f2
        cases h
        simp only [flatDs, Bool.and_eq_true] at f2
        exact f2.1
section
variable {P : Program} {w : World} {K : PySem.W.Frag} {mg : Str → Option Value} {base : Heap} {CM dS C : Addr}
/-! the old promises over data -/
def wordE : D → Bool
  | .str l => isWord l
  | _ => false
def lenOk : D → Prop
  | .str l => l.length ≤ sizeLine
  | _ => True
def sp_is_word : SpD Unit := fun ds _ Q _ => ∃ d, ds = [d] ∧ dat d = true ∧ lenOk d ∧ Q (.bl (wordE d)) ()
theorem wordD_py (d : D) : wordD (py d) = wordE d := by
  cases d with
  | str l => show isWord (tx l).cps.toList = isWord l; rw [tx_list]
  | _ => rfl
theorem is_word_of : ∀ vs H Q E, spD K PW (calm0 sp_is_word) vs H Q E → spIsWord K vs H Q E := by
  rintro vs H Q E ⟨C, ds, τ, Qd, Ed, h0, f, a, fl, ⟨d, rfl, hd, hl, q⟩, k, _⟩
  subst h0
  cases f with
  | cons f1 f2 =>
    cases f2
    refine ⟨_, py d, rfl, dp_of hd f1, fun s e => ?_, fun H' ex => k _ _ _ _ (by rw [wordD_py]; exact q) (relR_ex a fl ex) (.bl _)⟩
    cases d with
    | str l =>
      cases e
      rw [tx_len]
      exact hl
    | _ => cases e
def noData : List Nat := [110, 111, 32, 100, 97, 116, 97]
def sp_write_data : SpD Unit := fun ds _ Q E => ∃ d, ds = [d] ∧ dat d = true ∧ strOk (py d) = true ∧ sz (py d) ≤ 1000000 ∧
  (∀ t, wr 1000 (py d) = some t → t.length ≤ 16777216 ∧ Q (.str t) ()) ∧ (wr 1000 (py d) = none → E (0, noData) ())
theorem write_data_of : ∀ vs H Q E, spD K PW sp_write_data vs H Q E → spWrite K CM vs H Q E := by
  rintro vs H Q E ⟨C, ds, τ, Qd, Ed, h0, f, a, fl, ⟨d, rfl, hd, h1, h2, q, qE⟩, k, kE⟩
  subst h0
  cases f with
  | cons f1 f2 =>
    cases f2
    exact ⟨_, py d, rfl, dp_of hd f1, h1, h2, fun t ht => ⟨(q t ht).1, fun H' ex => k _ _ _ _ (q t ht).2 (relR_ex a fl ex) (.str _)⟩, fun hn H' ex => kE _ _ _ (qE hn) (relR_ex a fl ex)⟩
/-- the reader, for a text -/
def sp_read_data : SpD Unit := fun ds _ Q E => ∃ l, ds = [.str l] ∧ l.length ≤ 100000 ∧ (∀ d, rd l = some d → Q (unp d) ()) ∧ (rd l = none → E (0, noData) ())
theorem read_data_of : ∀ vs H Q E, spN CM K PW sp_read_data vs H Q E → spReadD K CM vs H Q E := by
  rintro vs H Q E ⟨C, ds, τ, Qd, Ed, h0, f, a, fl, ⟨l, rfl, hl, q, qE⟩, k, kE⟩
  subst h0
  cases f with
  | cons f1 f2 =>
    cases f2
    cases f1
    refine ⟨_, .str (tx l), rfl, .str _, fun l2 e => ?_, fun l2 d e hr v' H' ex dp => ?_, fun hn H' ex => ?_⟩
    · have := tx_inj (PyData.str.inj e)
      rw [← this]
      exact hl
    · have := tx_inj (PyData.str.inj e)
      subst this
      exact k _ _ _ _ (q d hr) (relR_ex a fl ex) (fz_unp (rd_flat hr) dp)
    · exact kE _ _ _ (qE (hn l rfl)) (relR_ex a fl ex)
end
end K66

namespace K66
open PySem PySem.Spec PyProof.Rows L2 KX KD
local macro_rules | `(tactic| walk_at "kx1") => `(tactic| first
  | (with_reducible refine q_seq ?_) | (with_reducible refine q_ifs ?_) | (with_reducible refine q_asg ?_) | (with_reducible refine q_gname ?_) | (with_reducible refine q_ret ?_)
  | (with_reducible refine q_drop ?_) | (with_reducible refine q_next ?_) | (with_reducible refine q_par ?_) | (with_reducible refine q_sfld ?_) | (with_reducible refine q_rs ?_) | (with_reducible refine q_gsub ?_) | (with_reducible refine q_retN ?_)
  | ((with_reducible show tVar _ _ _ _); (refine q_var rfl ?_)) | (with_reducible refine q_c ?_) | (with_reducible refine q_op ?_) | (with_reducible refine q_un ?_) | (with_reducible refine q_neg ?_) | (with_reducible refine q_cb ?_)
  | (with_reducible refine q_nil ?_) | (with_reducible refine q_cons ?_) | (with_reducible refine q_tup ?_) | (with_reducible refine q_lst ?_) | (with_reducible refine q_if ?_)
  | (with_reducible refine q_notT ?_) | (with_reducible refine q_call ?_) | (with_reducible refine q_callS ?_) | (with_reducible refine q_fld ?_)
  | (with_reducible refine q_bm ?_) | (with_reducible refine q_bm0 ?_) | (with_reducible refine q_sl ?_) | (with_reducible refine q_nopart ?_) | (with_reducible refine q_part ?_) | (with_reducible refine q_meth ?_) | (with_reducible refine q_make ?_)
  | (with_reducible refine q_test ?_) | (with_reducible refine q_tB ?_) | (with_reducible refine q_tru ?_) | (with_reducible refine q_not ?_)
  | (with_reducible refine q_blk ?_) | (with_reducible refine q_tv ?_) | (with_reducible refine q_addI ?_) | (with_reducible refine q_subI ?_) | (with_reducible refine q_eqI ?_) | (with_reducible refine q_neI ?_)
  | (with_reducible refine q_for ?_) | (with_reducible refine q_lc ?_) | (with_reducible refine q_iList ?_) | (with_reducible refine q_iTup ?_) | (with_reducible refine q_iStr ?_) | (with_reducible refine q_iRng1 ?_) | (with_reducible refine q_iRng2 ?_) | (with_reducible refine q_iRng3 ?_) | (with_reducible refine q_gcons ?_) | (with_reducible refine q_gnil ?_) | (with_reducible refine q_yes ?_) | (with_reducible refine q_ltI ?_) | (with_reducible refine q_iEnumS ?_) | (with_reducible refine q_pi ?_) | (with_reducible refine q_leI ?_) | (with_reducible refine q_gtI ?_) | (with_reducible refine q_geI ?_) | (with_reducible refine q_leT ?_) | (with_reducible refine q_intI ?_) | (with_reducible refine q_abs ?_) | (with_reducible refine q_eqT ?_) | (with_reducible refine q_neT ?_) | (with_reducible refine q_rsM ?_) | (with_reducible refine q_par3 ?_) | (with_reducible refine q_isN ?_) | (with_reducible refine q_notN ?_))
local macro_rules | `(tactic| walk_at "kx") => `(tactic| repeat walk_at "kx1")
local macro_rules | `(tactic| walk_at "kxs") => `(tactic| repeat (first | walk_at "kx1" | (with_reducible refine q_andT ?_) | (with_reducible refine q_orT ?_) | (with_reducible refine q_chain ?_) | (with_reducible refine q_and ?_) | (with_reducible refine q_or ?_)))
local macro_rules | `(tactic| walk_at "lits") => `(tactic| simp only [lit_0, lit_1, lit_2, lit_3, lit_4, lit_5, lit_6, lit_7, lit_8, lit_9, lit_10, lit_11, lit_12, lit_13, lit_14, lit_15, lit_16, lit_17, lit_18, lit_19, lit_20, lit_21, lit_22, lit_23, lit_24, lit_25, lit_26, lit_27, lit_28, lit_29, lit_30, lit_31, lit_32, lit_33, lit_34, lit_35, lit_36, lit_37, lit_38, lit_39, lit_40, lit_41])

section
variable {P : Program} {w : World} {K : PySem.W.Frag} {mg : Str → Option Value} {base : Heap} {CM : Addr}
theorem ok_law_draw {f : Addr} {fd : FuncData} (D : DefAt K mg "_law_draw" s__law_draw f fd ["script"]) (T : Txt K mg CM) (nd : base.NoDigits) : FnOk P w K mg base CX0 1 f fd ["script"] (spDraw K) := by
  refine D.fn.ok sc__law_draw (fun vs H Q E h => ?_) (fun cdv A outer s H vs Q E hr h => ?_)
  · obtain ⟨a, ns, rfl, _⟩ := h
    rfl
  · obtain ⟨a, ns, rfl, ha, hl, q⟩ := h
    have hu := u65 hr
    refine ⟨_, (pss_cons (ps_set (i := 1) sc__law_draw.nd rfl (Or.inl rfl) pe_int)
      (pss_cons (ps_for PassesOwn.never rfl (w_ilist (K := K) (pe_slice (w_sl (K := K)) (pv 0) po_none (po_some pe_int))) (pg_name (i := 2) sc__law_draw.nd rfl (Or.inl rfl)) (pss_one (ps_set (i := 1) sc__law_draw.nd rfl (Or.inl rfl) (pe_op (w_add (K := K)) (pe_op op_mod (pe_callTy (kx_int nd) rfl T.b_int bb_int (pa_cons (pe_op (w_add (K := K)) (pe_op k_mul (pv 1) pe_int) (pv 2)) pa_nil)) pe_int) pe_int))))
      (pss_one (ps_ret (pe_lst (pa_cons (pe_lc (own := [("cell", 2)]) rfl sc__law_draw.nd (w_ilist (K := K) (pe_slice (w_sl (K := K)) (pv 0) po_none (po_some pe_int))) (blkOk_by (N := n__law_draw) (sc := defScope s__law_draw) (by decide +kernel)) (fun _ _ _ _ _ => (pg_name (i := 2) sc__law_draw.nd rfl (Or.inl rfl))) (fun _ _ _ _ _ => pts_nil) (fun _ _ _ _ _ => (pe_callB w_abs rfl T.b_abs bb_abs (pa_cons (pe_callTy (kx_int nd) rfl T.b_int bb_int (pa_cons (pv 2) pa_nil)) pa_nil)))) (pa_cons pe_int (pa_cons pe_int (pa_cons pe_int (pa_cons (pv 1) (pa_cons pe_int pa_nil))))))))))), ?_⟩
    walk_at "kx"
    refine q_slL 63 ha fun l1 n1 => ?_
    refine ⟨l1, rfl, ⟨_, SqL.of upd_same⟩, ?_⟩
    have x1 : Ex H (upd H l1 (.lst ((ns.map V.int).take 63))) := Evl.Ex.new n1
    have h1 : upd H l1 (.lst ((ns.map V.int).take 63)) l1 = _ := upd_same
    generalize upd H l1 (.lst ((ns.map V.int).take 63)) = H1 at x1 h1
    rw [← List.map_take] at h1
    refine fo_list (xs := (ns.take 63).map V.int) (fun i σ H' => ∃ (s : Int) (o : Option V), σ = [some (.ref a), some (.int s), o] ∧ Ex H1 H') ⟨7, none, rfl, Evl.Ex.refl _⟩ ?_ ?_ ?_
    · rintro i σ H' hi ⟨s, o, rfl, x2⟩
      exact SqL.of (x2 _ _ h1)
    · rintro i x σ H' hx ⟨s, o, rfl, x2⟩
      rw [List.getElem?_map, Option.map_eq_some_iff] at hx
      obtain ⟨y, hy, rfl⟩ := hx
      walk_at "kx"
      refine q_mulI (.inr (by decide)) ?_
      walk_at "kx"
      refine q_mod (by decide) ?_
      walk_at "kx"
      exact ⟨_, _, rfl, x2⟩
    · rintro σ H' ⟨s, o, rfl, x2⟩
      have ha' : SqL K H' a (ns.map V.int) := sql_ex (x1.trans x2) ha
      walk_at "kx"
      refine q_slL 63 ha' fun l2 n2 => ?_
      refine ⟨l2, rfl, ⟨_, SqL.of upd_same⟩, ?_⟩
      have x3 : Ex H' (upd H' l2 (.lst ((ns.map V.int).take 63))) := Evl.Ex.new n2
      have h3 : upd H' l2 (.lst ((ns.map V.int).take 63)) l2 = _ := upd_same
      generalize upd H' l2 (.lst ((ns.map V.int).take 63)) = H2 at x3 h3
      rw [← List.map_take] at h3
      refine lc_ev walk_list (xs := fun i => .int ((ns.take 63).getD i 0)) (f := fun i => .int (if (ns.take 63).getD i 0 < 0 then -(ns.take 63).getD i 0 else (ns.take 63).getD i 0)) ?_ (fun H4 e4 => SqL.of (e4 _ _ h3)) ?_ (fun _ => rfl) ?_ ?_
      · rw [List.length_map, List.length_take]
        omega
      · rintro i H4 x H5 hi ⟨rfl, e5⟩
        refine ⟨rfl, ?_⟩
        rw [List.getElem?_map, Option.map_eq_some_iff] at e5
        obtain ⟨y, hy, rfl⟩ := e5
        simp only [List.getD_eq_getElem?_getD, hy, Option.getD_some]
      · intro i hi H4 x4 R q4
        walk_at "kx"
        exact q4 _ (Evl.Ex.refl _)
      · intro p H3 n3 x5 hp
        walk_at "kx"
        refine ⟨sml rfl, fun r nr => ?_⟩
        have e0 := ((x1.trans x2).trans x3).trans x5
        have x6 : Ex H3 (upd H3 r (.lst [.ref p, .int 0, .int 0, .int 0, .int s, .int 0])) := Evl.Ex.new nr
        have pr : p ≠ r := ne_of_none hp nr
        refine q r p _ (Evl.fresh_back e0 nr) (e0.trans x6) ⟨(List.range (ns.take 63).length).map fun i => if (ns.take 63).getD i 0 < 0 then -(ns.take 63).getD i 0 else (ns.take 63).getD i 0, 0, 0, 0, s, 0, upd_same, pr, ?_, ?_, by decide, by decide, by decide⟩
        · rw [upd_ne pr, hp, List.map_map, List.length_map]
          rfl
        · rw [List.length_map, List.length_range, List.length_take]
          omega
theorem ok_law_take {f : Addr} {fd : FuncData} (D : DefAt K mg "_law_take" s__law_take f fd ["draw", "many"]) (T : Txt K mg CM) (nd : base.NoDigits) : FnOk P w K mg base CX0 1 f fd ["draw", "many"] spTake := by
  refine D.fn.ok sc__law_take (fun vs H Q E h => ?_) (fun cdv A outer s H vs Q E hr h => ?_)
  · obtain ⟨r, p, m, N, rfl, _⟩ := h
    rfl
  · obtain ⟨r, p, m, N, rfl, hm, hm2, ⟨ns, a, b, c, e, f, hd, hpr, hp, hn, ha, hf, hf2⟩, hN, q⟩ := h
    have hu := u65 hr
    refine ⟨_, (pss_cons (ps_if (PW.pt (pw_and (pt_cmpR (w_eq (K := K) hu) (pe_ix (w_ix (K := K)) (pv 0) pe_int (fun _ _ => rfl)) pe_int (nomark _)) (pw_and1 (pt_cmpR k_lt (pe_ix (w_ix (K := K)) (pv 0) pe_int (fun _ _ => rfl)) (pe_callB (w_len (K := K)) rfl T.b_len bb_len (pa_cons (pe_ix (w_ix (K := K)) (pv 0) pe_int (fun _ _ => rfl)) pa_nil)) (nomark _))))) (pss_one (ps_asg (pe_tup (pa_cons (pe_ix (w_ix (K := K)) (pe_ix (w_ix (K := K)) (pv 0) pe_int (fun _ _ => rfl)) (pe_ix (w_ix (K := K)) (pv 0) pe_int (fun _ _ => rfl)) (fun _ _ => rfl)) (pa_cons pe_int (pa_cons (pe_op (w_add (K := K)) (pe_ix (w_ix (K := K)) (pv 0) pe_int (fun _ _ => rfl)) pe_int) pa_nil)))) (w_gtup (K := K) (n := 3) rfl (pgs_cons (pg_sub (pv 0) pe_int set_list) (pgs_cons (pg_sub (pv 0) pe_int set_list) (pgs_cons (pg_sub (pv 0) pe_int set_list) pgs_nil)))))) pss_nil)
      (pss_cons (ps_if (pt_cmpR k_gt (pe_ix (w_ix (K := K)) (pv 0) pe_int (fun _ _ => rfl)) pe_int (nomark _)) (pss_cons (ps_set (i := 2) sc__law_take.nd rfl (Or.inl rfl) (pe_op op_mod (pe_callTy (kx_int nd) rfl T.b_int bb_int (pa_cons (pe_ix (w_ix (K := K)) (pv 0) pe_int (fun _ _ => rfl)) pa_nil)) (pv 1)))
      (pss_cons (ps_asg (pe_op op_fdiv (pe_ix (w_ix (K := K)) (pv 0) pe_int (fun _ _ => rfl)) (pv 1)) (pg_sub (pv 0) pe_int set_list))
      (pss_cons (ps_asg (pe_ifExp (pt_cmpR k_gt (pe_ix (w_ix (K := K)) (pv 0) pe_int (fun _ _ => rfl)) pe_int (nomark _)) (pe_op op_sub (pe_ix (w_ix (K := K)) (pv 0) pe_int (fun _ _ => rfl)) pe_int) pe_int) (pg_sub (pv 0) pe_int set_list))
      (pss_one (ps_ret (pv 2)))))) pss_nil)
      (pss_cons (ps_asg (pe_op (w_add (K := K)) (pe_ix (w_ix (K := K)) (pv 0) pe_int (fun _ _ => rfl)) pe_int) (pg_sub (pv 0) pe_int set_list))
      (pss_cons (ps_asg (pe_op op_mod (pe_callTy (kx_int nd) rfl T.b_int bb_int (pa_cons (pe_op (w_add (K := K)) (pe_op (w_add (K := K)) (pe_op k_mul (pe_ix (w_ix (K := K)) (pv 0) pe_int (fun _ _ => rfl)) pe_int) (pe_op k_mul (pe_op k_mul (pe_ix (w_ix (K := K)) (pv 0) pe_int (fun _ _ => rfl)) (pe_ix (w_ix (K := K)) (pv 0) pe_int (fun _ _ => rfl))) pe_int)) pe_int) pa_nil)) pe_int) (pg_sub (pv 0) pe_int set_list))
      (pss_one (ps_ret (pe_op op_mod (pe_callTy (kx_int nd) rfl T.b_int bb_int (pa_cons (pe_op op_fdiv (pe_ix (w_ix (K := K)) (pv 0) pe_int (fun _ _ => rfl)) pe_int) pa_nil)) (pv 1)))))))), ?_⟩
    refine q_seqK (fun σ H1 => ∃ a b c, σ = L2.start n__law_take [.ref r, .int (m : Nat)] ∧ But r H H1 ∧ 0 ≤ a ∧ H1 r = some (.lst [.ref p, .int a, .int b, .int c, .int e, .int f])) ?_ ?_
    · rintro σ H1 ⟨a, b, c, rfl, b1, ha, hd⟩
      have hp1 : H1 p = some (.lst (ns.map V.int)) := b1 _ _ hpr hp
      walk_at "kx"
      refine q_ixL (SqL.of hd) (i := 3) rfl ?_
      walk_at "kx"
      refine ifT (fun h1 => ?_) (fun h1 => ?_)
      · walk_at "kx"
        refine q_ixL (SqL.of hd) (i := 2) rfl ?_
        walk_at "kx"
        refine q_mod (by omega) ?_
        obtain ⟨k, hk, ek⟩ := mod_nat (i := b) hm
        rw [ek]
        walk_at "kx"
        refine q_ixL (SqL.of hd) (i := 2) rfl ?_
        walk_at "kx"
        refine q_fdiv (by omega) (by omega) ?_
        walk_at "kx"
        refine q_setB b1 hd (k := 2) rfl fun H2 b2 hd2 => ?_
        walk_at "kx"
        refine q_ixL (SqL.of hd2) (i := 2) rfl ?_
        walk_at "kx"
        refine ifT (fun h2 => ?_) (fun h2 => ?_)
        · walk_at "kx"
          refine q_ixL (SqL.of hd2) (i := 3) rfl ?_
          walk_at "kx"
          refine q_setB b2 hd2 (k := 3) rfl fun H3 b3 hd3 => ?_
          walk_at "kx"
          exact q H3 k hk b3 ⟨ns, a, _, _, e, f, hd3, hpr, b3 _ _ hpr hp, hn, ha, hf, by omega⟩
        · walk_at "kx"
          refine q_setB b2 hd2 (k := 3) rfl fun H3 b3 hd3 => ?_
          walk_at "kx"
          exact q H3 k hk b3 ⟨ns, a, _, _, e, f, hd3, hpr, b3 _ _ hpr hp, hn, ha, hf, by omega⟩
      · walk_at "kx"
        refine q_ixL (SqL.of hd) (i := 5) rfl ?_
        walk_at "kx"
        refine q_setB b1 hd (k := 5) rfl fun H2 b2 hd2 => ?_
        walk_at "kx"
        refine q_ixL (SqL.of hd2) (i := 4) rfl ?_
        walk_at "kx"
        refine q_mulI (.inr (by decide)) ?_
        walk_at "kx"
        refine q_ixL (SqL.of hd2) (i := 5) rfl ?_
        walk_at "kx"
        refine q_ixL (SqL.of hd2) (i := 5) rfl ?_
        walk_at "kx"
        refine q_mulI (.inr (by omega)) ?_
        walk_at "kx"
        refine q_mulI (.inr (by decide)) ?_
        walk_at "kx"
        refine q_mod (by decide) ?_
        walk_at "kx"
        refine q_setB b2 hd2 (k := 4) rfl fun H3 b3 hd3 => ?_
        walk_at "kx"
        refine q_ixL (SqL.of hd3) (i := 4) rfl ?_
        walk_at "kx"
        refine q_fdiv (by decide) (by decide) ?_
        walk_at "kx"
        refine q_mod (by omega) ?_
        obtain ⟨k, hk, ek⟩ := mod_nat (i := (e * 48271 + (f + 1) * (f + 1) * 69621 + 11) % 2147483647 / 13) hm
        rw [ek]
        exact q H3 k hk b3 ⟨ns, a, _, _, _, _, hd3, hpr, b3 _ _ hpr hp, hn, ha, by omega, by omega⟩
    · intro N q
      walk_at "kx"
      refine q_andB (a := decide (c = 0)) (b := decide (a < (ns.length : Nat))) (fun R1 q => ?_) (fun _ R1 q => ?_) ?_
      · walk_at "kx"
        refine q_ixL (SqL.of hd) (i := 3) rfl ?_
        walk_at "kx"
        exact q
      · walk_at "kx"
        refine q_ixL (SqL.of hd) (i := 1) rfl ?_
        walk_at "kx"
        refine q_ixL (SqL.of hd) (i := 0) rfl ?_
        walk_at "kx"
        refine q_lenL (SqL.of hp) ?_
        rw [List.length_map]
        walk_at "kx"
        exact q
      refine ifT (fun h1 => ?_) (fun h1 => ?_)
      · rw [Bool.and_eq_true] at h1
        have h2 := of_decide_eq_true h1.2
        obtain ⟨i, rfl⟩ : ∃ i : Nat, a = (i : Nat) := ⟨a.toNat, by omega⟩
        have hi : i < ns.length := by omega
        walk_at "kx"
        refine q_ixL (SqL.of hd) (i := 0) rfl ?_
        walk_at "kx"
        refine q_ixL (SqL.of hd) (i := 1) rfl ?_
        refine q_ixL (SqL.of hp) (i := i) (v := .int ns[i]) (by rw [List.getElem?_map, List.getElem?_eq_getElem hi]; rfl) ?_
        walk_at "kx"
        refine q_ixL (SqL.of hd) (i := 1) rfl ?_
        walk_at "kx"
        refine ⟨sml rfl, fun t nt => ?_⟩
        have rt : r ≠ t := ne_of_none hd nt
        refine q_gtup ⟨t, _, rfl, SqT.of upd_same, rfl, ?_⟩
        have hdt : upd H t (.tup [.int ns[i], .int 60, .int ((i : Nat) + 1)]) r = _ := (upd_ne rt).trans hd
        have bt : But r H (upd H t (.tup [.int ns[i], .int 60, .int ((i : Nat) + 1)])) := But.of_ex (Evl.Ex.new nt)
        generalize upd H t (.tup [.int ns[i], .int 60, .int ((i : Nat) + 1)]) = H1 at hdt bt
        walk_at "kx"
        refine q_setB bt hdt (k := 2) rfl fun H2 b2 hd2 => ?_
        walk_at "kx"
        refine q_setB b2 hd2 (k := 3) rfl fun H3 b3 hd3 => ?_
        walk_at "kx"
        refine q_setB b3 hd3 (k := 1) rfl fun H4 b4 hd4 => ?_
        walk_at "kx"
        exact q _ _ ⟨_, _, _, rfl, b4, by omega, hd4⟩
      · walk_at "kx"
        exact q _ _ ⟨a, b, c, rfl, But.refl _ _, ha, hd⟩
end
end K66

namespace K66
open PySem PySem.Spec PyProof.Rows L2 KX KD KM M53
local macro_rules | `(tactic| walk_at "kd") => `(tactic| simp only [sSeq, sNext, sIf, sRet, sRetN, sSet, sDrop, sFor, sPar, sPar3, sAsg, sAug, sBrk, sCont, sRs, dVar, dC, dOp, dU, dB, dTru, dAnd, dOr, dNot, dNotV, dAndD, dOrD, dIf, dChain, dD, fz, dNil, dCons, dTup, dLst, dM1, dM0, dN, dApp, dPop, dExt, dIt, dRng1, dRng2, dRng3, dLc, dYes, dSl, dNo, dSome, dCall, dCallP, calm0, withD, stRV, wipeE, mergeE, gdN, gdNil, gdCons, gdTup, gdSub,
    oAdd, addOk, addD, oSub, oMul, oMod, oDiv, oInt2, oLt, oLe, oGt, oGe, oEq, oNe, oIx, ixD, szOk, lenD, oIn, oLen, oIsi, isiT, oAll, oAny, oSum, oStr, oInt, oAbs, oTuple, oList, oNeg, oIsN, oNotN, isN, oJoin, oSplit, oPart, isS, own,
    dstart, List.map_cons, List.map_nil, List.length_cons, List.length_nil, List.replicate, List.cons_append, List.nil_append, List.getElem?_cons_zero, List.getElem?_cons_succ, List.set_cons_zero, List.set_cons_succ, List.append_nil,
    if_true, if_false, Bool.false_eq_true, Bool.not_true, Bool.not_false, truD, reduceIte, reduceCtorEq, exists_eq_left', Option.some.injEq, Nat.reduceAdd, Nat.reduceSub, Int.reduceAdd, Int.reduceSub, Bool.not_eq_true', ite_self, beq_self_eq_true, String.reduceBEq, Bool.bne_true, Bool.bne_false, oIsC, isiC, oFld, dMake, oEqO, sTry, sTryA, dStrX, dListZip, oRepL, oNeRows, oStrS, dat, dats, dep, deps, eqD_str, eqD_int, eqD_bl, eqD_non, cutL_to2, cutL_from2, cutL_to1, cutL_from1, Nat.min_self, Nat.zero_le, Nat.min_zero, Nat.zero_min, Nat.max_self, true_and, and_true, Bool.and_self, Bool.true_and, Bool.and_true, decide_eq_true_eq, decide_eq_false_iff_not, implies_true, and_self, Bool.or_self, Bool.or_false, Bool.false_or, List.length_map, rangeD_len, rangeDC_len, atI_c0, atI_c1, atI_c2, atI_c3, Option.map_some, Option.map_none, Int.reduceEq, Int.reduceLT, Int.reduceLE, lk_kind, lk_text, lk_data])
local macro_rules | `(tactic| walk_at "kd1") => `(tactic| simp only [sSeq_hold, sNext, sIf, sRet, sRetN, sSet, sDrop, sFor, sPar, sPar3, sAsg, sAug, sBrk, sCont, sRs, dVar, dC, dOp, dU, dB, dTru, dAnd, dOr, dNot, dNotV, dAndD, dOrD, dIf, dChain, dD, fz, dNil, dCons, dTup, dLst, dM1, dM0, dN, dApp, dPop, dExt, dIt, dRng1, dRng2, dRng3, dLc, dYes, dSl, dNo, dSome, dCall, dCallP, calm0, withD, stRV, wipeE, mergeE, gdN, gdNil, gdCons, gdTup, gdSub,
    oAdd, addOk, addD, oSub, oMul, oMod, oDiv, oInt2, oLt, oLe, oGt, oGe, oEq, oNe, oIx, ixD, szOk, lenD, oIn, oLen, oIsi, isiT, oAll, oAny, oSum, oStr, oInt, oAbs, oTuple, oList, oNeg, oIsN, oNotN, isN, oJoin, oSplit, oPart, isS, own,
    dstart, List.map_cons, List.map_nil, List.length_cons, List.length_nil, List.replicate, List.cons_append, List.nil_append, List.getElem?_cons_zero, List.getElem?_cons_succ, List.set_cons_zero, List.set_cons_succ, List.append_nil,
    if_true, if_false, Bool.false_eq_true, Bool.not_true, Bool.not_false, truD, reduceIte, reduceCtorEq, exists_eq_left', Option.some.injEq, Nat.reduceAdd, Nat.reduceSub, Int.reduceAdd, Int.reduceSub, Bool.not_eq_true', ite_self, beq_self_eq_true, String.reduceBEq, Bool.bne_true, Bool.bne_false, oIsC, isiC, oFld, dMake, oEqO, sTry, sTryA, dStrX, dListZip, oRepL, oNeRows, oStrS, dat, dats, dep, deps, eqD_str, eqD_int, eqD_bl, eqD_non, cutL_to2, cutL_from2, cutL_to1, cutL_from1, Nat.min_self, Nat.zero_le, Nat.min_zero, Nat.zero_min, Nat.max_self, true_and, and_true, Bool.and_self, Bool.true_and, Bool.and_true, decide_eq_true_eq, decide_eq_false_iff_not, implies_true, and_self, Bool.or_self, Bool.or_false, Bool.false_or, List.length_map, rangeD_len, rangeDC_len, atI_c0, atI_c1, atI_c2, atI_c3, Option.map_some, Option.map_none, Int.reduceEq, Int.reduceLT, Int.reduceLE, lk_kind, lk_text, lk_data])
local macro_rules | `(tactic| walk_at "kdh") => `(tactic| (unfold hold; walk_at "kd1"))

section
variable {P : Program} {w : World} {K : PySem.W.Frag} {mg : Str → Option Value} {base : Heap} {CM CR : Addr}
def noLf : D → Bool
  | .str l => !decide (10 ∈ l)
  | _ => false
def sp_is_text : SpD Unit := fun ds _ Q _ => ∃ d, ds = [d] ∧ dat d = true ∧ lenOk d ∧ Q (.bl (noLf d)) ()
theorem ok_is_text {f : Addr} {fd : FuncData} (D : DefAt K mg "is_text" s_is_text f fd ["value"]) (T : Txt K mg CM) : FnOk P w K mg base CX0 1 f fd ["value"] (spD K PW (calm0 sp_is_text)) := by
  refine okD0 D.fn sc_is_text (fun ds τ Q E h => by obtain ⟨d, rfl, _⟩ := h; rfl) fun cdv A outer s H E hr => ?_
  have hu := u160 hr
  refine ⟨_, (sd_one (sd_ret (ped_fz (ed_andV (K := K) (ed_isi (pe_callB (w_isi (K := K)) rfl T.b_isinstance bb_isinstance (pa_cons (ed_var (pv 0)) (pa_cons (pe_bltn (v := V.ty "str") rfl T.b_str bb_str rfl) pa_nil))) ci_str) (ed_one (ed_cmp (or_notin (K := K) hu) c_notin (ed_str lit_10) (ed_var (pv 0)) (by rfl))))))), ?_⟩
  rintro ds τ Q ⟨d, rfl, hd, hl, q⟩
  walk_at "kd"
  cases d with
  | str l => walk_at "kd"; exact q
  | fn a => cases hd
  | obj a b c => cases hd
  | _ => walk_at "kd"; exact q
end
end K66

namespace K66
open PySem PySem.Spec PyProof.Rows L2 KX KD KM M53
local macro_rules | `(tactic| walk_at "kd") => `(tactic| simp only [sSeq, sNext, sIf, sRet, sRetN, sSet, sDrop, sFor, sPar, sPar3, sAsg, sAug, sBrk, sCont, sRs, dVar, dC, dOp, dU, dB, dTru, dAnd, dOr, dNot, dNotV, dAndD, dOrD, dIf, dChain, dD, fz, dNil, dCons, dTup, dLst, dM1, dM0, dN, dApp, dPop, dExt, dIt, dRng1, dRng2, dRng3, dLc, dYes, dSl, dNo, dSome, dCall, dCallP, calm0, withD, stRV, wipeE, mergeE, gdN, gdNil, gdCons, gdTup, gdSub,
    oAdd, addOk, addD, oSub, oMul, oMod, oDiv, oInt2, oLt, oLe, oGt, oGe, oEq, oNe, oIx, ixD, szOk, lenD, oIn, oLen, oIsi, isiT, oAll, oAny, oSum, oStr, oInt, oAbs, oTuple, oList, oNeg, oIsN, oNotN, isN, oJoin, oSplit, oPart, isS, own,
    dstart, List.map_cons, List.map_nil, List.length_cons, List.length_nil, List.replicate, List.cons_append, List.nil_append, List.getElem?_cons_zero, List.getElem?_cons_succ, List.set_cons_zero, List.set_cons_succ, List.append_nil,
    if_true, if_false, Bool.false_eq_true, Bool.not_true, Bool.not_false, truD, reduceIte, reduceCtorEq, exists_eq_left', Option.some.injEq, Nat.reduceAdd, Nat.reduceSub, Int.reduceAdd, Int.reduceSub, Bool.not_eq_true', ite_self, beq_self_eq_true, String.reduceBEq, Bool.bne_true, Bool.bne_false, oIsC, isiC, oFld, dMake, oEqO, sTry, sTryA, dStrX, dListZip, oRepL, oNeRows, oStrS, dat, dats, dep, deps, eqD_str, eqD_int, eqD_bl, eqD_non, cutL_to2, cutL_from2, cutL_to1, cutL_from1, Nat.min_self, Nat.zero_le, Nat.min_zero, Nat.zero_min, Nat.max_self, true_and, and_true, Bool.and_self, Bool.true_and, Bool.and_true, decide_eq_true_eq, decide_eq_false_iff_not, implies_true, and_self, Bool.or_self, Bool.or_false, Bool.false_or, List.length_map, rangeD_len, rangeDC_len, atI_c0, atI_c1, atI_c2, atI_c3, Option.map_some, Option.map_none, Int.reduceEq, Int.reduceLT, Int.reduceLE, lk_kind, lk_text, lk_data])
local macro_rules | `(tactic| walk_at "kd1") => `(tactic| simp only [sSeq_hold, sNext, sIf, sRet, sRetN, sSet, sDrop, sFor, sPar, sPar3, sAsg, sAug, sBrk, sCont, sRs, dVar, dC, dOp, dU, dB, dTru, dAnd, dOr, dNot, dNotV, dAndD, dOrD, dIf, dChain, dD, fz, dNil, dCons, dTup, dLst, dM1, dM0, dN, dApp, dPop, dExt, dIt, dRng1, dRng2, dRng3, dLc, dYes, dSl, dNo, dSome, dCall, dCallP, calm0, withD, stRV, wipeE, mergeE, gdN, gdNil, gdCons, gdTup, gdSub,
    oAdd, addOk, addD, oSub, oMul, oMod, oDiv, oInt2, oLt, oLe, oGt, oGe, oEq, oNe, oIx, ixD, szOk, lenD, oIn, oLen, oIsi, isiT, oAll, oAny, oSum, oStr, oInt, oAbs, oTuple, oList, oNeg, oIsN, oNotN, isN, oJoin, oSplit, oPart, isS, own,
    dstart, List.map_cons, List.map_nil, List.length_cons, List.length_nil, List.replicate, List.cons_append, List.nil_append, List.getElem?_cons_zero, List.getElem?_cons_succ, List.set_cons_zero, List.set_cons_succ, List.append_nil,
    if_true, if_false, Bool.false_eq_true, Bool.not_true, Bool.not_false, truD, reduceIte, reduceCtorEq, exists_eq_left', Option.some.injEq, Nat.reduceAdd, Nat.reduceSub, Int.reduceAdd, Int.reduceSub, Bool.not_eq_true', ite_self, beq_self_eq_true, String.reduceBEq, Bool.bne_true, Bool.bne_false, oIsC, isiC, oFld, dMake, oEqO, sTry, sTryA, dStrX, dListZip, oRepL, oNeRows, oStrS, dat, dats, dep, deps, eqD_str, eqD_int, eqD_bl, eqD_non, cutL_to2, cutL_from2, cutL_to1, cutL_from1, Nat.min_self, Nat.zero_le, Nat.min_zero, Nat.zero_min, Nat.max_self, true_and, and_true, Bool.and_self, Bool.true_and, Bool.and_true, decide_eq_true_eq, decide_eq_false_iff_not, implies_true, and_self, Bool.or_self, Bool.or_false, Bool.false_or, List.length_map, rangeD_len, rangeDC_len, atI_c0, atI_c1, atI_c2, atI_c3, Option.map_some, Option.map_none, Int.reduceEq, Int.reduceLT, Int.reduceLE, lk_kind, lk_text, lk_data])
local macro_rules | `(tactic| walk_at "kdh") => `(tactic| (unfold hold; walk_at "kd1"))

/-- what the world tells of the record, the marks -/
structure TD (K : PySem.W.Frag) (mg : Str → Option Value) (CM CR : Addr) : Prop extends Txt K mg CM where
  g_MARKS : GlobD K mg "MARKS" (.tup [.str [62, 32], .str [61, 32], .str [35, 32]])
  gC_Reply : mg "Reply" = some (.ref CR)
  b_zip : mg "zip" = none
  o_Reply : OwnC K CR
  n_kind : NoAttr K CR "kind"
  n_text : NoAttr K CR "text"
  n_data : NoAttr K CR "data"
  s_str : PySem.W.findIn K (.ref CM) "__str__" = some (some (.builtin "BaseException.__str__"))
section
variable {P : Program} {w : World} {K : PySem.W.Frag} {mg : Str → Option Value} {base : Heap} {CM CR : Addr}
/-- what a row tells -/
def markOf (k : Int) : List Nat := if k = 0 then [62, 32] else if k = 1 then [61, 32] else [35, 32]
/-- kind and text of a row -/
def kindOf (l : List Nat) : Option (List Nat × List Nat) := match TL.par [32] [] l with
  | some (a, b) => if isWord a = true then some (a, b) else none
  | none => none
/-- the tuple of a row -/
def tupOf (l : List Nat) : Option D := match rd l with
  | some (.tuple ds) => some (.tup (unps ds))
  | _ => none
def partR (k : Int) (l : List Nat) : Option D :=
  if l.take 2 ≠ markOf k then none
  else if k = 0 then some (.str (l.drop 2))
  else if k = 1 then (kindOf (l.drop 2)).map fun p => .tup [.str p.1, .str p.2]
  else tupOf (l.drop 2)
def sp_read_part : SpD Unit := fun ds _ Q E => ∃ l k, ds = [.str l, .int k] ∧ l.length ≤ 100000 ∧ 0 ≤ k ∧ k < 3 ∧ (∀ d, partR k l = some d → Q d ()) ∧ (partR k l = none → E (0, noData) ())
theorem ok_read_part {f f1 f2 : Addr} {fd fd1 fd2 : FuncData} (D : DefAt K mg "read_part" s_read_part f fd ["line", "k"]) (T : TD K mg CM CR)
    (D_is_word : DefAt K mg "is_word" s_is_word f1 fd1 ["value"]) (G_is_word : FnOk P w K mg base CX0 4 f1 fd1 ["value"] (spD K PW (calm0 sp_is_word)))
    (D_read_data : DefAt K mg "read_data" s_read_data f2 fd2 ["text"]) (G_read_data : FnOk P w K mg base (L2N.CX P w) 4 f2 fd2 ["text"] (spN CM K PW sp_read_data)) :
    FnOk P w K mg base (L2N.CX P w) 5 f fd ["line", "k"] (spN CM K PW sp_read_part) := by
  refine okDN D.fn sc_read_part (fun ds τ Q E h => by obtain ⟨l, k, rfl, _⟩ := h; rfl) fun cdv A outer s H E hr => ?_
  have hu := u160 hr
  refine ⟨_, (sd_cons (sd_if (td_cmp (or_ne (K := K) hu) c_ne (ed_sl (pe_slice (sr_sl (K := K)) (ed_var (pv 0)) od_no (od_some ed_int))) (ed_ix (w_ix (K := K)) c_ix (ed_glob T.g_MARKS) (ed_var (pv 1)) (fun _ _ => rfl)) (nomark _)) (sd_one (sd_rsN (m := [110, 111, 32, 100, 97, 116, 97]) (ps_rsN rfl tkN T.x_Malformed))) sd_nil)
      (sd_cons (sd_set (i := 2) sc_read_part.nd rfl (Or.inl rfl) (ed_sl (pe_slice (sr_sl (K := K)) (ed_var (pv 0)) (od_some ed_int) od_no)))
      (sd_cons (sd_if (td_cmp (or_eq (K := K) hu) c_eq (ed_var (pv 1)) ed_int (nomark _)) (sd_one (sd_ret (ped_fz (ed_var (pv 2))))) sd_nil)
      (sd_cons (sd_if (td_cmp (or_eq (K := K) hu) c_eq (ed_var (pv 1)) ed_int (nomark _)) (sd_cons (sd_asg (ped_fz (ed_m1 (wk_bm (K := K) (pe_bm PySem.F.plainAttrs_str PySem.F.slot_str_partition PySem.F.type_str_partition mt_partition (ed_var (pv 2)) (pa_cons (ed_str lit_16) pa_nil))) c_part)) (gd_tup (K := K) (n := 3) rfl (gd_cons (gd_name (pg_name (i := 3) sc_read_part.nd rfl (Or.inl rfl))) (gd_cons (gd_name (pg_name (i := 4) sc_read_part.nd rfl (Or.inl rfl))) (gd_cons (gd_name (pg_name (i := 5) sc_read_part.nd rfl (Or.inl rfl))) gd_nil)))))
      (sd_cons (sd_if (PW.pt (wd_or (td_cmp (or_eq (K := K) hu) c_eq (ed_var (pv 4)) (ed_str lit_4) (nomark _)) (wd_or1 (td_not (td_tru (K := K) (ed_call0P (pe_call G_is_word (hr.mono (by decide)) rfl D_is_word.g D_is_word.kp D_is_word.b .nil pass0 (ad_cons (ped_fz (ed_var (pv 3))) ad_nil)))))))) (sd_one (sd_rsN (m := [110, 111, 32, 100, 97, 116, 97]) (ps_rsN rfl tkN T.x_Malformed))) sd_nil)
      (sd_one (sd_ret (ped_fz (ed_tup (ad_cons (ped_fz (ed_var (pv 3))) (ad_cons (ped_fz (ed_var (pv 5))) ad_nil)))))))) sd_nil)
      (sd_cons (sd_set (i := 6) sc_read_part.nd rfl (Or.inl rfl) (ed_callNP (pe_callS G_read_data (hr.mono (by decide)) rfl D_read_data.g D_read_data.kp D_read_data.b (fun σ => L2N.passAt tkN σ) (ad_cons (ped_fz (ed_var (pv 2))) ad_nil))))
      (sd_cons (sd_if (td_not (td_tru (K := K) (ed_isi (pe_callB (w_isi (K := K)) rfl T.b_isinstance bb_isinstance (pa_cons (ed_var (pv 6)) (pa_cons (pe_bltn (v := V.ty "tuple") rfl T.b_tuple bb_tuple rfl) pa_nil))) ci_tuple))) (sd_one (sd_rsN (m := [110, 111, 32, 100, 97, 116, 97]) (ps_rsN rfl tkN T.x_Malformed))) sd_nil)
      (sd_one (sd_ret (ped_fz (ed_var (pv 6))))))))))), ?_⟩
  rintro ds τ Q Ed ⟨l, k, rfl, hl, hk, hk3, q, qE⟩
  have hz := sizeLine_eq
  walk_at "kd"
  refine ⟨by omega, .str (markOf k), ?_, ?_⟩
  · obtain rfl | rfl | rfl : k = 0 ∨ k = 1 ∨ k = 2 := by omega
    · rfl
    · rfl
    · rfl
  walk_at "kd"
  unfold partR at q qE
  by_cases h0 : l.take 2 = markOf k
  · simp only [h0, not_true_eq_false, if_false, ne_eq] at q qE ⊢
    refine ⟨by omega, ?_⟩
    by_cases h1 : k = 0
    · rw [if_pos h1]
      rw [if_pos h1] at q
      exact q _ rfl
    · rw [if_neg h1]
      rw [if_neg h1] at q qE
      by_cases h2 : k = 1
      · rw [if_pos h2]
        rw [if_pos h2] at q qE
        refine ⟨⟨by decide, by rw [List.length_drop]; omega⟩, ?_⟩
        unfold kindOf at q qE
        unfold partD
        cases e : TL.par [32] [] (l.drop 2) with
        | none =>
          rw [e] at qE
          walk_at "kd"
          exact qE rfl
        | some p =>
          obtain ⟨a, b⟩ := p
          rw [e] at q qE
          have hs := congrArg List.length (par_split e)
          simp only [List.length_append, List.length_drop, List.nil_append, List.length_cons, List.length_nil] at hs
          walk_at "kd"
          refine ⟨.str a, rfl, rfl, by show a.length ≤ sizeLine; omega, ?_⟩
          generalize hw : wordE (KD.D.str a) = ww
          have hw : isWord a = ww := hw
          cases ww with
          | true =>
            walk_at "kd"
            refine ⟨by omega, q _ ?_⟩
            simp only [hw, if_true, Option.map_some]
          | false =>
            walk_at "kd"
            refine qE ?_
            simp only [hw, Bool.false_eq_true, if_false, Option.map_none]
      · rw [if_neg h2]
        rw [if_neg h2] at q qE
        refine ⟨_, rfl, by rw [List.length_drop]; omega, fun d hd => ?_, fun hd => ?_⟩
        · cases d with
          | tuple ds => exact q _ (by unfold tupOf; rw [hd]; rfl)
          | list ds => have := rd_flat hd; cases this
          | dict ds => have := rd_flat hd; cases this
          | _ => exact qE (by unfold tupOf; rw [hd])
        · exact qE (by unfold tupOf; rw [hd])
  · simp only [h0, not_false_eq_true, if_true, ne_eq] at q qE ⊢
    exact qE trivial
end
end K66

namespace K66
open PySem PySem.Spec PyProof.Rows L2 KX KD KM M53
local macro_rules | `(tactic| walk_at "kd") => `(tactic| simp only [sSeq, sNext, sIf, sRet, sRetN, sSet, sDrop, sFor, sPar, sPar3, sAsg, sAug, sBrk, sCont, sRs, dVar, dC, dOp, dU, dB, dTru, dAnd, dOr, dNot, dNotV, dAndD, dOrD, dIf, dChain, dD, fz, dNil, dCons, dTup, dLst, dM1, dM0, dN, dApp, dPop, dExt, dIt, dRng1, dRng2, dRng3, dLc, dYes, dSl, dNo, dSome, dCall, dCallP, calm0, withD, stRV, wipeE, mergeE, gdN, gdNil, gdCons, gdTup, gdSub,
    oAdd, addOk, addD, oSub, oMul, oMod, oDiv, oInt2, oLt, oLe, oGt, oGe, oEq, oNe, oIx, ixD, szOk, lenD, oIn, oLen, oIsi, isiT, oAll, oAny, oSum, oStr, oInt, oAbs, oTuple, oList, oNeg, oIsN, oNotN, isN, oJoin, oSplit, oPart, isS, own,
    dstart, List.map_cons, List.map_nil, List.length_cons, List.length_nil, List.replicate, List.cons_append, List.nil_append, List.getElem?_cons_zero, List.getElem?_cons_succ, List.set_cons_zero, List.set_cons_succ, List.append_nil,
    if_true, if_false, Bool.false_eq_true, Bool.not_true, Bool.not_false, truD, reduceIte, reduceCtorEq, exists_eq_left', Option.some.injEq, Nat.reduceAdd, Nat.reduceSub, Int.reduceAdd, Int.reduceSub, Bool.not_eq_true', ite_self, beq_self_eq_true, String.reduceBEq, Bool.bne_true, Bool.bne_false, oIsC, isiC, oFld, dMake, oEqO, sTry, sTryA, dStrX, dListZip, oRepL, oNeRows, oStrS, dat, dats, dep, deps, eqD_str, eqD_int, eqD_bl, eqD_non, cutL_to2, cutL_from2, cutL_to1, cutL_from1, Nat.min_self, Nat.zero_le, Nat.min_zero, Nat.zero_min, Nat.max_self, true_and, and_true, Bool.and_self, Bool.true_and, Bool.and_true, decide_eq_true_eq, decide_eq_false_iff_not, implies_true, and_self, Bool.or_self, Bool.or_false, Bool.false_or, List.length_map, rangeD_len, rangeDC_len, atI_c0, atI_c1, atI_c2, atI_c3, Option.map_some, Option.map_none, Int.reduceEq, Int.reduceLT, Int.reduceLE, lk_kind, lk_text, lk_data])
local macro_rules | `(tactic| walk_at "kd1") => `(tactic| simp only [sSeq_hold, sNext, sIf, sRet, sRetN, sSet, sDrop, sFor, sPar, sPar3, sAsg, sAug, sBrk, sCont, sRs, dVar, dC, dOp, dU, dB, dTru, dAnd, dOr, dNot, dNotV, dAndD, dOrD, dIf, dChain, dD, fz, dNil, dCons, dTup, dLst, dM1, dM0, dN, dApp, dPop, dExt, dIt, dRng1, dRng2, dRng3, dLc, dYes, dSl, dNo, dSome, dCall, dCallP, calm0, withD, stRV, wipeE, mergeE, gdN, gdNil, gdCons, gdTup, gdSub,
    oAdd, addOk, addD, oSub, oMul, oMod, oDiv, oInt2, oLt, oLe, oGt, oGe, oEq, oNe, oIx, ixD, szOk, lenD, oIn, oLen, oIsi, isiT, oAll, oAny, oSum, oStr, oInt, oAbs, oTuple, oList, oNeg, oIsN, oNotN, isN, oJoin, oSplit, oPart, isS, own,
    dstart, List.map_cons, List.map_nil, List.length_cons, List.length_nil, List.replicate, List.cons_append, List.nil_append, List.getElem?_cons_zero, List.getElem?_cons_succ, List.set_cons_zero, List.set_cons_succ, List.append_nil,
    if_true, if_false, Bool.false_eq_true, Bool.not_true, Bool.not_false, truD, reduceIte, reduceCtorEq, exists_eq_left', Option.some.injEq, Nat.reduceAdd, Nat.reduceSub, Int.reduceAdd, Int.reduceSub, Bool.not_eq_true', ite_self, beq_self_eq_true, String.reduceBEq, Bool.bne_true, Bool.bne_false, oIsC, isiC, oFld, dMake, oEqO, sTry, sTryA, dStrX, dListZip, oRepL, oNeRows, oStrS, dat, dats, dep, deps, eqD_str, eqD_int, eqD_bl, eqD_non, cutL_to2, cutL_from2, cutL_to1, cutL_from1, Nat.min_self, Nat.zero_le, Nat.min_zero, Nat.zero_min, Nat.max_self, true_and, and_true, Bool.and_self, Bool.true_and, Bool.and_true, decide_eq_true_eq, decide_eq_false_iff_not, implies_true, and_self, Bool.or_self, Bool.or_false, Bool.false_or, List.length_map, rangeD_len, rangeDC_len, atI_c0, atI_c1, atI_c2, atI_c3, Option.map_some, Option.map_none, Int.reduceEq, Int.reduceLT, Int.reduceLE, lk_kind, lk_text, lk_data])
local macro_rules | `(tactic| walk_at "kdh") => `(tactic| (unfold hold; walk_at "kd1"))

/-- the record's class, its __init__ and defaults -/
structure RepAt (K : PySem.W.Frag) (mg : Str → Option Value) (CR f : Addr) (fd : FuncData) (d1 d2 : List Value) (T0 : Addr) : Prop where
  mkr : Mk K CR f
  gC : mg "Reply" = some (.ref CR)
  b3 : Binds K fd ["self", "kind", "text", "data"] []
  b2 : Binds K fd ["self", "kind", "text", "data"] d2
  b1 : Binds K fd ["self", "kind", "text", "data"] d1
  vs3 : Vals [] []
  vs2 : Vals [.ref T0] d2
  vs1 : Vals [.str (tx []), .ref T0] d1
  dv3 : ∀ (fo : Addr → Prop) (H : Hp), FzA K fo H [] []
  dv2 : ∀ (fo : Addr → Prop) (H : Hp), FzA K fo H [.ref T0] [.tup []]
  dv1 : ∀ (fo : Addr → Prop) (H : Hp), FzA K fo H [.str (tx []), .ref T0] [.str [], .tup []]
/-! what the reader tells -/
def goR : Nat → List T → List D → Nat ⊕ List D
  | _, [], acc => .inr acc
  | at_, l :: ls, acc => match partR ((at_ % 3 : Nat) : Int) l with
    | none => .inl (at_ + 1)
    | some d => goR (at_ + 1) ls (acc ++ [d])
theorem goR_cons (i : Nat) (l : T) (ls : List T) (acc : List D) : goR i (l :: ls) acc = match partR ((i % 3 : Nat) : Int) l with
    | none => .inl (i + 1)
    | some d => goR (i + 1) ls (acc ++ [d]) := by rw [goR]
structure En where
  line : D
  kind : T
  more : T
  data : D
def ents : List D → List En
  | a :: .tup [.str k, .str x] :: d :: r => ⟨a, k, x, d⟩ :: ents r
  | _ => []
def entD (CR : Addr) (e : En) : D := .tup [e.line, .obj CR nsR [.str e.kind, .str e.more, e.data]]
def rowsOf (l : T) : List T := TL.spl [10] 0 [] l
def diaryR (l : T) : Nat ⊕ List En := match goR 0 (rowsOf l).dropLast [] with
  | .inl n => .inl n
  | .inr ps => if (rowsOf l).getLast? ≠ some [] ∨ ps.length % 3 ≠ 0 then .inl (ps.length + 1) else .inr (ents ps)
theorem spl_len (S : T) : ∀ (l : T) (k : Nat) (acc : T), (TL.spl S k acc l).length ≤ l.length + 1
  | [], k, acc => by rw [TL.spl_nil]; simp
  | c :: l, 0, acc => by
    unfold TL.spl
    split
    · have := spl_len S l (S.length - 1) []
      simp only [List.length_cons]
      omega
    · have := spl_len S l 0 (acc ++ [c])
      simp only [List.length_cons]
      omega
  | c :: l, k + 1, acc => by
    unfold TL.spl
    have := spl_len S l k acc
    simp only [List.length_cons]
    omega
theorem spl_each (S : T) : ∀ (l : T) (k : Nat) (acc x : T), x ∈ TL.spl S k acc l → x.length ≤ acc.length + l.length
  | [], k, acc, x, h => by rw [TL.spl_nil] at h; simp at h; subst h; simp
  | c :: l, 0, acc, x, h => by
    unfold TL.spl at h
    split at h
    · rcases List.mem_cons.mp h with rfl | h
      · omega
      · have := spl_each S l (S.length - 1) [] x h
        simp only [List.length_cons, List.length_nil] at this ⊢
        omega
    · have := spl_each S l 0 (acc ++ [c]) x h
      simp only [List.length_cons, List.length_append, List.length_nil] at this ⊢
      omega
  | c :: l, k + 1, acc, x, h => by
    unfold TL.spl at h
    have := spl_each S l k acc x h
    simp only [List.length_cons]
    omega
theorem spl_ne (S : T) : ∀ (l : T) (k : Nat) (acc : T), TL.spl S k acc l ≠ []
  | [], k, acc => by rw [TL.spl_nil]; simp
  | c :: l, 0, acc => by
    unfold TL.spl
    split
    · simp
    · exact spl_ne S l 0 (acc ++ [c])
  | c :: l, k + 1, acc => by
    unfold TL.spl
    exact spl_ne S l k acc
/-- parts told by rows -/
def Parts (rows : List T) (acc : List D) : Prop := ∀ j d, acc[j]? = some d → ∃ l, rows[j]? = some l ∧ partR ((j % 3 : Nat) : Int) l = some d
theorem Parts.snoc {rows : List T} {acc : List D} {l : T} {d : D} (h : Parts rows acc) (hl : rows[acc.length]? = some l) (hd : partR ((acc.length % 3 : Nat) : Int) l = some d) : Parts rows (acc ++ [d]) := by
  intro j e he
  rw [List.getElem?_append] at he
  split at he
  · exact h j e he
  · rename_i hj
    have : j = acc.length := by
      by_cases z : j - acc.length = 0
      · omega
      · rw [List.getElem?_eq_none (by simp; omega)] at he
        cases he
    subst this
    simp at he
    subst he
    exact ⟨l, hl, hd⟩
theorem goR_parts (rows : List T) : ∀ (ls : List T) (acc : List D) (ps : List D), rows.drop acc.length = ls → Parts rows acc → goR acc.length ls acc = .inr ps → Parts rows ps ∧ ps.length = acc.length + ls.length
  | [], acc, ps, e, h, g => by cases g; exact ⟨h, rfl⟩
  | l :: ls, acc, ps, e, h, g => by
    unfold goR at g
    cases q : partR ((acc.length % 3 : Nat) : Int) l with
    | none => rw [q] at g; cases g
    | some d =>
      rw [q] at g
      have hl : rows[acc.length]? = some l := by
        have := congrArg (fun z => z[0]?) e
        simpa using this
      have hr : rows.drop (acc ++ [d]).length = ls := by
        have := congrArg List.tail e
        simpa using this
      have := goR_parts rows ls (acc ++ [d]) ps hr (h.snoc hl q) (by simpa using g)
      refine ⟨this.1, ?_⟩
      rw [this.2]
      simp only [List.length_append, List.length_cons, List.length_nil]
      omega
/-- the entries, one by one -/
theorem ents_get {rows : List T} : ∀ (n : Nat) (ps : List D) (o : Nat), (∀ j d, ps[j]? = some d → ∃ l, partR ((j % 3 : Nat) : Int) l = some d) → ps.length = 3 * n → (ents ps).length = n ∧
    ∀ t, t < n → ∃ a k x d, ps[3 * t]? = some a ∧ ps[3 * t + 1]? = some (.tup [.str k, .str x]) ∧ ps[3 * t + 2]? = some d ∧ (ents ps)[t]? = some ⟨a, k, x, d⟩
  | 0, ps, o, h, hl => by
    have : ps = [] := List.length_eq_zero_iff.mp (by omega)
    subst this
    exact ⟨rfl, fun t ht => by omega⟩
  | n + 1, ps, o, h, hl => by
    match ps, h, hl with
    | a :: b :: d :: r, h, hl =>
      obtain ⟨l, e⟩ := h 1 b rfl
      have e : partR 1 l = some b := e
      unfold partR at e
      split at e
      · cases e
      · rw [if_neg (by decide), if_pos rfl, Option.map_eq_some_iff] at e
        obtain ⟨p, _, rfl⟩ := e
        simp only [List.length_cons] at hl
        have ih := ents_get (rows := rows) n r o (fun j d hj => by
          have := h (j + 3) d (by simpa using hj)
          rw [Nat.add_mod_right] at this
          exact this) (by omega)
        refine ⟨by show (ents r).length + 1 = _; rw [ih.1], fun t ht => ?_⟩
        cases t with
        | zero => exact ⟨a, p.1, p.2, d, rfl, rfl, rfl, rfl⟩
        | succ t =>
          obtain ⟨a', k', x', d', g1, g2, g3, g4⟩ := ih.2 t (by omega)
          refine ⟨a', k', x', d', ?_, ?_, ?_, g4⟩
          · rw [show 3 * (t + 1) = 3 * t + 3 from by omega]; exact g1
          · rw [show 3 * (t + 1) + 1 = 3 * t + 1 + 3 from by omega]; exact g2
          · rw [show 3 * (t + 1) + 2 = 3 * t + 2 + 3 from by omega]; exact g3
def rowText (n : Nat) : T := [114, 111, 119, 32] ++ itxt (n : Nat)
theorem log_nat {n : Nat} (h : n ≤ 1000000) : ((n : Nat) : Int).natAbs.log2 < 1920 := by
  rw [Int.natAbs_natCast]
  have : n < 2 ^ 1920 := Nat.lt_of_le_of_lt h (by decide +kernel)
  by_cases z : n = 0
  · subst z; decide
  · exact (Nat.log2_lt z).mpr this
theorem pow_ok {n : Nat} (h : n ≤ 1000000) : ((n : Nat) + 1 : Int).natAbs < 10 ^ 4300 := by
  have h1 : (10 : Nat) ^ 7 ≤ 10 ^ 4300 := Nat.pow_le_pow_right (by decide) (by decide)
  have h2 : ((n : Nat) + 1 : Int).natAbs < 10 ^ 7 := by omega
  exact Nat.lt_of_lt_of_le h2 h1
theorem itxt_len {n : Nat} (h : n ≤ 1000000) : (itxt (n : Nat)).length ≤ 100 := by
  unfold itxt
  rw [if_neg (by omega), Int.natAbs_natCast]
  have h1 : (10 : Nat) ^ 7 ≤ 10 ^ 100 := Nat.pow_le_pow_right (by decide) (by decide)
  have h2 : n < 10 ^ 7 := by omega
  exact TL.numL_len (by decide) (Nat.lt_of_lt_of_le h2 h1)
section
variable {P : Program} {w : World} {K : PySem.W.Frag} {mg : Str → Option Value} {base : Heap} {CM CR : Addr}
def sp_read_diary (CR : Addr) : SpD Unit := fun ds _ Q E => ∃ d, ds = [d] ∧ dat d = true ∧ (∀ l, d = .str l → l.length ≤ 100000 ∧ (∀ es, diaryR l = .inr es → Q (.lst (es.map (entD CR))) ()) ∧ ∀ n, diaryR l = .inl n → E (0, rowText n) ()) ∧
  ((∀ l, d ≠ .str l) → E (0, [110, 111, 32, 116, 101, 120, 116]) ())
theorem ok_read_diary {f f1 f2 T0 : Addr} {fd fd1 fd2 : FuncData} {d1 d2 : List Value} (D : DefAt K mg "read_diary" s_read_diary f fd ["text"]) (T : TD K mg CM CR) (nd : base.NoDigits)
    (D_read_part : DefAt K mg "read_part" s_read_part f1 fd1 ["line", "k"]) (G_read_part : FnOk P w K mg base (L2N.CX P w) 5 f1 fd1 ["line", "k"] (spN CM K PW sp_read_part))
    (D_Reply : RepAt K mg CR f2 fd2 d1 d2 T0) (G_Reply : FnOk P w K mg base CX0 1 f2 fd2 ["self", "kind", "text", "data"] (spInit CR nsR)) :
    FnOk P w K mg base (KM.CM CM P w) 6 f fd ["text"] (spD K PW (sp_read_diary CR)) := by
  refine okDM D.fn sc_read_diary (fun ds τ Q E h => by obtain ⟨l, rfl, _⟩ := h; rfl) fun cdv A outer s H E hr => ?_
  have hu := u160 hr
  refine ⟨_, (sd_cons (sd_if (td_not (td_tru (K := K) (ed_isi (pe_callB (w_isi (K := K)) rfl T.b_isinstance bb_isinstance (pa_cons (ed_var (pv 0)) (pa_cons (pe_bltn (v := V.ty "str") rfl T.b_str bb_str rfl) pa_nil))) ci_str))) (sd_one (sd_rsM (ps_raiseM rfl tkM (pmkM T.x_Malformed rfl (ed_str lit_18))))) sd_nil)
      (sd_cons (sd_set (i := 1) sc_read_diary.nd rfl (Or.inl rfl) (ed_m1 (wk_bm (K := K) (pe_bm PySem.F.plainAttrs_str PySem.F.slot_str_split PySem.F.type_str_split mt_split (ed_var (pv 0)) (pa_cons (ed_str lit_10) pa_nil))) c_split))
      (sd_cons (sd_set (i := 2) sc_read_diary.nd rfl (Or.inr rfl) (ed_lst ad_nil))
      (sd_cons (sd_for go_name (passes_of rfl) rfl (id_rng1 (pi_range1 rfl T.b_range (ad_cons (ped_fz (ed_bin op_sub c_sub (ed_b1 (pe_callB (w_len (K := K)) rfl T.b_len bb_len (pa_cons (ed_var (pv 1)) pa_nil)) c_len) ed_int)) ad_nil))) (pg_name (i := 3) sc_read_diary.nd rfl (Or.inl rfl)) (sd_one (sd_tryRe T.x_Malformed.self rfl rfl ⟨rfl, by decide, .inl T.x_Malformed.gC⟩ (fun hd => L2H.passesAt_of rfl hd) tkM (fun W pn xe tk _ => (sd_one (sd_expr (ed_app (wk_bm (K := K) (pe_bm PySem.F.plainAttrs_list PySem.F.slot_list_append PySem.F.type_list_append mt_append (pv 2) (pa_cons (ped_fz (ed_callNP (pe_callS G_read_part (hr.mono (by decide)) rfl D_read_part.g D_read_part.kp D_read_part.b (fun σ => L2N.passAt tk σ) (ad_cons (ped_fz (ed_ix (w_ix (K := K)) c_ix (ed_var (pv 1)) (ed_var (pv 3)) (fun _ _ => rfl))) (ad_cons (ped_fz (ed_bin op_mod c_mod (ed_var (pv 3)) ed_int)) ad_nil))))) pa_nil))))))) (fun p pn tkS hot => (sd_one (sd_rsM (ps_raiseHM hot tkS (pmk6 T.x_Malformed rfl (ed_bin (or_add (K := K)) c_add (ed_str lit_19) (ed_b1 (pe_callTy call_str_int rfl T.b_str bb_str (pa_cons (ed_bin (or_add (K := K)) c_add (ed_var (pv 3)) ed_int) pa_nil)) c_strS))))))))))
      (sd_cons (sd_if (PW.pt (wd_or (td_cmp (or_ne (K := K) hu) c_ne (ed_ix (w_ix (K := K)) c_ix (ed_var (pv 1)) (ed_un un_neg c_neg ed_int) (fun _ _ => rfl)) (ed_str lit_4) (nomark _)) (wd_or1 (td_cmp (or_ne (K := K) hu) c_ne (ed_bin op_mod c_mod (ed_b1 (pe_callB (w_len (K := K)) rfl T.b_len bb_len (pa_cons (ed_var (pv 2)) pa_nil)) c_len) ed_int) ed_int (nomark _))))) (sd_one (sd_rsM (ps_raiseM rfl tkM (pmkM T.x_Malformed rfl (ed_bin (or_add (K := K)) c_add (ed_str lit_19) (ed_b1 (pe_callTy (kx_str rfl nd) rfl T.b_str bb_str (pa_cons (ed_bin (or_add (K := K)) c_add (ed_b1 (pe_callB (w_len (K := K)) rfl T.b_len bb_len (pa_cons (ed_var (pv 2)) pa_nil)) c_len) ed_int) pa_nil)) c_str)))))) sd_nil)
      (sd_one (sd_ret (ped_fz (ed_lc (own := [("t", 4)]) go_name (gw_name (by decide)) tt_yes rfl sc_read_diary.nd (id_rng3 (pi_range3 rfl T.b_range (ad_cons (ped_fz ed_int) (ad_cons (ped_fz (ed_b1 (pe_callB (w_len (K := K)) rfl T.b_len bb_len (pa_cons (ed_var (pv 2)) pa_nil)) c_len)) (ad_cons (ped_fz ed_int) ad_nil))))) (blkOk_by (N := n_read_diary) (sc := defScope s_read_diary) (by decide +kernel)) (fun _ _ _ _ _ => (pg_name (i := 4) sc_read_diary.nd rfl (Or.inl rfl))) (fun _ _ _ _ _ => pts_nil) (fun _ _ _ _ _ => (ped_fz (ed_tup (ad_cons (ped_fz (ed_ix (w_ix (K := K)) c_ix (ed_var (pv 2)) (ed_var (pv 4)) (fun _ _ => rfl))) (ad_cons (ped_fz (ed_make D_Reply.dv3 (pe_make D_Reply.mkr G_Reply (hr.mono (by decide)) rfl D_Reply.gC D_Reply.b3 D_Reply.vs3 pass0 (ad_cons (ped_fz (ed_ix (w_ix (K := K)) c_ix (ed_ix (w_ix (K := K)) c_ix (ed_var (pv 2)) (ed_bin (or_add (K := K)) c_add (ed_var (pv 4)) ed_int) (fun _ _ => rfl)) ed_int (fun _ _ => rfl))) (ad_cons (ped_fz (ed_ix (w_ix (K := K)) c_ix (ed_ix (w_ix (K := K)) c_ix (ed_var (pv 2)) (ed_bin (or_add (K := K)) c_add (ed_var (pv 4)) ed_int) (fun _ _ => rfl)) ed_int (fun _ _ => rfl))) (ad_cons (ped_fz (ed_ix (w_ix (K := K)) c_ix (ed_var (pv 2)) (ed_bin (or_add (K := K)) c_add (ed_var (pv 4)) ed_int) (fun _ _ => rfl))) ad_nil)))))) ad_nil)))))))))))))), ?_⟩
  rintro ds τ Q Ed ⟨d, rfl, hd, q, qE⟩
  have hz := sizeLine_eq
  by_cases hs : ∃ l, d = .str l
  · obtain ⟨l, rfl⟩ := hs
    obtain ⟨hl, q1, q2⟩ := q l rfl
    have rl := spl_len [10] l 0 []
    have re := spl_each [10] l 0 []
    have rn := spl_ne [10] l 0 []
    walk_at "kd"
    rw [List.length_nil] at re
    refine ⟨⟨by decide, by decide, by omega⟩, by omega, by omega, ?_⟩
    have en : (((TL.spl [10] 0 [] l).length : Nat) - 1 : Int).toNat = (rowsOf l).dropLast.length := by rw [List.length_dropLast]; unfold rowsOf; omega
    rw [en]
    generalize hG : goR 0 (rowsOf l).dropLast [] = G
    refine fd_list (fun i ρ _ => ∃ acc o, ρ = [some (.d (.str l)), some (.own ((rowsOf l).map .str)), some (.own acc), o, none] ∧ acc.length = i ∧ Parts (rowsOf l) acc ∧ goR i ((rowsOf l).dropLast.drop i) acc = G) ⟨[], none, rfl, rfl, fun j d h => by simp at h, hG⟩ ?_ ?_
    · rintro i x F ρ τ hx ⟨acc, o, rfl, rfl, hp, hg⟩ hF
      obtain ⟨hi, rfl⟩ := rangeD_get hx
      have h1 : acc.length < (rowsOf l).length := by rw [List.length_dropLast] at hi; omega
      have g1 : (rowsOf l)[acc.length]? = some (rowsOf l)[acc.length] := List.getElem?_eq_getElem h1
      have g2 : (rowsOf l).dropLast[acc.length]? = some (rowsOf l)[acc.length] := by rw [List.getElem?_dropLast, if_pos (by rw [List.length_dropLast] at hi; omega)]; exact g1
      have g3 : (rowsOf l).dropLast.drop acc.length = (rowsOf l)[acc.length] :: (rowsOf l).dropLast.drop (acc.length + 1) := by
        have := List.drop_eq_getElem_cons hi
        rw [this]
        congr 1
        exact Option.some.inj ((List.getElem?_eq_getElem hi).symm.trans g2)
      generalize (rowsOf l)[acc.length] = row at g1 g2 g3
      have hrow : row.length ≤ 100000 := by
        have := re row (List.mem_of_getElem? g1)
        omega
      rw [g3, goR_cons] at hg
      simp only [gdN]
      walk_at "kd"
      refine ⟨⟨_, rfl⟩, .str row, ?_, ?_⟩
      · rw [Int.zero_add, KD.atI_nat, List.getElem?_map, g1]
        rfl
      have e3 : ((0 : Int) + (acc.length : Nat)) % 3 = ((acc.length % 3 : Nat) : Int) := by omega
      rw [e3]
      refine ⟨row, _, rfl, hrow, by omega, by omega, fun d hd => ?_, fun hn => ?_⟩
      · walk_at "kd"
        rw [hd] at hg
        refine ⟨?_, hF _ _ ⟨acc ++ [d], _, rfl, by simp, hp.snoc g1 hd, hg⟩⟩
        rw [List.length_dropLast] at hi
        have : (rowsOf l).length = (TL.spl [10] 0 [] l).length := rfl
        omega
      · walk_at "kd"
        rw [hn] at hg
        have e4 : (0 : Int) + (acc.length : Nat) + 1 = ((acc.length + 1 : Nat) : Int) := by omega
        rw [e4]
        have h5 : acc.length + 1 ≤ 1000000 := by
          have : (rowsOf l).length = (TL.spl [10] 0 [] l).length := rfl
          omega
        have h6 := itxt_len h5
        exact ⟨log_nat h5, by omega, q2 _ (by unfold diaryR; rw [hG, ← hg])⟩
    · rintro ρ τ ⟨acc, o, rfl, hi, hp, hg⟩
      walk_at "kd"
      have hacc : acc.length = (rowsOf l).length - 1 := by rw [hi, rangeD_len, List.length_dropLast]
      have hlen : (rowsOf l).length = (TL.spl [10] 0 [] l).length := rfl
      have elast : ∃ x, (rowsOf l).getLast? = some x := ⟨_, List.getLast?_eq_some_getLast rn⟩
      obtain ⟨lx, elast⟩ := elast
      have hsh := itxt_len (n := acc.length + 1) (by omega)
      have hshL : 4 + (itxt ((acc.length : Nat) + 1 : Int)).length ≤ sizeLine := by
        have : itxt ((acc.length : Nat) + 1 : Int) = itxt ((acc.length + 1 : Nat) : Int) := rfl
        rw [this]
        omega
      have hm : acc.length ≤ 1000000 := by omega
      have hdrop : (rowsOf l).dropLast.drop acc.length = [] := by
        apply List.drop_of_length_le
        rw [List.length_dropLast]
        omega
      rw [show (rangeD 0 (rowsOf l).dropLast.length).length = acc.length from hi.symm, hdrop] at hg
      have hg : Sum.inr acc = G := hg
      have edi : diaryR l = if (rowsOf l).getLast? ≠ some [] ∨ acc.length % 3 ≠ 0 then .inl (acc.length + 1) else .inr (ents acc) := by
        unfold diaryR
        rw [hG, ← hg]
      rw [elast] at edi
      have bad : (lx ≠ [] ∨ acc.length % 3 ≠ 0) → Ed (0, 114 :: 111 :: 119 :: 32 :: itxt ((acc.length : Nat) + 1)) τ := fun z => q2 (acc.length + 1) (by rw [edi, if_pos (z.imp (fun a b => a (Option.some.inj b)) id)])
      refine ⟨.str lx, by rw [KD.atI_last, List.getLast?_map, elast]; rfl, rfl, ?_⟩
      walk_at "kd"
      by_cases hx : lx = []
      · rw [if_neg (fun z => z hx)]
        by_cases h3 : acc.length % 3 = 0
        · rw [if_neg (fun z => z (by omega))]
          have ht : acc.length % 3 = 0 := h3
          refine ⟨acc.length / 3, rgC_3 h3 (by omega), by omega, ?_⟩
          obtain ⟨n1, n2⟩ := ents_get (rows := rowsOf l) (acc.length / 3) acc 0 (fun j d hj => let ⟨l2, _, e⟩ := hp j d hj; ⟨l2, e⟩) (by omega)
          refine lc_list (fun i ds ρ _ => ρ = [some (.d (.str l)), some (.own ((rowsOf l).map .str)), some (.own acc), o, none] ∧ ds = ((ents acc).take i).map (entD CR)) ⟨rfl, rfl⟩ ?_ ?_
          · rintro i x F ds ρ τ hx ⟨rfl, rfl⟩ hF
            obtain ⟨hi, rfl⟩ := rangeDC_get hx
            obtain ⟨a, k, x, d, y1, y2, y3, y4⟩ := n2 i hi
            walk_at "kd"
            have i1 : (0 : Int) + (i : Nat) * 3 = ((3 * i : Nat) : Int) := by omega
            have i2 : (0 : Int) + (i : Nat) * 3 + 1 = ((3 * i + 1 : Nat) : Int) := by omega
            have i3 : (0 : Int) + (i : Nat) * 3 + 2 = ((3 * i + 2 : Nat) : Int) := by omega
            rw [i3, i2, i1, KD.atI_nat, KD.atI_nat, KD.atI_nat]
            refine ⟨a, y1, _, y2, trivial, .str k, rfl, _, y2, trivial, .str x, rfl, d, y3, rfl, by omega, hF _ _ _ ⟨rfl, ?_⟩⟩
            rw [List.take_add_one, y4, List.map_append]
            rfl
          · rintro ds ρ τ ⟨rfl, rfl⟩
            rw [rangeDC_len, ← n1, List.take_length]
            exact q1 _ (by rw [edi, if_neg (fun z => z.elim (fun a => a (by rw [hx])) (fun a => a h3))])
        · rw [if_pos (by omega)]
          exact ⟨pow_ok hm, hshL, bad (.inr h3)⟩
      · rw [if_pos hx]
        exact ⟨pow_ok hm, hshL, bad (.inl hx)⟩
  · have qN := qE fun l e => hs ⟨l, e⟩
    cases d with
    | str l => exact absurd ⟨l, rfl⟩ hs
    | fn a => cases hd
    | obj a b c => cases hd
    | _ => walk_at "kd"; exact qN
end
end K66

namespace K66
open PySem PySem.Spec PyProof.Rows L2 KX KD KM M53
local macro_rules | `(tactic| walk_at "kd") => `(tactic| simp only [sSeq, sNext, sIf, sRet, sRetN, sSet, sDrop, sFor, sPar, sPar3, sAsg, sAug, sBrk, sCont, sRs, dVar, dC, dOp, dU, dB, dTru, dAnd, dOr, dNot, dNotV, dAndD, dOrD, dIf, dChain, dD, fz, dNil, dCons, dTup, dLst, dM1, dM0, dN, dApp, dPop, dExt, dIt, dRng1, dRng2, dRng3, dLc, dYes, dSl, dNo, dSome, dCall, dCallP, calm0, withD, stRV, wipeE, mergeE, gdN, gdNil, gdCons, gdTup, gdSub,
    oAdd, addOk, addD, oSub, oMul, oMod, oDiv, oInt2, oLt, oLe, oGt, oGe, oEq, oNe, oIx, ixD, szOk, lenD, oIn, oLen, oIsi, isiT, oAll, oAny, oSum, oStr, oInt, oAbs, oTuple, oList, oNeg, oIsN, oNotN, isN, oJoin, oSplit, oPart, isS, own,
    dstart, List.map_cons, List.map_nil, List.length_cons, List.length_nil, List.replicate, List.cons_append, List.nil_append, List.getElem?_cons_zero, List.getElem?_cons_succ, List.set_cons_zero, List.set_cons_succ, List.append_nil,
    if_true, if_false, Bool.false_eq_true, Bool.not_true, Bool.not_false, truD, reduceIte, reduceCtorEq, exists_eq_left', Option.some.injEq, Nat.reduceAdd, Nat.reduceSub, Int.reduceAdd, Int.reduceSub, Bool.not_eq_true', ite_self, beq_self_eq_true, String.reduceBEq, Bool.bne_true, Bool.bne_false, oIsC, isiC, oFld, dMake, oEqO, sTry, sTryA, dStrX, dListZip, oRepL, oNeRows, oStrS, dat, dats, dep, deps, eqD_str, eqD_int, eqD_bl, eqD_non, cutL_to2, cutL_from2, cutL_to1, cutL_from1, Nat.min_self, Nat.zero_le, Nat.min_zero, Nat.zero_min, Nat.max_self, true_and, and_true, Bool.and_self, Bool.true_and, Bool.and_true, decide_eq_true_eq, decide_eq_false_iff_not, implies_true, and_self, Bool.or_self, Bool.or_false, Bool.false_or, List.length_map, rangeD_len, rangeDC_len, atI_c0, atI_c1, atI_c2, atI_c3, Option.map_some, Option.map_none, Int.reduceEq, Int.reduceLT, Int.reduceLE, lk_kind, lk_text, lk_data])
local macro_rules | `(tactic| walk_at "kd1") => `(tactic| simp only [sSeq_hold, sNext, sIf, sRet, sRetN, sSet, sDrop, sFor, sPar, sPar3, sAsg, sAug, sBrk, sCont, sRs, dVar, dC, dOp, dU, dB, dTru, dAnd, dOr, dNot, dNotV, dAndD, dOrD, dIf, dChain, dD, fz, dNil, dCons, dTup, dLst, dM1, dM0, dN, dApp, dPop, dExt, dIt, dRng1, dRng2, dRng3, dLc, dYes, dSl, dNo, dSome, dCall, dCallP, calm0, withD, stRV, wipeE, mergeE, gdN, gdNil, gdCons, gdTup, gdSub,
    oAdd, addOk, addD, oSub, oMul, oMod, oDiv, oInt2, oLt, oLe, oGt, oGe, oEq, oNe, oIx, ixD, szOk, lenD, oIn, oLen, oIsi, isiT, oAll, oAny, oSum, oStr, oInt, oAbs, oTuple, oList, oNeg, oIsN, oNotN, isN, oJoin, oSplit, oPart, isS, own,
    dstart, List.map_cons, List.map_nil, List.length_cons, List.length_nil, List.replicate, List.cons_append, List.nil_append, List.getElem?_cons_zero, List.getElem?_cons_succ, List.set_cons_zero, List.set_cons_succ, List.append_nil,
    if_true, if_false, Bool.false_eq_true, Bool.not_true, Bool.not_false, truD, reduceIte, reduceCtorEq, exists_eq_left', Option.some.injEq, Nat.reduceAdd, Nat.reduceSub, Int.reduceAdd, Int.reduceSub, Bool.not_eq_true', ite_self, beq_self_eq_true, String.reduceBEq, Bool.bne_true, Bool.bne_false, oIsC, isiC, oFld, dMake, oEqO, sTry, sTryA, dStrX, dListZip, oRepL, oNeRows, oStrS, dat, dats, dep, deps, eqD_str, eqD_int, eqD_bl, eqD_non, cutL_to2, cutL_from2, cutL_to1, cutL_from1, Nat.min_self, Nat.zero_le, Nat.min_zero, Nat.zero_min, Nat.max_self, true_and, and_true, Bool.and_self, Bool.true_and, Bool.and_true, decide_eq_true_eq, decide_eq_false_iff_not, implies_true, and_self, Bool.or_self, Bool.or_false, Bool.false_or, List.length_map, rangeD_len, rangeDC_len, atI_c0, atI_c1, atI_c2, atI_c3, Option.map_some, Option.map_none, Int.reduceEq, Int.reduceLT, Int.reduceLE, lk_kind, lk_text, lk_data])
local macro_rules | `(tactic| walk_at "kdh") => `(tactic| (unfold hold; walk_at "kd1"))

/-- the text of an entry -/
def lineOf (l k x t : T) : T := [62, 32] ++ l ++ [10] ++ ([61, 32] ++ k ++ [32] ++ x ++ [10]) ++ ([35, 32] ++ t ++ [10])
def strD : D → T
  | .str l => l
  | _ => []
def isTupE : D → Bool
  | .tup _ => true
  | _ => false
def repW (a : T) : D → Option T
  | .obj _ _ [k, x, d] => if wordE k = true then (if noLf x = true then (if isTupE d = true then (wr 1000 (py d)).map (lineOf a (strD k) (strD x)) else none) else none) else none
  | _ => none
def entW : D → Option T
  | .tup [a, b] => if noLf a = true then repW (strD a) b else none
  | _ => none
theorem entW_pair (a b : D) : entW (.tup [a, b]) = if noLf a = true then repW (strD a) b else none := rfl
theorem repW_obj (l : T) (C : Addr) (ns : List Str) (k x d : D) : repW l (.obj C ns [k, x, d]) = if wordE k = true then (if noLf x = true then (if isTupE d = true then (wr 1000 (py d)).map (lineOf l (strD k) (strD x)) else none) else none) else none := rfl
def wrE : List D → Option T
  | [] => some []
  | e :: es => match entW e, wrE es with
    | some t, some ts => some (t ++ ts)
    | _, _ => none
def small : D → Prop
  | .str l => l.length ≤ 100000
  | _ => True
/-- what may be asked -/
def okE (CR : Addr) : D → Prop
  | .tup [a, .obj C ns [k, x, d]] => (C = CR ∧ ns = nsR) ∧ (dat a = true ∧ dat k = true ∧ dat x = true ∧ dat d = true) ∧ (small a ∧ small k ∧ small x) ∧ strOk (py d) = true ∧ sz (py d) ≤ 1000000 ∧ ∀ t, wr 1000 (py d) = some t → t.length ≤ 100000
  | .tup [a, b] => dat a = true ∧ small a ∧ dat b = true
  | .fn _ => False
  | .obj _ _ _ => False
  | _ => True
def sp_write_diary (CR : Addr) : SpD Unit := fun ds _ Q E => ∃ d, ds = [d] ∧ ((dat d = true ∧ (∀ es, d ≠ .lst es) ∧ ∀ m, m.length ≤ 100 → E (0, m) ()) ∨ ∃ es, d = .lst es ∧ es.length ≤ 10 ∧ (∀ e ∈ es, okE CR e) ∧ (∀ t, wrE es = some t → Q (.str t) ()) ∧ (wrE es = none → ∀ m, m.length ≤ 100 → E (0, m) ()))
theorem wrE_none {x : D} (h : entW x = none) : ∀ {es : List D}, x ∈ es → wrE es = none
  | e :: es, hm => by
    unfold wrE
    rcases List.mem_cons.mp hm with rfl | hm
    · rw [h]
    · rw [wrE_none h hm]
      cases entW e <;> rfl
theorem small_len {d : D} (h : small d) : lenOk d := by
  have := sizeLine_eq
  cases d with
  | str l => have h : l.length ≤ 100000 := h; show l.length ≤ sizeLine; omega
  | _ => trivial
section
variable {P : Program} {w : World} {K : PySem.W.Frag} {mg : Str → Option Value} {base : Heap} {CM CR : Addr}
theorem ok_write_diary {f f1 f2 f3 : Addr} {fd fd1 fd2 fd3 : FuncData} (D : DefAt K mg "write_diary" s_write_diary f fd ["entries"]) (T : TD K mg CM CR)
    (D_is_text : DefAt K mg "is_text" s_is_text f1 fd1 ["value"]) (G_is_text : FnOk P w K mg base CX0 1 f1 fd1 ["value"] (spD K PW (calm0 sp_is_text)))
    (D_is_word : DefAt K mg "is_word" s_is_word f2 fd2 ["value"]) (G_is_word : FnOk P w K mg base CX0 1 f2 fd2 ["value"] (spD K PW (calm0 sp_is_word)))
    (D_write_data : DefAt K mg "write_data" s_write_data f3 fd3 ["data"]) (G_write_data : FnOk P w K mg base (KM.CM CM P w) 4 f3 fd3 ["data"] (spD K PW sp_write_data)) :
    FnOk P w K mg base (KM.CM CM P w) 6 f fd ["entries"] (spD K PW (sp_write_diary CR)) := by
  refine okDM D.fn sc_write_diary (fun ds τ Q E h => by obtain ⟨l, rfl, _⟩ := h; rfl) fun cdv A outer s H E hr => ?_
  have hu := u160 hr
  refine ⟨_, (sd_cons (sd_if (td_not (td_tru (K := K) (ed_isi (pe_callB (w_isi (K := K)) rfl T.b_isinstance bb_isinstance (pa_cons (ed_var (pv 0)) (pa_cons (pe_bltn (v := V.ty "list") rfl T.b_list bb_list rfl) pa_nil))) ci_list))) (sd_one (sd_rsM (ps_raiseM rfl tkM (pmkM T.x_Malformed rfl (ed_str lit_11))))) sd_nil)
      (sd_cons (sd_set (i := 1) sc_write_diary.nd rfl (Or.inl rfl) (ed_lst ad_nil))
      (sd_cons (sd_for go_name (passes_of rfl) rfl (id_seq (K := K) (ped_fz (ed_var (pv 0)))) (pg_name (i := 2) sc_write_diary.nd rfl (Or.inl rfl)) (sd_cons (sd_if (PW.pt (wd_or (td_not (td_tru (K := K) (ed_isi (pe_callB (w_isi (K := K)) rfl T.b_isinstance bb_isinstance (pa_cons (ed_var (pv 2)) (pa_cons (pe_bltn (v := V.ty "tuple") rfl T.b_tuple bb_tuple rfl) pa_nil))) ci_tuple))) (wd_or (td_cmp (or_ne (K := K) hu) c_ne (ed_b1 (pe_callB (w_len (K := K)) rfl T.b_len bb_len (pa_cons (ed_var (pv 2)) pa_nil)) c_len) ed_int (nomark _)) (wd_or1 (td_not (td_tru (K := K) (ed_call0P (pe_call G_is_text (hr.mono (by decide)) rfl D_is_text.g D_is_text.kp D_is_text.b .nil pass0 (ad_cons (ped_fz (ed_ix (w_ix (K := K)) c_ix (ed_var (pv 2)) ed_int (fun _ _ => rfl))) ad_nil))))))))) (sd_one (sd_rsM (ps_raiseM rfl tkM (pmkM T.x_Malformed rfl (ed_str lit_12))))) sd_nil)
      (sd_cons (sd_set (i := 3) sc_write_diary.nd rfl (Or.inl rfl) (ed_ix (w_ix (K := K)) c_ix (ed_var (pv 2)) ed_int (fun _ _ => rfl)))
      (sd_cons (sd_if (PW.pt (wd_or (td_not (td_tru (K := K) (ed_isi (pe_callB (w_isi (K := K)) rfl T.b_isinstance bb_isinstance (pa_cons (ed_var (pv 3)) (pa_cons (pe_glob (v := V.ref _) rfl T.gC_Reply rfl) pa_nil))) (c_isC T.o_Reply)))) (wd_or (td_not (td_tru (K := K) (ed_call0P (pe_call G_is_word (hr.mono (by decide)) rfl D_is_word.g D_is_word.kp D_is_word.b .nil pass0 (ad_cons (ped_fz (ed_fld T.o_Reply.cl T.n_kind (w_fld (K := K) (ed_var (pv 3))))) ad_nil))))) (wd_or1 (td_not (td_tru (K := K) (ed_call0P (pe_call G_is_text (hr.mono (by decide)) rfl D_is_text.g D_is_text.kp D_is_text.b .nil pass0 (ad_cons (ped_fz (ed_fld T.o_Reply.cl T.n_text (w_fld (K := K) (ed_var (pv 3))))) ad_nil))))))))) (sd_one (sd_rsM (ps_raiseM rfl tkM (pmkM T.x_Malformed rfl (ed_str lit_13))))) sd_nil)
      (sd_cons (sd_if (td_not (td_tru (K := K) (ed_isi (pe_callB (w_isi (K := K)) rfl T.b_isinstance bb_isinstance (pa_cons (ed_fld T.o_Reply.cl T.n_data (w_fld (K := K) (ed_var (pv 3)))) (pa_cons (pe_bltn (v := V.ty "tuple") rfl T.b_tuple bb_tuple rfl) pa_nil))) ci_tuple))) (sd_one (sd_rsM (ps_raiseM rfl tkM (pmkM T.x_Malformed rfl (ed_str lit_3))))) sd_nil)
      (sd_cons (sd_set (i := 4) sc_write_diary.nd rfl (Or.inl rfl) (ed_lst (ad_cons (ped_fz (ed_bin (or_add (K := K)) c_add (ed_str lit_14) (ed_ix (w_ix (K := K)) c_ix (ed_var (pv 2)) ed_int (fun _ _ => rfl)))) (ad_cons (ped_fz (ed_bin (or_add (K := K)) c_add (ed_bin (or_add (K := K)) c_add (ed_bin (or_add (K := K)) c_add (ed_str lit_17) (ed_fld T.o_Reply.cl T.n_kind (w_fld (K := K) (ed_var (pv 3))))) (ed_str lit_16)) (ed_fld T.o_Reply.cl T.n_text (w_fld (K := K) (ed_var (pv 3)))))) (ad_cons (ped_fz (ed_bin (or_add (K := K)) c_add (ed_str lit_15) (ed_callXP (pe_callS G_write_data (hr.mono (by decide)) rfl D_write_data.g D_write_data.kp D_write_data.b (fun σ => KM.passAtM tkM σ) (ad_cons (ped_fz (ed_fld T.o_Reply.cl T.n_data (w_fld (K := K) (ed_var (pv 3))))) ad_nil))))) ad_nil)))))
      (sd_one (sd_expr (ed_ext (wk_bm (K := K) (pe_bm PySem.F.plainAttrs_list PySem.F.slot_list_extend PySem.F.type_list_extend mt_extR (pv 1) (pa_cons (ed_lc (own := [("line", 5)]) go_name (gw_name (by decide)) tt_yes rfl sc_write_diary.nd (id_seq (K := K) (ped_fz (ed_var (pv 4)))) (blkOk_by (N := n_write_diary) (sc := defScope s_write_diary) (by decide +kernel)) (fun _ _ _ _ _ => (pg_name (i := 5) sc_write_diary.nd rfl (Or.inl rfl))) (fun _ _ _ _ _ => pts_nil) (fun _ _ _ _ _ => (ped_fz (ed_bin (or_add (K := K)) c_add (ed_var (pv 5)) (ed_str lit_10))))) pa_nil))))))))))))
      (sd_one (sd_ret (ped_fz (ed_m1 (wk_bm (K := K) (pe_bm PySem.F.plainAttrs_str PySem.F.slot_str_join PySem.F.type_str_join (w_join (K := K)) (ed_str lit_4) (pa_cons (ed_var (pv 1)) pa_nil))) c_join))))))), ?_⟩
  have hz := sizeLine_eq
  rintro ds τ Q Ed ⟨d, rfl, ⟨hd, hn, qE⟩ | ⟨es, rfl, hl, ho, q, qE⟩⟩
  · walk_at "kd1"
    cases d with
    | lst es => exact absurd rfl (hn es)
    | fn a => cases hd
    | obj a b c => cases hd
    | _ => walk_at "kd1"; exact qE _ (by decide)
  · walk_at "kd1"
    walk_at "kdh"
    walk_at "kdh"
    refine fd_list (fun i ρ _ => ∃ (fs : List (List Nat)) (o2 o3 o4 o5 : Option Sl), ρ = [some (.d (.lst es)), some (.own (fs.map .str)), o2, o3, o4, o5] ∧ fs.length = 3 * i ∧ (fs.map fun x => x.length).sum ≤ 500000 * i ∧ wrE es = (wrE (es.drop i)).map (fs.flatten ++ ·)) ⟨[], none, none, none, none, rfl, rfl, by simp, by simp⟩ ?_ ?_
    · rintro i x F ρ τ hx ⟨fs, o2, o3, o4, o5, rfl, hfl, hfs, hwE⟩ hF
      have hox := ho x (List.mem_of_getElem? hx)
      have bad : entW x = none → ∀ m, m.length ≤ 100 → Ed (0, m) τ := fun h => qE (wrE_none h (List.mem_of_getElem? hx))
      cases x with
      | fn a => exact hox.elim
      | obj a b c => exact hox.elim
      | tup ds =>
        match ds, hox, bad, hx with
        | [], hox, bad, hx => walk_at "kd1"; exact bad rfl _ (by decide)
        | [a], hox, bad, hx => walk_at "kd1"; exact bad rfl _ (by decide)
        | a :: b :: c :: r, hox, bad, hx =>
          walk_at "kd1"
          rw [if_pos (by omega)]
          exact bad rfl _ (by decide)
        | [a, b], hox, bad, hx =>
          have hab : dat a = true ∧ small a := by
            unfold okE at hox
            split at hox
            · rename_i e
              cases e
              exact ⟨hox.2.1.1, hox.2.2.1.1⟩
            · rename_i e
              cases e
              exact ⟨hox.1, hox.2.1⟩
            · rename_i e; cases e
            · rename_i e; cases e
            · rename_i e1 e2 e3 e4
              exact absurd rfl (e2 a b)
          walk_at "kd1"
          refine ⟨a, rfl, hab.1, small_len hab.2, ?_⟩
          generalize hw : noLf a = ww
          cases ww with
          | false =>
            walk_at "kd1"
            exact bad (by rw [entW_pair, if_neg (by rw [hw]; decide)]) _ (by decide)
          | true =>
            have ea : entW (.tup [a, b]) = repW (strD a) b := by show (if noLf a = true then _ else _) = _; rw [if_pos hw]
            obtain ⟨l, rfl⟩ : ∃ l, a = .str l := by
              cases a with
              | str l => exact ⟨l, rfl⟩
              | _ => cases hw
            walk_at "kdh"
            cases b with
            | fn a => exact absurd hox.2.2 Bool.false_ne_true
            | obj C ns ds =>
              match ds, hox, bad, hx, ea with
              | [], hox, bad, hx, ea => exact absurd hox.2.2 Bool.false_ne_true
              | [k], hox, bad, hx, ea => exact absurd hox.2.2 Bool.false_ne_true
              | [k, x], hox, bad, hx, ea => exact absurd hox.2.2 Bool.false_ne_true
              | k :: x :: d :: y :: z, hox, bad, hx, ea => exact absurd hox.2.2 Bool.false_ne_true
              | [k, x, d], hox, bad, hx, ea =>
                obtain ⟨⟨rfl, rfl⟩, ⟨d1, d2, d3, d4⟩, ⟨s1, s2, s3⟩, so, sz0, wl⟩ := hox
                walk_at "kdh"
                refine ⟨k, rfl, d2, small_len s2, ?_⟩
                generalize hk : wordE k = wk
                cases wk with
                | false =>
                  walk_at "kd1"
                  exact bad (by rw [ea]; rw [repW_obj, if_neg (by rw [hk]; decide)]) _ (by decide)
                | true =>
                  walk_at "kd1"
                  refine ⟨x, rfl, d3, small_len s3, ?_⟩
                  generalize hx2 : noLf x = wx
                  cases wx with
                  | false =>
                    walk_at "kd1"
                    exact bad (by rw [ea]; rw [repW_obj, if_pos hk, if_neg (by rw [hx2]; decide)]) _ (by decide)
                  | true =>
                    obtain ⟨k, rfl⟩ : ∃ l, k = .str l := by
                      cases k with
                      | str l => exact ⟨l, rfl⟩
                      | _ => cases hk
                    obtain ⟨x, rfl⟩ : ∃ l, x = .str l := by
                      cases x with
                      | str l => exact ⟨l, rfl⟩
                      | _ => cases hx2
                    walk_at "kd1"
                    walk_at "kdh"
                    have er : entW (.tup [.str l, .obj C nsR [.str k, .str x, d]]) = if isTupE d = true then (wr 1000 (py d)).map (lineOf l k x) else none := by
                      rw [ea, repW_obj, if_pos hk, if_pos hx2]
                      rfl
                    have l1 : l.length ≤ 100000 := hab.2
                    have l2 : k.length ≤ 100000 := s2
                    have l3 : x.length ≤ 100000 := s3
                    cases d with
                    | fn a => exact absurd d4 Bool.false_ne_true
                    | obj a b c => exact absurd d4 Bool.false_ne_true
                    | tup ds =>
                      walk_at "kd1"
                      walk_at "kdh"
                      refine ⟨by omega, by omega, by omega, by rw [List.length_append]; simp only [List.length_cons, List.length_nil]; omega, _, rfl, d4, so, sz0, fun t ht => ⟨by have := wl t ht; omega, ?_⟩, fun hn => bad (by rw [er, if_pos (show isTupE (.tup ds) = true from rfl), hn]; rfl) _ (by decide)⟩
                      have hlt := wl t ht
                      walk_at "kd1"
                      refine ⟨by omega, by omega, ?_⟩
                      walk_at "kdh"
                      refine ⟨⟨_, rfl⟩, ?_⟩
                      simp only [lcD]
                      walk_at "kd1"
                      have hi : i < es.length := (List.getElem?_eq_some_iff.mp hx).1
                      have hkx : (k ++ [32] ++ x).length = k.length + 1 + x.length := by simp only [List.length_append, List.length_cons, List.length_nil]
                      have ew : entW (.tup [.str l, .obj C nsR [.str k, .str x, .tup ds]]) = some (lineOf l k x t) := by
                        rw [er, if_pos (show isTupE (.tup ds) = true from rfl), ht]
                        rfl
                      have ed : es.drop i = .tup [.str l, .obj C nsR [.str k, .str x, .tup ds]] :: es.drop (i + 1) := by
                        rw [List.drop_eq_getElem_cons hi]
                        congr 1
                        exact Option.some.inj ((List.getElem?_eq_getElem hi).symm.trans hx)
                      refine ⟨by omega, by rw [hkx]; omega, by omega, by omega, hF _ _ ⟨fs ++ [62 :: 32 :: (l ++ [10]), 61 :: 32 :: (k ++ [32] ++ x ++ [10]), 35 :: 32 :: (t ++ [10])], _, _, _, _, by rw [List.map_append]; rfl, by rw [List.length_append]; simp only [List.length_cons, List.length_nil]; omega, ?_, ?_⟩⟩
                      · simp only [List.map_append, List.sum_append, List.map_cons, List.map_nil, List.sum_cons, List.sum_nil, List.length_append, List.length_cons, List.length_nil]
                        have : List.length t ≤ 100000 := hlt
                        omega
                      · rw [hwE, ed]
                        have e1 : wrE (.tup [.str l, .obj C nsR [.str k, .str x, .tup ds]] :: es.drop (i + 1)) = (wrE (es.drop (i + 1))).map (lineOf l k x t ++ ·) := by
                          conv => lhs; unfold wrE
                          rw [ew]
                          cases wrE (es.drop (i + 1)) <;> rfl
                        rw [e1, Option.map_map]
                        congr 1
                        funext y
                        show fs.flatten ++ (lineOf l k x t ++ y) = (fs ++ _).flatten ++ y
                        unfold lineOf
                        simp
                    | _ => walk_at "kd1"; exact bad er _ (by decide)
            | _ =>
              walk_at "kdh"
              exact bad (by rw [ea]; rfl) _ (by decide)
      | _ => walk_at "kd1"; exact bad rfl _ (by decide)
    · rintro ρ τ ⟨fs, o2, o3, o4, o5, rfl, hfl, hfs, hw⟩
      walk_at "kdh"
      rw [strsD_map]
      walk_at "kd1"
      have hw0 : es.drop es.length = [] := List.drop_length
      rw [hw0] at hw
      have hw1 : wrE es = some fs.flatten := by rw [hw]; show some (fs.flatten ++ []) = _; rw [List.append_nil]
      have hj : TL.joinL [] fs = fs.flatten := by
        have := join_none fs
        rw [join_tx] at this
        exact tx_inj this
      refine ⟨?_, by rw [hj]; exact q _ hw1⟩
      omega
end
end K66

namespace K66
open PySem PySem.Spec PyProof.Rows L2 KX KD KM M53
local macro_rules | `(tactic| walk_at "kd") => `(tactic| simp only [sSeq, sNext, sIf, sRet, sRetN, sSet, sDrop, sFor, sPar, sPar3, sAsg, sAug, sBrk, sCont, sRs, dVar, dC, dOp, dU, dB, dTru, dAnd, dOr, dNot, dNotV, dAndD, dOrD, dIf, dChain, dD, fz, dNil, dCons, dTup, dLst, dM1, dM0, dN, dApp, dPop, dExt, dIt, dRng1, dRng2, dRng3, dLc, dYes, dSl, dNo, dSome, dCall, dCallP, calm0, withD, stRV, wipeE, mergeE, gdN, gdNil, gdCons, gdTup, gdSub,
    oAdd, addOk, addD, oSub, oMul, oMod, oDiv, oInt2, oLt, oLe, oGt, oGe, oEq, oNe, oIx, ixD, szOk, lenD, oIn, oLen, oIsi, isiT, oAll, oAny, oSum, oStr, oInt, oAbs, oTuple, oList, oNeg, oIsN, oNotN, isN, oJoin, oSplit, oPart, isS, own,
    dstart, List.map_cons, List.map_nil, List.length_cons, List.length_nil, List.replicate, List.cons_append, List.nil_append, List.getElem?_cons_zero, List.getElem?_cons_succ, List.set_cons_zero, List.set_cons_succ, List.append_nil,
    if_true, if_false, Bool.false_eq_true, Bool.not_true, Bool.not_false, truD, reduceIte, reduceCtorEq, exists_eq_left', Option.some.injEq, Nat.reduceAdd, Nat.reduceSub, Int.reduceAdd, Int.reduceSub, Bool.not_eq_true', ite_self, beq_self_eq_true, String.reduceBEq, Bool.bne_true, Bool.bne_false, oIsC, isiC, oFld, dMake, oEqO, sTry, sTryA, dStrX, dListZip, oRepL, oNeRows, oStrS, dat, dats, dep, deps, eqD_str, eqD_int, eqD_bl, eqD_non, cutL_to2, cutL_from2, cutL_to1, cutL_from1, Nat.min_self, Nat.zero_le, Nat.min_zero, Nat.zero_min, Nat.max_self, true_and, and_true, Bool.and_self, Bool.true_and, Bool.and_true, decide_eq_true_eq, decide_eq_false_iff_not, implies_true, and_self, Bool.or_self, Bool.or_false, Bool.false_or, List.length_map, rangeD_len, rangeDC_len, atI_c0, atI_c1, atI_c2, atI_c3, Option.map_some, Option.map_none, Int.reduceEq, Int.reduceLT, Int.reduceLE, lk_kind, lk_text, lk_data])
local macro_rules | `(tactic| walk_at "kd1") => `(tactic| simp only [sSeq_hold, sNext, sIf, sRet, sRetN, sSet, sDrop, sFor, sPar, sPar3, sAsg, sAug, sBrk, sCont, sRs, dVar, dC, dOp, dU, dB, dTru, dAnd, dOr, dNot, dNotV, dAndD, dOrD, dIf, dChain, dD, fz, dNil, dCons, dTup, dLst, dM1, dM0, dN, dApp, dPop, dExt, dIt, dRng1, dRng2, dRng3, dLc, dYes, dSl, dNo, dSome, dCall, dCallP, calm0, withD, stRV, wipeE, mergeE, gdN, gdNil, gdCons, gdTup, gdSub,
    oAdd, addOk, addD, oSub, oMul, oMod, oDiv, oInt2, oLt, oLe, oGt, oGe, oEq, oNe, oIx, ixD, szOk, lenD, oIn, oLen, oIsi, isiT, oAll, oAny, oSum, oStr, oInt, oAbs, oTuple, oList, oNeg, oIsN, oNotN, isN, oJoin, oSplit, oPart, isS, own,
    dstart, List.map_cons, List.map_nil, List.length_cons, List.length_nil, List.replicate, List.cons_append, List.nil_append, List.getElem?_cons_zero, List.getElem?_cons_succ, List.set_cons_zero, List.set_cons_succ, List.append_nil,
    if_true, if_false, Bool.false_eq_true, Bool.not_true, Bool.not_false, truD, reduceIte, reduceCtorEq, exists_eq_left', Option.some.injEq, Nat.reduceAdd, Nat.reduceSub, Int.reduceAdd, Int.reduceSub, Bool.not_eq_true', ite_self, beq_self_eq_true, String.reduceBEq, Bool.bne_true, Bool.bne_false, oIsC, isiC, oFld, dMake, oEqO, sTry, sTryA, dStrX, dListZip, oRepL, oNeRows, oStrS, dat, dats, dep, deps, eqD_str, eqD_int, eqD_bl, eqD_non, cutL_to2, cutL_from2, cutL_to1, cutL_from1, Nat.min_self, Nat.zero_le, Nat.min_zero, Nat.zero_min, Nat.max_self, true_and, and_true, Bool.and_self, Bool.true_and, Bool.and_true, decide_eq_true_eq, decide_eq_false_iff_not, implies_true, and_self, Bool.or_self, Bool.or_false, Bool.false_or, List.length_map, rangeD_len, rangeDC_len, atI_c0, atI_c1, atI_c2, atI_c3, Option.map_some, Option.map_none, Int.reduceEq, Int.reduceLT, Int.reduceLE, lk_kind, lk_text, lk_data])
local macro_rules | `(tactic| walk_at "kdh") => `(tactic| (unfold hold; walk_at "kd1"))

section
variable {P : Program} {w : World} {K : PySem.W.Frag} {mg : Str → Option Value} {base : Heap} {CM CR : Addr}
/-- data without lists, not deep -/
def calmD (d : D) : Prop := dat d = true ∧ flatD (py d) = true ∧ dep d ≤ 150
def sp_is_same : SpD Unit := fun ds _ Q _ => ∃ d, ds = [d, d] ∧ calmD d ∧ sz (py d) ≤ 1000000 ∧ ∀ b, b = true → Q (.bl b) ()
def szL (ds : List D) : Nat := (ds.map fun d => sz (py d)).sum
theorem szL_app (a b : List D) : szL (a ++ b) = szL a + szL b := by simp [szL]
theorem szL_len : ∀ ds : List D, ds.length ≤ szL ds
  | [] => Nat.le_refl _
  | d :: ds => by
    have := szL_len ds
    have h1 := sz_pos (py d)
    have : szL (d :: ds) = sz (py d) + szL ds := by simp [szL]
    simp only [List.length_cons]
    omega
theorem szs_ge : ∀ ds : List D, szL ds + 1 ≤ szs (pys ds) + 1
  | [] => by decide
  | d :: ds => by
    have := szs_ge ds
    have e : szL (d :: ds) = sz (py d) + szL ds := by simp [szL]
    have e2 : szs (pys (d :: ds)) = 1 + sz (py d) + szs (pys ds) := by show szs (py d :: pys ds) = _; rw [szs]
    omega
theorem szL_tup (ds : List D) : szL ds < sz (py (.tup ds)) := by
  have := szs_ge ds
  have e : sz (py (.tup ds)) = 2 + szs (pys ds) := by show sz (.tuple (pys ds)) = _; rw [sz]
  omega
theorem calm_tup {ds : List D} (h : calmD (.tup ds)) : ∀ d ∈ ds, calmD d := by
  obtain ⟨h1, h2, h3⟩ := h
  have h1 : dats ds = true := h1
  have h2 : flatDs (pys ds) = true := by simpa [py, flatD] using h2
  have h3 : deps ds + 1 ≤ 150 := h3
  have go : ∀ {ds : List D}, dats ds = true → flatDs (pys ds) = true → deps ds ≤ 149 → ∀ d ∈ ds, calmD d := by
    intro ds
    induction ds with
    | nil => intro _ _ _ d hd; cases hd
    | cons e es ih =>
      intro a b c d hd
      have a : (dat e && dats es) = true := a
      have b : (flatD (py e) && flatDs (pys es)) = true := by simpa [pys, flatDs] using b
      have c : max (dep e) (deps es) ≤ 149 := c
      rw [Bool.and_eq_true] at a b
      rcases List.mem_cons.mp hd with rfl | hd
      · exact ⟨a.1, b.1, by omega⟩
      · exact ih a.2 b.2 (by omega) d hd
  exact go h1 h2 (by omega)
theorem pairsD_len (ds : List D) : (pairsD ds ds).length = ds.length := by simp [pairsD]
theorem pairsD_self : ∀ ds : List D, pairsD ds ds = ds.map fun y => .tup [y, y]
  | [] => rfl
  | d :: ds => by
    show D.tup [d, d] :: pairsD ds ds = _
    rw [pairsD_self ds]
    rfl
theorem ok_is_same {f : Addr} {fd : FuncData} (D : DefAt K mg "is_same" s_is_same f fd ["one", "two"]) (T : TD K mg CM CR) : FnOk P w K mg base CX0 1 f fd ["one", "two"] (spD K PW (calm0 sp_is_same)) := by
  refine okD0 D.fn sc_is_same (fun ds τ Q E h => by obtain ⟨d, rfl, _⟩ := h; rfl) fun cdv A outer s H E hr => ?_
  have hu := u160 hr
  refine ⟨_, (sd_cons (sd_set (i := 2) sc_is_same.nd rfl (Or.inl rfl) (ed_lst (ad_cons (ped_fz (ed_tup (ad_cons (ped_fz (ed_var (pv 0))) (ad_cons (ped_fz (ed_var (pv 1))) ad_nil)))) ad_nil)))
      (sd_cons (sd_while PassesOwn.never (td_cmp k_gt c_gt (ed_b1 (pe_callB (w_len (K := K)) rfl T.b_len bb_len (pa_cons (ed_var (pv 2)) pa_nil)) c_len) ed_int (nomark _)) (sd_cons (sd_asg (ped_fz (ed_pop (w_bm0 (K := K) PySem.F.plainAttrs_list PySem.F.slot_list_pop PySem.F.type_list_pop mt_pop (pv 2)))) (gd_tup (K := K) (n := 2) rfl (gd_cons (gd_name (pg_name (i := 3) sc_is_same.nd rfl (Or.inl rfl))) (gd_cons (gd_name (pg_name (i := 4) sc_is_same.nd rfl (Or.inl rfl))) gd_nil))))
      (sd_one (sd_if (PW.pt (wd_and (td_tru (K := K) (ed_isi (pe_callB (w_isi (K := K)) rfl T.b_isinstance bb_isinstance (pa_cons (ed_var (pv 3)) (pa_cons (pe_bltn (v := V.ty "tuple") rfl T.b_tuple bb_tuple rfl) pa_nil))) ci_tuple)) (wd_and1 (td_tru (K := K) (ed_isi (pe_callB (w_isi (K := K)) rfl T.b_isinstance bb_isinstance (pa_cons (ed_var (pv 4)) (pa_cons (pe_bltn (v := V.ty "tuple") rfl T.b_tuple bb_tuple rfl) pa_nil))) ci_tuple))))) (sd_cons (sd_if (td_cmp (or_ne (K := K) hu) c_ne (ed_b1 (pe_callB (w_len (K := K)) rfl T.b_len bb_len (pa_cons (ed_var (pv 3)) pa_nil)) c_len) (ed_b1 (pe_callB (w_len (K := K)) rfl T.b_len bb_len (pa_cons (ed_var (pv 4)) pa_nil)) c_len) (nomark _)) (sd_one (sd_ret (ped_fz ed_bl))) sd_nil)
      (sd_one (sd_expr (ed_ext (wk_bm (K := K) (pe_bm PySem.F.plainAttrs_list PySem.F.slot_list_extend PySem.F.type_list_extend mt_extR (pv 2) (pa_cons (ed_listzip (pe_listzip rfl rfl T.b_list rfl T.b_zip (ad_cons (ped_fz (ed_var (pv 3))) (ad_cons (ped_fz (ed_var (pv 4))) ad_nil)))) pa_nil))))))) (sd_one (sd_if (PW.pt (wd_or (td_cmp (or_ne (K := K) hu) c_ne (ed_isi (pe_callB (w_isi (K := K)) rfl T.b_isinstance bb_isinstance (pa_cons (ed_var (pv 3)) (pa_cons (pe_bltn (v := V.ty "bool") rfl T.b_bool bb_bool rfl) pa_nil))) ci_bool) (ed_isi (pe_callB (w_isi (K := K)) rfl T.b_isinstance bb_isinstance (pa_cons (ed_var (pv 4)) (pa_cons (pe_bltn (v := V.ty "bool") rfl T.b_bool bb_bool rfl) pa_nil))) ci_bool) (nomark _)) (wd_or1 (td_cmp (or_ne (K := K) hu) c_ne (ed_var (pv 3)) (ed_var (pv 4)) (nomark _))))) (sd_one (sd_ret (ped_fz ed_bl))) sd_nil))))))
      (sd_one (sd_ret (ped_fz ed_bl))))), ?_⟩
  have hz := sizeLine_eq
  rintro ds τ Q ⟨d, rfl, hd, hs, q⟩
  walk_at "kd1"
  refine ⟨by omega, by omega, ?_⟩
  walk_at "kdh"
  unfold sWhile
  refine ⟨fun m ρ _ => ∃ ws o3 o4, ρ = [some (.d d), some (.d d), some (.own (ws.map fun x => .tup [x, x])), o3, o4] ∧ (∀ x ∈ ws, calmD x) ∧ m = szL ws ∧ szL ws ≤ 1000000, ⟨_, [d], none, none, rfl, by simpa using hd, rfl, by simpa [szL] using hs⟩, ?_⟩
  rintro m ρ τ ⟨ws, o3, o4, rfl, hc, rfl, hm⟩
  walk_at "kd1"
  rcases List.eq_nil_or_concat ws with rfl | ⟨ws, x, rfl⟩
  · walk_at "kd1"
    rw [if_neg (by decide)]
    walk_at "kdh"
    exact q _ rfl
  · have hx : calmD x := hc x (by simp)
    have hsz : szL (ws ++ [x]) = szL ws + sz (py x) := by simp [szL]
    have hw : ∀ y ∈ ws, calmD y := fun y hy => hc y (by simp [hy])
    simp only [List.concat_eq_append] at hm ⊢
    rw [hsz] at hm ⊢
    rw [if_pos (by simp only [List.length_append, List.length_cons, List.length_nil]; omega)]
    refine ⟨.tup [x, x], by simp, ?_⟩
    walk_at "kd1"
    walk_at "kdh"
    simp only [List.map_append, List.map_cons, List.map_nil, List.dropLast_concat]
    have one : ∀ {x : KD.D}, 1 ≤ sz (py x) := fun {x} => sz_pos (py x)
    cases x with
    | fn a => exact absurd hx.1 Bool.false_ne_true
    | obj a b c => exact absurd hx.1 Bool.false_ne_true
    | lst ds => exact absurd hx.2.1 Bool.false_ne_true
    | tup ds =>
      have hds := calm_tup hx
      have hsz2 := szL_tup ds
      walk_at "kd1"
      rw [if_neg (by simp)]
      walk_at "kdh"
      have hlen : ds.length ≤ szL ds := szL_len ds
      have hlw : ws.length ≤ szL ws := szL_len ws
      rw [pairsD_self, ← List.map_append]
      refine ⟨⟨_, rfl⟩, by rw [List.length_map]; omega, szL (ws ++ ds), ?_, ws ++ ds, _, _, rfl, fun y hy => ?_, rfl, ?_⟩
      · rw [szL_app]; omega
      · rcases List.mem_append.mp hy with hy | hy
        · exact hw y hy
        · exact hds y hy
      · rw [szL_app]; omega
    | bl b =>
      have o := one (x := .bl b)
      walk_at "kd1"
      cases b <;> exact ⟨_, by omega, ws, _, _, rfl, hw, rfl, by omega⟩
    | str l =>
      have o := one (x := .str l)
      walk_at "kd1"
      rw [if_neg (by simp)]
      exact ⟨_, by omega, ws, _, _, rfl, hw, rfl, by omega⟩
    | int i =>
      have o := one (x := .int i)
      walk_at "kd1"
      rw [if_neg (by simp)]
      exact ⟨_, by omega, ws, _, _, rfl, hw, rfl, by omega⟩
    | non =>
      have o := one (x := .non)
      walk_at "kd1"
      exact ⟨_, by omega, ws, _, _, rfl, hw, rfl, by omega⟩
end
end K66

namespace K66
open PySem PySem.Spec PyProof.Rows L2 KX KD KM M53
local macro_rules | `(tactic| walk_at "kx1") => `(tactic| first
  | (with_reducible refine q_seq ?_) | (with_reducible refine q_ifs ?_) | (with_reducible refine q_asg ?_) | (with_reducible refine q_gname ?_) | (with_reducible refine q_ret ?_)
  | (with_reducible refine q_drop ?_) | (with_reducible refine q_next ?_) | (with_reducible refine q_par ?_) | (with_reducible refine q_sfld ?_) | (with_reducible refine q_rs ?_) | (with_reducible refine q_gsub ?_) | (with_reducible refine q_retN ?_)
  | ((with_reducible show tVar _ _ _ _); (refine q_var rfl ?_)) | (with_reducible refine q_c ?_) | (with_reducible refine q_op ?_) | (with_reducible refine q_un ?_) | (with_reducible refine q_neg ?_) | (with_reducible refine q_cb ?_)
  | (with_reducible refine q_nil ?_) | (with_reducible refine q_cons ?_) | (with_reducible refine q_tup ?_) | (with_reducible refine q_lst ?_) | (with_reducible refine q_if ?_)
  | (with_reducible refine q_notT ?_) | (with_reducible refine q_call ?_) | (with_reducible refine q_callS ?_) | (with_reducible refine q_fld ?_)
  | (with_reducible refine q_bm ?_) | (with_reducible refine q_bm0 ?_) | (with_reducible refine q_sl ?_) | (with_reducible refine q_nopart ?_) | (with_reducible refine q_part ?_) | (with_reducible refine q_meth ?_) | (with_reducible refine q_make ?_)
  | (with_reducible refine q_test ?_) | (with_reducible refine q_tB ?_) | (with_reducible refine q_tru ?_) | (with_reducible refine q_not ?_)
  | (with_reducible refine q_blk ?_) | (with_reducible refine q_tv ?_) | (with_reducible refine q_addI ?_) | (with_reducible refine q_subI ?_) | (with_reducible refine q_eqI ?_) | (with_reducible refine q_neI ?_)
  | (with_reducible refine q_for ?_) | (with_reducible refine q_lc ?_) | (with_reducible refine q_iList ?_) | (with_reducible refine q_iTup ?_) | (with_reducible refine q_iStr ?_) | (with_reducible refine q_iRng1 ?_) | (with_reducible refine q_iRng2 ?_) | (with_reducible refine q_iRng3 ?_) | (with_reducible refine q_gcons ?_) | (with_reducible refine q_gnil ?_) | (with_reducible refine q_yes ?_) | (with_reducible refine q_ltI ?_) | (with_reducible refine q_iEnumS ?_) | (with_reducible refine q_pi ?_) | (with_reducible refine q_leI ?_) | (with_reducible refine q_gtI ?_) | (with_reducible refine q_geI ?_) | (with_reducible refine q_leT ?_) | (with_reducible refine q_intI ?_) | (with_reducible refine q_abs ?_) | (with_reducible refine q_eqT ?_) | (with_reducible refine q_neT ?_) | (with_reducible refine q_rsM ?_) | (with_reducible refine q_par3 ?_) | (with_reducible refine q_isN ?_) | (with_reducible refine q_notN ?_))
local macro_rules | `(tactic| walk_at "kx") => `(tactic| repeat walk_at "kx1")
local macro_rules | `(tactic| walk_at "kxs") => `(tactic| repeat (first | walk_at "kx1" | (with_reducible refine q_andT ?_) | (with_reducible refine q_orT ?_) | (with_reducible refine q_chain ?_) | (with_reducible refine q_and ?_) | (with_reducible refine q_or ?_)))
local macro_rules | `(tactic| walk_at "lits") => `(tactic| simp only [lit_0, lit_1, lit_2, lit_3, lit_4, lit_5, lit_6, lit_7, lit_8, lit_9, lit_10, lit_11, lit_12, lit_13, lit_14, lit_15, lit_16, lit_17, lit_18, lit_19, lit_20, lit_21, lit_22, lit_23, lit_24, lit_25, lit_26, lit_27, lit_28, lit_29, lit_30, lit_31, lit_32, lit_33, lit_34, lit_35, lit_36, lit_37, lit_38, lit_39, lit_40, lit_41])

local macro_rules | `(tactic| walk_at "kd") => `(tactic| simp only [sSeq, sNext, sIf, sRet, sRetN, sSet, sDrop, sFor, sPar, sPar3, sAsg, sAug, sBrk, sCont, sRs, dVar, dC, dOp, dU, dB, dTru, dAnd, dOr, dNot, dNotV, dAndD, dOrD, dIf, dChain, dD, fz, dNil, dCons, dTup, dLst, dM1, dM0, dN, dApp, dPop, dExt, dIt, dRng1, dRng2, dRng3, dLc, dYes, dSl, dNo, dSome, dCall, dCallP, calm0, withD, stRV, wipeE, mergeE, gdN, gdNil, gdCons, gdTup, gdSub,
    oAdd, addOk, addD, oSub, oMul, oMod, oDiv, oInt2, oLt, oLe, oGt, oGe, oEq, oNe, oIx, ixD, szOk, lenD, oIn, oLen, oIsi, isiT, oAll, oAny, oSum, oStr, oInt, oAbs, oTuple, oList, oNeg, oIsN, oNotN, isN, oJoin, oSplit, oPart, isS, own,
    dstart, List.map_cons, List.map_nil, List.length_cons, List.length_nil, List.replicate, List.cons_append, List.nil_append, List.getElem?_cons_zero, List.getElem?_cons_succ, List.set_cons_zero, List.set_cons_succ, List.append_nil,
    if_true, if_false, Bool.false_eq_true, Bool.not_true, Bool.not_false, truD, reduceIte, reduceCtorEq, exists_eq_left', Option.some.injEq, Nat.reduceAdd, Nat.reduceSub, Int.reduceAdd, Int.reduceSub, Bool.not_eq_true', ite_self, beq_self_eq_true, String.reduceBEq, Bool.bne_true, Bool.bne_false, oIsC, isiC, oFld, dMake, oEqO, sTry, sTryA, dStrX, dListZip, oRepL, oNeRows, oStrS, dat, dats, dep, deps, eqD_str, eqD_int, eqD_bl, eqD_non, cutL_to2, cutL_from2, cutL_to1, cutL_from1, Nat.min_self, Nat.zero_le, Nat.min_zero, Nat.zero_min, Nat.max_self, true_and, and_true, Bool.and_self, Bool.true_and, Bool.and_true, decide_eq_true_eq, decide_eq_false_iff_not, implies_true, and_self, Bool.or_self, Bool.or_false, Bool.false_or, List.length_map, rangeD_len, rangeDC_len, atI_c0, atI_c1, atI_c2, atI_c3, Option.map_some, Option.map_none, Int.reduceEq, Int.reduceLT, Int.reduceLE, lk_kind, lk_text, lk_data])
local macro_rules | `(tactic| walk_at "kd1") => `(tactic| simp only [sSeq_hold, sNext, sIf, sRet, sRetN, sSet, sDrop, sFor, sPar, sPar3, sAsg, sAug, sBrk, sCont, sRs, dVar, dC, dOp, dU, dB, dTru, dAnd, dOr, dNot, dNotV, dAndD, dOrD, dIf, dChain, dD, fz, dNil, dCons, dTup, dLst, dM1, dM0, dN, dApp, dPop, dExt, dIt, dRng1, dRng2, dRng3, dLc, dYes, dSl, dNo, dSome, dCall, dCallP, calm0, withD, stRV, wipeE, mergeE, gdN, gdNil, gdCons, gdTup, gdSub,
    oAdd, addOk, addD, oSub, oMul, oMod, oDiv, oInt2, oLt, oLe, oGt, oGe, oEq, oNe, oIx, ixD, szOk, lenD, oIn, oLen, oIsi, isiT, oAll, oAny, oSum, oStr, oInt, oAbs, oTuple, oList, oNeg, oIsN, oNotN, isN, oJoin, oSplit, oPart, isS, own,
    dstart, List.map_cons, List.map_nil, List.length_cons, List.length_nil, List.replicate, List.cons_append, List.nil_append, List.getElem?_cons_zero, List.getElem?_cons_succ, List.set_cons_zero, List.set_cons_succ, List.append_nil,
    if_true, if_false, Bool.false_eq_true, Bool.not_true, Bool.not_false, truD, reduceIte, reduceCtorEq, exists_eq_left', Option.some.injEq, Nat.reduceAdd, Nat.reduceSub, Int.reduceAdd, Int.reduceSub, Bool.not_eq_true', ite_self, beq_self_eq_true, String.reduceBEq, Bool.bne_true, Bool.bne_false, oIsC, isiC, oFld, dMake, oEqO, sTry, sTryA, dStrX, dListZip, oRepL, oNeRows, oStrS, dat, dats, dep, deps, eqD_str, eqD_int, eqD_bl, eqD_non, cutL_to2, cutL_from2, cutL_to1, cutL_from1, Nat.min_self, Nat.zero_le, Nat.min_zero, Nat.zero_min, Nat.max_self, true_and, and_true, Bool.and_self, Bool.true_and, Bool.and_true, decide_eq_true_eq, decide_eq_false_iff_not, implies_true, and_self, Bool.or_self, Bool.or_false, Bool.false_or, List.length_map, rangeD_len, rangeDC_len, atI_c0, atI_c1, atI_c2, atI_c3, Option.map_some, Option.map_none, Int.reduceEq, Int.reduceLT, Int.reduceLE, lk_kind, lk_text, lk_data])
local macro_rules | `(tactic| walk_at "kdh") => `(tactic| (unfold hold; walk_at "kd1"))

theorem put2 (a b : V) : putF "text" b (putF "kind" a []) = [(("kind" : Str), a), (("text" : Str), b)] := by
  show (if ("kind" : Str) = "text" then _ else (("kind" : Str), a) :: putF "text" b []) = _
  rw [if_neg (by decide +kernel)]
  rfl
theorem put3 (a b c : V) : putF "data" c [(("kind" : Str), a), (("text" : Str), b)] = nsR.zip [a, b, c] := by
  show (if ("kind" : Str) = "data" then _ else (("kind" : Str), a) :: putF "data" c [(("text" : Str), b)]) = _
  rw [if_neg (by decide +kernel)]
  show (("kind" : Str), a) :: (if ("text" : Str) = "data" then _ else (("text" : Str), b) :: putF "data" c []) = _
  rw [if_neg (by decide +kernel)]
  rfl
theorem upd2 {H : Hp} {r : Addr} {x y : HO} : upd (upd H r x) r y = upd H r y := by
  funext a
  by_cases h : a = r
  · subst h
    rw [upd_same, upd_same]
  · rw [upd_ne h, upd_ne h, upd_ne h]
section
variable {P : Program} {w : World} {K : PySem.W.Frag} {mg : Str → Option Value} {base : Heap} {CM CR : Addr}
theorem ok_reply_init {f : Addr} {fd : FuncData} {params : Arguments} {dvs : List V} (F : FunD K "__init__" "Reply.__init__" params (defBody s_Reply___init__) (defScope s_Reply___init__) dvs [] f fd) (T : TD K mg CM CR) :
    FnOk P w K mg base CX0 1 f fd ["self", "kind", "text", "data"] (spInit CR nsR) := by
  refine F.ok sc_Reply___init__ (fun vs H Q E h => ?_) (fun cdv A outer s H vs Q E hr h => ?_)
  · obtain ⟨r, dx, ys, rfl, hl, _⟩ := h
    show (V.ref r :: ys).length = 4
    rw [List.length_cons, hl]
    rfl
  · obtain ⟨r, dx, ys, rfl, hl, h1, q⟩ := h
    obtain ⟨a, b, c, rfl⟩ : ∃ a b c, ys = [a, b, c] := by
      match ys, hl with
      | [a, b, c], _ => exact ⟨a, b, c, rfl⟩
    refine ⟨_, (pss_cons (w_sfld (K := K) (pv 0) (pv 1))
      (pss_cons (w_sfld (K := K) (pv 0) (pv 2))
      (pss_one (w_sfld (K := K) (pv 0) (pv 3))))), ?_⟩
    walk_at "kx"
    refine ⟨r, CR, dx, [], rfl, h1, T.o_Reply.cl, T.n_kind, by decide, ?_⟩
    walk_at "kx"
    refine ⟨r, CR, dx, _, rfl, upd_same, T.o_Reply.cl, T.n_text, by show 1 < 1000; decide, ?_⟩
    walk_at "kx"
    rw [put2]
    refine ⟨r, CR, dx, _, rfl, upd_same, T.o_Reply.cl, T.n_data, by show 2 < 1000; decide, ?_⟩
    walk_at "kx"
    rw [put3, upd2, upd2]
    exact q
/-- what may be compared -/
def okR (es : List D) : Prop := es.length = 3 ∧ calmD (.tup es) ∧ sz (py (.tup es)) ≤ 1000000
def sp_eq (CR : Addr) : SpD Unit := fun ds _ Q _ => ∃ es, ds = [.obj CR nsR es, .obj CR nsR es] ∧ okR es ∧ ∀ b, b = true → Q (.bl b) ()
theorem ok_reply_eq {f f1 : Addr} {fd fd1 : FuncData} (F : Fun K "__eq__" "Reply.__eq__" s_Reply___eq__ f fd) (T : TD K mg CM CR) (D_is_same : DefAt K mg "is_same" s_is_same f1 fd1 ["one", "two"]) (G_is_same : FnOk P w K mg base CX0 1 f1 fd1 ["one", "two"] (spD K PW (calm0 sp_is_same))) :
    FnOk P w K mg base CX0 2 f fd ["self", "other"] (spD K PW (calm0 (sp_eq CR))) := by
  refine okD0 F sc_Reply___eq__ (fun ds τ Q E h => by obtain ⟨d, rfl, _⟩ := h; rfl) fun cdv A outer s H E hr => ?_
  have hu := u160 hr
  refine ⟨_, (sd_cons (sd_if (td_not (td_tru (K := K) (ed_isi (pe_callB (w_isi (K := K)) rfl T.b_isinstance bb_isinstance (pa_cons (ed_var (pv 1)) (pa_cons (pe_glob (v := V.ref _) rfl T.gC_Reply rfl) pa_nil))) (c_isC T.o_Reply)))) (sd_one (sd_ret (ped_fz ed_bl))) sd_nil)
      (sd_one (sd_ret (ped_fz (ed_call0P (pe_call G_is_same (hr.mono (by decide)) rfl D_is_same.g D_is_same.kp D_is_same.b .nil pass0 (ad_cons (ped_fz (ed_tup (ad_cons (ped_fz (ed_fld T.o_Reply.cl T.n_kind (w_fld (K := K) (ed_var (pv 0))))) (ad_cons (ped_fz (ed_fld T.o_Reply.cl T.n_text (w_fld (K := K) (ed_var (pv 0))))) (ad_cons (ped_fz (ed_fld T.o_Reply.cl T.n_data (w_fld (K := K) (ed_var (pv 0))))) ad_nil))))) (ad_cons (ped_fz (ed_tup (ad_cons (ped_fz (ed_fld T.o_Reply.cl T.n_kind (w_fld (K := K) (ed_var (pv 1))))) (ad_cons (ped_fz (ed_fld T.o_Reply.cl T.n_text (w_fld (K := K) (ed_var (pv 1))))) (ad_cons (ped_fz (ed_fld T.o_Reply.cl T.n_data (w_fld (K := K) (ed_var (pv 1))))) ad_nil))))) ad_nil)))))))), ?_⟩
  have hz := sizeLine_eq
  rintro ds τ Q ⟨es, rfl, ⟨hl, hc, hs⟩, q⟩
  obtain ⟨a, b, c, rfl⟩ : ∃ a b c, es = [a, b, c] := by
    match es, hl with
    | [a, b, c], _ => exact ⟨a, b, c, rfl⟩
  walk_at "kd1"
  walk_at "kdh"
  exact ⟨by omega, by omega, _, rfl, hc, hs, fun b e => q b e⟩
end
end K66

namespace K66
open PySem PySem.Spec PyProof.Rows L2 KX KD KM M53
local macro_rules | `(tactic| walk_at "kd") => `(tactic| simp only [sSeq, sNext, sIf, sRet, sRetN, sSet, sDrop, sFor, sPar, sPar3, sAsg, sAug, sBrk, sCont, sRs, dVar, dC, dOp, dU, dB, dTru, dAnd, dOr, dNot, dNotV, dAndD, dOrD, dIf, dChain, dD, fz, dNil, dCons, dTup, dLst, dM1, dM0, dN, dApp, dPop, dExt, dIt, dRng1, dRng2, dRng3, dLc, dYes, dSl, dNo, dSome, dCall, dCallP, calm0, withD, stRV, wipeE, mergeE, gdN, gdNil, gdCons, gdTup, gdSub,
    oAdd, addOk, addD, oSub, oMul, oMod, oDiv, oInt2, oLt, oLe, oGt, oGe, oEq, oNe, oIx, ixD, szOk, lenD, oIn, oLen, oIsi, isiT, oAll, oAny, oSum, oStr, oInt, oAbs, oTuple, oList, oNeg, oIsN, oNotN, isN, oJoin, oSplit, oPart, isS, own,
    dstart, List.map_cons, List.map_nil, List.length_cons, List.length_nil, List.replicate, List.cons_append, List.nil_append, List.getElem?_cons_zero, List.getElem?_cons_succ, List.set_cons_zero, List.set_cons_succ, List.append_nil,
    if_true, if_false, Bool.false_eq_true, Bool.not_true, Bool.not_false, truD, reduceIte, reduceCtorEq, exists_eq_left', Option.some.injEq, Nat.reduceAdd, Nat.reduceSub, Int.reduceAdd, Int.reduceSub, Bool.not_eq_true', ite_self, beq_self_eq_true, String.reduceBEq, Bool.bne_true, Bool.bne_false, oIsC, isiC, oFld, dMake, oEqO, sTry, sTryA, dStrX, dListZip, oRepL, oNeRows, oStrS, dat, dats, dep, deps, eqD_str, eqD_int, eqD_bl, eqD_non, cutL_to2, cutL_from2, cutL_to1, cutL_from1, Nat.min_self, Nat.zero_le, Nat.min_zero, Nat.zero_min, Nat.max_self, true_and, and_true, Bool.and_self, Bool.true_and, Bool.and_true, decide_eq_true_eq, decide_eq_false_iff_not, implies_true, and_self, Bool.or_self, Bool.or_false, Bool.false_or, List.length_map, rangeD_len, rangeDC_len, atI_c0, atI_c1, atI_c2, atI_c3, Option.map_some, Option.map_none, Int.reduceEq, Int.reduceLT, Int.reduceLE, lk_kind, lk_text, lk_data])
local macro_rules | `(tactic| walk_at "kd1") => `(tactic| simp only [sSeq_hold, sNext, sIf, sRet, sRetN, sSet, sDrop, sFor, sPar, sPar3, sAsg, sAug, sBrk, sCont, sRs, dVar, dC, dOp, dU, dB, dTru, dAnd, dOr, dNot, dNotV, dAndD, dOrD, dIf, dChain, dD, fz, dNil, dCons, dTup, dLst, dM1, dM0, dN, dApp, dPop, dExt, dIt, dRng1, dRng2, dRng3, dLc, dYes, dSl, dNo, dSome, dCall, dCallP, calm0, withD, stRV, wipeE, mergeE, gdN, gdNil, gdCons, gdTup, gdSub,
    oAdd, addOk, addD, oSub, oMul, oMod, oDiv, oInt2, oLt, oLe, oGt, oGe, oEq, oNe, oIx, ixD, szOk, lenD, oIn, oLen, oIsi, isiT, oAll, oAny, oSum, oStr, oInt, oAbs, oTuple, oList, oNeg, oIsN, oNotN, isN, oJoin, oSplit, oPart, isS, own,
    dstart, List.map_cons, List.map_nil, List.length_cons, List.length_nil, List.replicate, List.cons_append, List.nil_append, List.getElem?_cons_zero, List.getElem?_cons_succ, List.set_cons_zero, List.set_cons_succ, List.append_nil,
    if_true, if_false, Bool.false_eq_true, Bool.not_true, Bool.not_false, truD, reduceIte, reduceCtorEq, exists_eq_left', Option.some.injEq, Nat.reduceAdd, Nat.reduceSub, Int.reduceAdd, Int.reduceSub, Bool.not_eq_true', ite_self, beq_self_eq_true, String.reduceBEq, Bool.bne_true, Bool.bne_false, oIsC, isiC, oFld, dMake, oEqO, sTry, sTryA, dStrX, dListZip, oRepL, oNeRows, oStrS, dat, dats, dep, deps, eqD_str, eqD_int, eqD_bl, eqD_non, cutL_to2, cutL_from2, cutL_to1, cutL_from1, Nat.min_self, Nat.zero_le, Nat.min_zero, Nat.zero_min, Nat.max_self, true_and, and_true, Bool.and_self, Bool.true_and, Bool.and_true, decide_eq_true_eq, decide_eq_false_iff_not, implies_true, and_self, Bool.or_self, Bool.or_false, Bool.false_or, List.length_map, rangeD_len, rangeDC_len, atI_c0, atI_c1, atI_c2, atI_c3, Option.map_some, Option.map_none, Int.reduceEq, Int.reduceLT, Int.reduceLE, lk_kind, lk_text, lk_data])
local macro_rules | `(tactic| walk_at "kdh") => `(tactic| (unfold hold; walk_at "kd1"))

theorem signs_get {l : List Nat} {i : Nat} {x : D} (h : (KD.signs l)[i]? = some x) : ∃ c, l[i]? = some c ∧ x = .str [c] := by
  unfold KD.signs at h
  rw [List.getElem?_map, Option.map_eq_some_iff] at h
  obtain ⟨c, hc, rfl⟩ := h
  exact ⟨c, hc, rfl⟩
theorem in_low (c : Nat) : decide (c ∈ [97, 98, 99, 100, 101, 102, 103, 104, 105, 106, 107, 108, 109, 110, 111, 112, 113, 114, 115, 116, 117, 118, 119, 120, 121, 122]) = low c := by
  rw [Bool.eq_iff_iff]
  simp only [decide_eq_true_eq, low, Bool.and_eq_true, List.mem_cons, List.not_mem_nil, or_false]
  omega
theorem in_word (c : Nat) : decide (c ∈ [97, 98, 99, 100, 101, 102, 103, 104, 105, 106, 107, 108, 109, 110, 111, 112, 113, 114, 115, 116, 117, 118, 119, 120, 121, 122, 48, 49, 50, 51, 52, 53, 54, 55, 56, 57]) = wordc c := by
  rw [Bool.eq_iff_iff]
  simp only [decide_eq_true_eq, wordc, low, dig, Bool.and_eq_true, Bool.or_eq_true, List.mem_cons, List.not_mem_nil, or_false]
  omega
section
variable {P : Program} {w : World} {K : PySem.W.Frag} {mg : Str → Option Value} {base : Heap} {CM CR : Addr}
def sp_lword : SpD Unit := fun ds _ Q _ => ∃ l, ds = [.str l] ∧ l.length ≤ 100000 ∧ Q (.bl (isWord l)) ()
theorem ok_lword {f : Addr} {fd : FuncData} (D : DefAt K mg "_law_is_word" s__law_is_word f fd ["value"]) (T : TD K mg CM CR) : FnOk P w K mg base CX0 1 f fd ["value"] (spD K PW (calm0 sp_lword)) := by
  refine okD0 D.fn sc__law_is_word (fun ds τ Q E h => by obtain ⟨d, rfl, _⟩ := h; rfl) fun cdv A outer s H E hr => ?_
  have hu := u160 hr
  refine ⟨_, (sd_cons (sd_set (i := 1) sc__law_is_word.nd rfl (Or.inr rfl) (ed_str lit_22))
      (sd_one (sd_ret (ped_fz (ed_andV (K := K) (ed_chain c_lt c_lt k_lt k_lt ed_int (ed_b1 (pe_callB (w_len (K := K)) rfl T.b_len bb_len (pa_cons (ed_var (pv 0)) pa_nil)) c_len) ed_int) (ed_andV (K := K) (ed_cmp (or_in (K := K) hu) c_in (ed_ix (w_ix (K := K)) c_ix (ed_var (pv 0)) ed_int (fun _ _ => rfl)) (ed_var (pv 1)) (by rfl)) (ed_one (ed_b1 (pe_callB (w_all (K := K) rfl) rfl T.b_all bb_all (pa_cons (ed_lc (own := [("sign", 2)]) go_name (gw_name (by decide)) tt_yes rfl sc__law_is_word.nd (id_seq (K := K) (ped_fz (ed_var (pv 0)))) (blkOk_by (N := n__law_is_word) (sc := defScope s__law_is_word) (by decide +kernel)) (fun _ _ _ _ _ => (pg_name (i := 2) sc__law_is_word.nd rfl (Or.inl rfl))) (fun _ _ _ _ _ => pts_nil) (fun _ _ _ _ _ => (ped_fz (ed_cmp (or_in (K := K) hu) c_in (ed_var (pv 2)) (ed_bin (or_add (K := K)) c_add (ed_var (pv 1)) (ed_str lit_23)) (by rfl))))) pa_nil)) c_all)))))))), ?_⟩
  have hz := sizeLine_eq
  rintro ds τ Q ⟨l, rfl, hl, q⟩
  walk_at "kd1"
  walk_at "kdh"
  refine ⟨by omega, ?_⟩
  cases l with
  | nil => exact q
  | cons c r =>
    have e0 : decide ((0 : Int) < ((c :: r).length : Nat)) = true := decide_eq_true (by simp only [List.length_cons]; omega)
    rw [e0]
    walk_at "kd1"
    by_cases h1 : (c :: r).length < 13
    · have e1 : decide ((((c :: r).length : Nat) : Int) < 13) = true := decide_eq_true (by omega)
      simp only [List.length_cons] at e1 hl
      rw [e1]
      walk_at "kd1"
      refine ⟨by omega, ?_⟩
      rw [in_low]
      by_cases h2 : low c = true
      · rw [h2]
        walk_at "kd1"
        refine ⟨by omega, ?_⟩
        refine lc_list (fun i acc ρ _ => acc = ((c :: r).take i).map (fun c => .bl (wordc c)) ∧ ρ = [some (Sl.d (.str (c :: r))), some (Sl.d (.str [97, 98, 99, 100, 101, 102, 103, 104, 105, 106, 107, 108, 109, 110, 111, 112, 113, 114, 115, 116, 117, 118, 119, 120, 121, 122])), none]) ⟨rfl, rfl⟩ ?_ ?_
        · rintro i x F acc ρ τ hx ⟨rfl, rfl⟩ hF
          obtain ⟨d, hd, rfl⟩ := signs_get hx
          walk_at "kd1"
          rw [in_word]
          exact ⟨by omega, hF _ _ _ ⟨by rw [List.take_add_one, hd, List.map_append]; rfl, rfl⟩⟩
        · rintro acc ρ τ ⟨rfl, rfl⟩
          have e2 : (KD.signs (c :: r)).length = (c :: r).length := by unfold KD.signs; rw [List.length_map]
          rw [e2, List.take_length]
          have e3 : (c :: r).map (fun c => KD.D.bl (wordc c)) = ((c :: r).map wordc).map KD.D.bl := by rw [List.map_map]; rfl
          rw [e3, blsD_map]
          have e4 : ((c :: r).map wordc).all id = isWord (c :: r) := by
            unfold isWord
            have a1 : decide (1 ≤ (c :: r).length) = true := decide_eq_true (by simp only [List.length_cons]; omega)
            have a2 : decide ((c :: r).length ≤ 12) = true := decide_eq_true (by omega)
            have a3 : headOk low (c :: r) = true := h2
            rw [a1, a2, a3, List.all_map]
            simp
          show Q (.bl (((c :: r).map wordc).all id)) τ
          rw [e4]
          exact q
      · have h2 : low c = false := by simpa using h2
        rw [h2]
        walk_at "kd1"
        have : isWord (c :: r) = false := by
          unfold isWord
          simp [headOk, h2]
        rw [this] at q
        exact q
    · have e1 : decide ((((c :: r).length : Nat) : Int) < 13) = false := decide_eq_false (by omega)
      simp only [List.length_cons] at e1 h1
      rw [e1]
      walk_at "kd1"
      have : isWord (c :: r) = false := by
        unfold isWord
        have : decide ((c :: r).length ≤ 12) = false := decide_eq_false (by simp only [List.length_cons]; omega)
        rw [this]
        simp
      rw [this] at q
      exact q
def sp_lread : SpD Unit := fun ds _ Q _ => ∃ l, ds = [.str l] ∧ l.length ≤ 100000 ∧ Q (.lst (match rd l with | some d => [unp d] | none => [])) ()
theorem ok_lread {f f1 : Addr} {fd fd1 : FuncData} (D : DefAt K mg "_law_read" s__law_read f fd ["text"]) (T : TD K mg CM CR) (D_read_data : DefAt K mg "read_data" s_read_data f1 fd1 ["text"]) (G_read_data : FnOk P w K mg base (L2N.CX P w) 4 f1 fd1 ["text"] (spN CM K PW sp_read_data)) :
    FnOk P w K mg base CX0 5 f fd ["text"] (spD K PW (calm0 sp_lread)) := by
  refine okD0 D.fn sc__law_read (fun ds τ Q E h => by obtain ⟨d, rfl, _⟩ := h; rfl) fun cdv A outer s H E hr => ?_
  have hu := u160 hr
  refine ⟨_, (sd_one (sd_tryE T.x_Malformed.self rfl rfl ⟨rfl, by decide, .inl T.x_Malformed.gC⟩ takes0 (fun W pn xe tk _ => (sd_one (sd_ret (ped_fz (ed_lst (ad_cons (ped_fz (ed_callNP (pe_callS G_read_data (hr.mono (by decide)) rfl D_read_data.g D_read_data.kp D_read_data.b (fun σ => passAtN tk σ) (ad_cons (ped_fz (ed_var (pv 0))) ad_nil)))) ad_nil)))))) (fun a oe cls d pn _ _ => (sd_one (sd_ret (ped_fz (ed_lst ad_nil))))))), ?_⟩
  have hz := sizeLine_eq
  rintro ds τ Q ⟨l, rfl, hl, q⟩
  walk_at "kd1"
  refine ⟨l, rfl, hl, fun d hd => ⟨by omega, ?_⟩, fun hd => ?_⟩
  · rw [hd] at q
    exact q
  · rw [hd] at q
    exact q
theorem goR_le : ∀ (ls : List T) (i : Nat) (acc : List D) (n : Nat), goR i ls acc = .inl n → n ≤ i + ls.length
  | [], i, acc, n, h => by cases h
  | l :: ls, i, acc, n, h => by
    rw [goR_cons] at h
    split at h
    · cases h
      simp only [List.length_cons]
      omega
    · have := goR_le ls (i + 1) _ n h
      simp only [List.length_cons]
      omega
theorem goR_len : ∀ (ls : List T) (i : Nat) (acc ps : List D), goR i ls acc = .inr ps → ps.length = acc.length + ls.length
  | [], i, acc, ps, h => by cases h; rfl
  | l :: ls, i, acc, ps, h => by
    rw [goR_cons] at h
    split at h
    · cases h
    · have := goR_len ls (i + 1) _ ps h
      rw [this]
      simp only [List.length_append, List.length_cons, List.length_nil]
      omega
theorem diaryR_le {l : T} {n : Nat} (h : diaryR l = .inl n) : n ≤ l.length + 2 := by
  have rl : (rowsOf l).length ≤ l.length + 1 := spl_len [10] l 0 []
  have rd : (rowsOf l).dropLast.length = (rowsOf l).length - 1 := List.length_dropLast
  unfold diaryR at h
  split at h
  · rename_i m e
    cases h
    have := goR_le _ _ _ _ e
    omega
  · rename_i ps e
    have := goR_len _ _ _ _ e
    simp only [List.length_nil] at this
    split at h
    · cases h
      omega
    · cases h
theorem rowText_len {l : T} {n : Nat} (h : diaryR l = .inl n) (hl : l.length ≤ 100000) : (rowText n).length ≤ 104 := by
  have := diaryR_le h
  have := itxt_len (n := n) (by omega)
  unfold rowText
  simp only [List.length_append, List.length_cons, List.length_nil]
  omega
/-- what the law is told -/
def tells (m : T) : D := .str ([60] ++ m ++ [62])
def sp_told (CR : Addr) : SpD Unit := fun ds _ Q _ => ∃ i d, ds = [.int i, d] ∧
  ((i = 0 ∧ sp_write_diary CR [d] () Q (fun e _ => e.2.length ≤ 1000 → Q (tells e.2) ())) ∨ (i ≠ 0 ∧ sp_read_diary CR [d] () Q (fun e _ => e.2.length ≤ 1000 → Q (tells e.2) ())))
theorem ok_told {f f1 f2 : Addr} {fd fd1 fd2 : FuncData} (D : DefAt K mg "_law_told" s__law_told f fd ["which", "value"]) (T : TD K mg CM CR) (D_write_diary : DefAt K mg "write_diary" s_write_diary f1 fd1 ["entries"]) (G_write_diary : FnOk P w K mg base (KM.CM CM P w) 6 f1 fd1 ["entries"] (spD K PW (sp_write_diary CR)))
    (D_read_diary : DefAt K mg "read_diary" s_read_diary f2 fd2 ["text"]) (G_read_diary : FnOk P w K mg base (KM.CM CM P w) 6 f2 fd2 ["text"] (spD K PW (sp_read_diary CR))) :
    FnOk P w K mg base CX0 7 f fd ["which", "value"] (spD K PW (calm0 (sp_told CR))) := by
  refine okD0 D.fn sc__law_told (fun ds τ Q E h => by obtain ⟨i, d, rfl, _⟩ := h; rfl) fun cdv A outer s H E hr => ?_
  have hu := u160 hr
  have hu65 := u65 hr
  refine ⟨_, (sd_one (sd_tryAs (i := 2) rfl rfl sc__law_told.nd rfl rfl ⟨rfl, by decide, .inl T.x_Malformed.gC⟩ T.x_Malformed.self (fun W pn xe tk _ => (sd_one (sd_ret (ped_fz (ed_if (td_cmp (or_eq (K := K) hu) c_eq (ed_var (pv 0)) ed_int (nomark _)) (ed_callXP (pe_callS G_write_diary (hr.mono (by decide)) rfl D_write_diary.g D_write_diary.kp D_write_diary.b (fun σ => KM.passAtM tk σ) (ad_cons (ped_fz (ed_var (pv 1))) ad_nil))) (ed_callXP (pe_callS G_read_diary (hr.mono (by decide)) rfl D_read_diary.g D_read_diary.kp D_read_diary.b (fun σ => KM.passAtM tk σ) (ad_cons (ped_fz (ed_var (pv 1))) ad_nil)))))))) (fun p q m pn a ml hh ea em => (sd_one (sd_ret (ped_fz (ed_bin (or_add (K := K)) c_add (ed_bin (or_add (K := K)) c_add (ed_str lit_25) (ed_strX2 ea em (pe_callTy (kx_strE (by simp [Cx.suite]) (by simp [Cx.suite]) hh T.s_str T.x_Malformed.sb hu65) rfl T.b_str bb_str (pa_cons (pv 2) pa_nil)))) (ed_str lit_24)))))))), ?_⟩
  have hz := sizeLine_eq
  rintro ds τ Q ⟨i, d, rfl, h⟩
  have fin : ∀ m : M53.T, m.length ≤ 1000 → Q (tells m) () → ∀ a : Addr, 1 + m.length ≤ sizeLine ∧ m.length + 1 + 1 ≤ sizeLine ∧ Q (KD.D.str (60 :: (m ++ [62]))) τ := fun m hm q a => ⟨by omega, by omega, q⟩
  walk_at "kd1"
  rcases h with ⟨rfl, h⟩ | ⟨hi, h⟩
  · rw [if_pos rfl]
    obtain ⟨d', e, h⟩ := h
    cases e
    refine ⟨d, rfl, ?_⟩
    rcases h with ⟨h1, h2, h3⟩ | ⟨es, rfl, h1, h2, h3, h4⟩
    · exact .inl ⟨h1, h2, fun m hm => fin m (by omega) (h3 m hm (Nat.le_trans hm (by decide)))⟩
    · exact .inr ⟨es, rfl, h1, h2, h3, fun hn m hm => fin m (by omega) (h4 hn m hm (Nat.le_trans hm (by decide)))⟩
  · rw [if_neg hi]
    obtain ⟨d', e, hd, h1, h2⟩ := h
    cases e
    refine ⟨d, rfl, hd, fun l e => ?_, fun hn => fin _ (by decide) (h2 hn (by decide))⟩
    obtain ⟨g1, g2, g3⟩ := h1 l e
    exact ⟨g1, g2, fun n hn => fin _ (Nat.le_trans (rowText_len hn g1) (by decide)) (g3 n hn (Nat.le_trans (rowText_len hn g1) (by decide)))⟩
end
end K66

namespace K66
open PySem PySem.Spec PyProof.Rows L2 KX KD KM M53
local macro_rules | `(tactic| walk_at "kd") => `(tactic| simp only [sSeq, sNext, sIf, sRet, sRetN, sSet, sDrop, sFor, sPar, sPar3, sAsg, sAug, sBrk, sCont, sRs, dVar, dC, dOp, dU, dB, dTru, dAnd, dOr, dNot, dNotV, dAndD, dOrD, dIf, dChain, dD, fz, dNil, dCons, dTup, dLst, dM1, dM0, dN, dApp, dPop, dExt, dIt, dRng1, dRng2, dRng3, dLc, dYes, dSl, dNo, dSome, dCall, dCallP, calm0, withD, stRV, wipeE, mergeE, gdN, gdNil, gdCons, gdTup, gdSub,
    oAdd, addOk, addD, oSub, oMul, oMod, oDiv, oInt2, oLt, oLe, oGt, oGe, oEq, oNe, oIx, ixD, szOk, lenD, oIn, oLen, oIsi, isiT, oAll, oAny, oSum, oStr, oInt, oAbs, oTuple, oList, oNeg, oIsN, oNotN, isN, oJoin, oSplit, oPart, isS, own,
    dstart, List.map_cons, List.map_nil, List.length_cons, List.length_nil, List.replicate, List.cons_append, List.nil_append, List.getElem?_cons_zero, List.getElem?_cons_succ, List.set_cons_zero, List.set_cons_succ, List.append_nil,
    if_true, if_false, Bool.false_eq_true, Bool.not_true, Bool.not_false, truD, reduceIte, reduceCtorEq, exists_eq_left', Option.some.injEq, Nat.reduceAdd, Nat.reduceSub, Int.reduceAdd, Int.reduceSub, Bool.not_eq_true', ite_self, beq_self_eq_true, String.reduceBEq, Bool.bne_true, Bool.bne_false, oIsC, isiC, oFld, dMake, oEqO, sTry, sTryA, dStrX, dListZip, oRepL, oNeRows, oStrS, dat, dats, dep, deps, eqD_str, eqD_int, eqD_bl, eqD_non, cutL_to2, cutL_from2, cutL_to1, cutL_from1, Nat.min_self, Nat.zero_le, Nat.min_zero, Nat.zero_min, Nat.max_self, true_and, and_true, Bool.and_self, Bool.true_and, Bool.and_true, decide_eq_true_eq, decide_eq_false_iff_not, implies_true, and_self, Bool.or_self, Bool.or_false, Bool.false_or, List.length_map, rangeD_len, rangeDC_len, atI_c0, atI_c1, atI_c2, atI_c3, Option.map_some, Option.map_none, Int.reduceEq, Int.reduceLT, Int.reduceLE, lk_kind, lk_text, lk_data])
local macro_rules | `(tactic| walk_at "kd1") => `(tactic| simp only [sSeq_hold, sNext, sIf, sRet, sRetN, sSet, sDrop, sFor, sPar, sPar3, sAsg, sAug, sBrk, sCont, sRs, dVar, dC, dOp, dU, dB, dTru, dAnd, dOr, dNot, dNotV, dAndD, dOrD, dIf, dChain, dD, fz, dNil, dCons, dTup, dLst, dM1, dM0, dN, dApp, dPop, dExt, dIt, dRng1, dRng2, dRng3, dLc, dYes, dSl, dNo, dSome, dCall, dCallP, calm0, withD, stRV, wipeE, mergeE, gdN, gdNil, gdCons, gdTup, gdSub,
    oAdd, addOk, addD, oSub, oMul, oMod, oDiv, oInt2, oLt, oLe, oGt, oGe, oEq, oNe, oIx, ixD, szOk, lenD, oIn, oLen, oIsi, isiT, oAll, oAny, oSum, oStr, oInt, oAbs, oTuple, oList, oNeg, oIsN, oNotN, isN, oJoin, oSplit, oPart, isS, own,
    dstart, List.map_cons, List.map_nil, List.length_cons, List.length_nil, List.replicate, List.cons_append, List.nil_append, List.getElem?_cons_zero, List.getElem?_cons_succ, List.set_cons_zero, List.set_cons_succ, List.append_nil,
    if_true, if_false, Bool.false_eq_true, Bool.not_true, Bool.not_false, truD, reduceIte, reduceCtorEq, exists_eq_left', Option.some.injEq, Nat.reduceAdd, Nat.reduceSub, Int.reduceAdd, Int.reduceSub, Bool.not_eq_true', ite_self, beq_self_eq_true, String.reduceBEq, Bool.bne_true, Bool.bne_false, oIsC, isiC, oFld, dMake, oEqO, sTry, sTryA, dStrX, dListZip, oRepL, oNeRows, oStrS, dat, dats, dep, deps, eqD_str, eqD_int, eqD_bl, eqD_non, cutL_to2, cutL_from2, cutL_to1, cutL_from1, Nat.min_self, Nat.zero_le, Nat.min_zero, Nat.zero_min, Nat.max_self, true_and, and_true, Bool.and_self, Bool.true_and, Bool.and_true, decide_eq_true_eq, decide_eq_false_iff_not, implies_true, and_self, Bool.or_self, Bool.or_false, Bool.false_or, List.length_map, rangeD_len, rangeDC_len, atI_c0, atI_c1, atI_c2, atI_c3, Option.map_some, Option.map_none, Int.reduceEq, Int.reduceLT, Int.reduceLE, lk_kind, lk_text, lk_data])
local macro_rules | `(tactic| walk_at "kdh") => `(tactic| (unfold hold; walk_at "kd1"))

/-- what K tells of the record's == -/
structure EqAt66 (K : PySem.W.Frag) (CR fe : Addr) (fde : FuncData) : Prop where
  f_eq : PySem.W.findIn K (.ref CR) "__eq__" = some (some (.ref fe))
  k_eq : PySem.W.isFn K (.ref fe) = true
  b_eq : Binds K fde ["self", "other"] []
structure TE66 (K : PySem.W.Frag) (mg : Str → Option Value) (CM CR fe : Addr) (fde : FuncData) : Prop extends TD K mg CM CR, EqAt66 K CR fe fde
def dueR (l : T) : D := match diaryR l with
  | .inl n => .int (n : Nat)
  | .inr es => .lst (es.map fun e => .tup [e.line, .str e.kind, .str e.more, e.data])
def sp_due : SpD Unit := fun ds _ Q _ => ∃ l, ds = [.str l] ∧ l.length ≤ 100000 ∧ Q (dueR l) ()
theorem nat_pow {n : Nat} (h : n ≤ 1000000) : ((n : Nat) : Int).natAbs < 10 ^ 4300 := by
  have h1 : (10 : Nat) ^ 7 ≤ 10 ^ 4300 := Nat.pow_le_pow_right (by decide) (by decide)
  have h2 : ((n : Nat) : Int).natAbs < 10 ^ 7 := by omega
  exact Nat.lt_of_lt_of_le h2 h1
section
variable {P : Program} {w : World} {K : PySem.W.Frag} {mg : Str → Option Value} {base : Heap} {CM CR : Addr}
def dueD (e : En) : D := .tup [e.line, .str e.kind, .str e.more, e.data]
def goodEn (e : En) : Prop := (∃ l, e.line = .str l) ∧ okR [.str e.kind, .str e.more, e.data]
def sp_fits (CR : Addr) : SpD Unit := fun ds _ Q _ => (∀ b, b = true → Q (.bl b) ()) ∧ ((∃ n, n ≤ 1000000 ∧ ds = [tells (rowText n), .int (n : Nat)]) ∨ ∃ es : List En, es.length ≤ 100000 ∧ (∀ e ∈ es, goodEn e) ∧ ds = [.lst (es.map (entD CR)), .lst (es.map dueD)])
theorem ok_fits {f fe f2 T0 : Addr} {fd fde fd2 : FuncData} {d1 d2 : List Value} (D : DefAt K mg "_law_fits" s__law_fits f fd ["told", "due"]) (T : TE66 K mg CM CR fe fde) (nd : base.NoDigits)
    (G_eq : FnOk P w K mg base CX0 2 fe fde ["self", "other"] (spEq (SameO K CR nsR okR)))
    (D_Reply : RepAt K mg CR f2 fd2 d1 d2 T0) (G_Reply : FnOk P w K mg base CX0 1 f2 fd2 ["self", "kind", "text", "data"] (spInit CR nsR)) :
    FnOk P w K mg base CX0 4 f fd ["told", "due"] (spD K PW (calm0 (sp_fits CR))) := by
  refine okD0 D.fn sc__law_fits (fun ds τ Q E h => by obtain ⟨_, ⟨n, _, rfl⟩ | ⟨es, _, _, rfl⟩⟩ := h <;> rfl) fun cdv A outer s H E hr => ?_
  have hu := u160 hr
  refine ⟨_, (sd_cons (sd_if (td_tru (K := K) (ed_isi (pe_callB (w_isi (K := K)) rfl T.b_isinstance bb_isinstance (pa_cons (ed_var (pv 1)) (pa_cons (pe_bltn (v := V.ty "int") rfl T.b_int bb_int rfl) pa_nil))) ci_int)) (sd_one (sd_ret (ped_fz (ed_cmp (or_eq (K := K) hu) c_eq (ed_var (pv 0)) (ed_bin (or_add (K := K)) c_add (ed_bin (or_add (K := K)) c_add (ed_str lit_26) (ed_b1 (pe_callTy (kx_str rfl nd) rfl T.b_str bb_str (pa_cons (ed_var (pv 1)) pa_nil)) c_str)) (ed_str lit_24)) (nomark _))))) sd_nil)
      (sd_cons (sd_if (PW.pt (wd_or (td_not (td_tru (K := K) (ed_isi (pe_callB (w_isi (K := K)) rfl T.b_isinstance bb_isinstance (pa_cons (ed_var (pv 0)) (pa_cons (pe_bltn (v := V.ty "list") rfl T.b_list bb_list rfl) pa_nil))) ci_list))) (wd_or1 (td_cmp (or_ne (K := K) hu) c_ne (ed_b1 (pe_callB (w_len (K := K)) rfl T.b_len bb_len (pa_cons (ed_var (pv 0)) pa_nil)) c_len) (ed_b1 (pe_callB (w_len (K := K)) rfl T.b_len bb_len (pa_cons (ed_var (pv 1)) pa_nil)) c_len) (nomark _))))) (sd_one (sd_ret (ped_fz ed_bl))) sd_nil)
      (sd_one (sd_ret (ped_fz (ed_b1 (pe_callB (w_all (K := K) rfl) rfl T.b_all bb_all (pa_cons (ed_lc (own := [("k", 2)]) go_name (gw_name (by decide)) tt_yes rfl sc__law_fits.nd (id_rng1 (pi_range1 rfl T.b_range (ad_cons (ped_fz (ed_b1 (pe_callB (w_len (K := K)) rfl T.b_len bb_len (pa_cons (ed_var (pv 1)) pa_nil)) c_len)) ad_nil))) (blkOk_by (N := n__law_fits) (sc := defScope s__law_fits) (by decide +kernel)) (fun _ _ _ _ _ => (pg_name (i := 2) sc__law_fits.nd rfl (Or.inl rfl))) (fun _ _ _ _ _ => pts_nil) (fun _ _ _ _ _ => (ped_fz (ed_andV (K := K) (ed_cmp (or_eq (K := K) hu) c_eq (ed_ix (w_ix (K := K)) c_ix (ed_ix (w_ix (K := K)) c_ix (ed_var (pv 0)) (ed_var (pv 2)) (fun _ _ => rfl)) ed_int (fun _ _ => rfl)) (ed_ix (w_ix (K := K)) c_ix (ed_ix (w_ix (K := K)) c_ix (ed_var (pv 1)) (ed_var (pv 2)) (fun _ _ => rfl)) ed_int (fun _ _ => rfl)) (nomark _)) (ed_andV (K := K) (ed_cmp (op_eqG (rcG_ins G_eq T.f_eq T.k_eq T.b_eq pass0) (hr.mono (by decide))) c_eqO (ed_ix (w_ix (K := K)) c_ix (ed_ix (w_ix (K := K)) c_ix (ed_var (pv 0)) (ed_var (pv 2)) (fun _ _ => rfl)) ed_int (fun _ _ => rfl)) (ed_make D_Reply.dv3 (pe_make D_Reply.mkr G_Reply (hr.mono (by decide)) rfl D_Reply.gC D_Reply.b3 D_Reply.vs3 pass0 (ad_cons (ped_fz (ed_ix (w_ix (K := K)) c_ix (ed_ix (w_ix (K := K)) c_ix (ed_var (pv 1)) (ed_var (pv 2)) (fun _ _ => rfl)) ed_int (fun _ _ => rfl))) (ad_cons (ped_fz (ed_ix (w_ix (K := K)) c_ix (ed_ix (w_ix (K := K)) c_ix (ed_var (pv 1)) (ed_var (pv 2)) (fun _ _ => rfl)) ed_int (fun _ _ => rfl))) (ad_cons (ped_fz (ed_ix (w_ix (K := K)) c_ix (ed_ix (w_ix (K := K)) c_ix (ed_var (pv 1)) (ed_var (pv 2)) (fun _ _ => rfl)) ed_int (fun _ _ => rfl))) ad_nil))))) (nomark _)) (ed_one (ed_cmp (or_eq (K := K) hu) c_eq (ed_b1 (pe_callB (w_len (K := K)) rfl T.b_len bb_len (pa_cons (ed_ix (w_ix (K := K)) c_ix (ed_var (pv 0)) (ed_var (pv 2)) (fun _ _ => rfl)) pa_nil)) c_len) ed_int (nomark _)))))))) pa_nil)) c_all)))))), ?_⟩
  have hz := sizeLine_eq
  rintro ds τ Q ⟨q, ⟨n, hn, rfl⟩ | ⟨es, hl, he, rfl⟩⟩
  · walk_at "kd1"
    have h1 := itxt_len hn
    refine ⟨nat_pow hn, by omega, by omega, rfl, ?_⟩
    refine q _ ?_
    unfold tells rowText
    rw [eqD_str]
    simp
  · walk_at "kd1"
    walk_at "kdh"
    rw [if_neg (by simp)]
    walk_at "kdh"
    refine ⟨by omega, by omega, ?_⟩
    refine lc_list (fun i acc ρ _ => acc = List.replicate i (.bl true) ∧ ρ = [some (Sl.d (.lst (es.map (entD CR)))), some (Sl.d (.lst (es.map dueD))), none]) ⟨rfl, rfl⟩ ?_ ?_
    · rintro i x F acc ρ τ hx ⟨rfl, rfl⟩ hF
      obtain ⟨hi, rfl⟩ := rangeD_get hx
      have hi : i < es.length := by omega
      obtain ⟨e, ee⟩ : ∃ e, es[i]? = some e := ⟨_, List.getElem?_eq_getElem hi⟩
      obtain ⟨⟨l, el⟩, hok⟩ := he e (List.mem_of_getElem? ee)
      have a1 : atI (es.map (entD CR)) (0 + (i : Nat)) = some (.tup [.str l, .obj CR nsR [.str e.kind, .str e.more, e.data]]) := by
        rw [Int.zero_add, KD.atI_nat, List.getElem?_map, ee]
        show some (entD CR e) = _
        unfold entD
        rw [el]
      have a2 : atI (es.map dueD) (0 + (i : Nat)) = some (.tup [.str l, .str e.kind, .str e.more, e.data]) := by
        rw [Int.zero_add, KD.atI_nat, List.getElem?_map, ee]
        show some (dueD e) = _
        unfold dueD
        rw [el]
      walk_at "kd1"
      simp only [a1, a2]
      walk_at "kd1"
      exact ⟨rfl, hok, hF _ _ _ ⟨by rw [List.replicate_succ']; rfl, rfl⟩⟩
    · rintro acc ρ τ ⟨rfl, rfl⟩
      have e3 : ∀ n, List.replicate n (KD.D.bl true) = (List.replicate n true).map KD.D.bl := fun n => by rw [List.map_replicate]
      rw [e3, blsD_map]
      exact q _ (by simp)
/-- the triples that are due -/
def isTupP : PyData → Bool
  | .tuple _ => true
  | _ => false
def flatE (es : List En) : List D := es.flatMap fun e => [e.line, .tup [.str e.kind, .str e.more], e.data]
theorem ents_flat : ∀ (es : List En) (t : List D), ents (flatE es ++ t) = es ++ ents t
  | [], t => rfl
  | e :: es, t => by
    show ents (e.line :: .tup [.str e.kind, .str e.more] :: e.data :: (flatE es ++ t)) = _
    rw [ents, ents_flat es t]
    rfl
theorem flatE_len (es : List En) : (flatE es).length = 3 * es.length := by
  induction es with
  | nil => rfl
  | cons e es ih =>
    show (e.line :: .tup [.str e.kind, .str e.more] :: e.data :: flatE es).length = _
    simp only [List.length_cons, ih]
    omega
theorem flatE_snoc (es : List En) (e : En) : flatE es ++ [e.line, .tup [.str e.kind, .str e.more], e.data] = flatE (es ++ [e]) := by
  unfold flatE
  rw [List.flatMap_append]
  rfl
/-- the triple under way -/
def TailOk (tail part : List D) : Prop := tail = [] ∨ (∃ a, dat a = true ∧ tail = [a] ∧ part = [a]) ∨ ∃ a k x, dat a = true ∧ tail = [a, .tup [.str k, .str x]] ∧ part = [a, .str k, .str x]
theorem ok_due {f f1 f2 : Addr} {fd fd1 fd2 : FuncData} (D : DefAt K mg "_law_due" s__law_due f fd ["text"]) (T : TD K mg CM CR) (nd : base.NoDigits)
    (D__law_is_word : DefAt K mg "_law_is_word" s__law_is_word f1 fd1 ["value"]) (G__law_is_word : FnOk P w K mg base CX0 1 f1 fd1 ["value"] (spD K PW (calm0 sp_lword)))
    (D__law_read : DefAt K mg "_law_read" s__law_read f2 fd2 ["text"]) (G__law_read : FnOk P w K mg base CX0 5 f2 fd2 ["text"] (spD K PW (calm0 sp_lread))) :
    FnOk P w K mg base CX0 6 f fd ["text"] (spD K PW (calm0 sp_due)) := by
  refine okD0 D.fn sc__law_due (fun ds τ Q E h => by obtain ⟨l, rfl, _⟩ := h; rfl) fun cdv A outer s H E hr => ?_
  have hu := u160 hr
  refine ⟨_, (sd_cons (sd_par3 (ps_par3 (i := 1) (j := 2) (l := 3) rfl sc__law_due.nd rfl rfl rfl (by decide) (by decide) (by decide) rfl rfl rfl (pa_cons (ed_m1 (wk_bm (K := K) (pe_bm PySem.F.plainAttrs_str PySem.F.slot_str_split PySem.F.type_str_split mt_split (ed_var (pv 0)) (pa_cons (ed_str lit_10) pa_nil))) c_split) (pa_cons (ed_lst ad_nil) (pa_cons (ed_lst ad_nil) pa_nil))) (by rfl)))
      (sd_cons (sd_for go_name PassesOwn.never rfl (id_rng1 (pi_range1 rfl T.b_range (ad_cons (ped_fz (ed_bin op_sub c_sub (ed_b1 (pe_callB (w_len (K := K)) rfl T.b_len bb_len (pa_cons (ed_var (pv 1)) pa_nil)) c_len) ed_int)) ad_nil))) (pg_name (i := 4) sc__law_due.nd rfl (Or.inl rfl)) (sd_cons (sd_par (ps_par (i := 5) (j := 6) rfl sc__law_due.nd rfl rfl (by decide) rfl rfl (pa_cons (ed_ix (w_ix (K := K)) c_ix (ed_var (pv 1)) (ed_var (pv 4)) (fun _ _ => rfl)) (pa_cons (ed_bin op_mod c_mod (ed_b1 (pe_callTy (kx_int nd) rfl T.b_int bb_int (pa_cons (ed_var (pv 4)) pa_nil)) c_int) ed_int) pa_nil)) (by rfl)))
      (sd_cons (sd_if (td_cmp (or_ne (K := K) hu) c_ne (ed_sl (pe_slice (sr_sl (K := K)) (ed_var (pv 5)) od_no (od_some ed_int))) (ed_ix (w_ix (K := K)) c_ix (ed_lst (ad_cons (ped_fz (ed_str lit_14)) (ad_cons (ped_fz (ed_str lit_17)) (ad_cons (ped_fz (ed_str lit_15)) ad_nil)))) (ed_var (pv 6)) (fun _ _ => rfl)) (nomark _)) (sd_one (sd_ret (ped_fz (ed_bin (or_add (K := K)) c_add (ed_var (pv 4)) ed_int)))) sd_nil)
      (sd_one (sd_if (td_cmp (or_eq (K := K) hu) c_eq (ed_var (pv 6)) ed_int (nomark _)) (sd_one (sd_set (i := 3) sc__law_due.nd rfl (Or.inl rfl) (ed_lst (ad_cons (ped_fz (ed_sl (pe_slice (sr_sl (K := K)) (ed_var (pv 5)) (od_some ed_int) od_no))) ad_nil)))) (sd_one (sd_if (td_cmp (or_eq (K := K) hu) c_eq (ed_var (pv 6)) ed_int (nomark _)) (sd_cons (sd_asg (ped_fz (ed_m1 (wk_bm (K := K) (pe_bm PySem.F.plainAttrs_str PySem.F.slot_str_partition PySem.F.type_str_partition mt_partition (ed_sl (pe_slice (sr_sl (K := K)) (ed_var (pv 5)) (od_some ed_int) od_no)) (pa_cons (ed_str lit_16) pa_nil))) c_part)) (gd_tup (K := K) (n := 3) rfl (gd_cons (gd_name (pg_name (i := 7) sc__law_due.nd rfl (Or.inl rfl))) (gd_cons (gd_name (pg_name (i := 8) sc__law_due.nd rfl (Or.inl rfl))) (gd_cons (gd_name (pg_name (i := 9) sc__law_due.nd rfl (Or.inl rfl))) gd_nil)))))
      (sd_cons (sd_if (PW.pt (wd_or (td_cmp (or_eq (K := K) hu) c_eq (ed_var (pv 8)) (ed_str lit_4) (nomark _)) (wd_or1 (td_not (td_tru (K := K) (ed_call0P (pe_call G__law_is_word (hr.mono (by decide)) rfl D__law_is_word.g D__law_is_word.kp D__law_is_word.b .nil pass0 (ad_cons (ped_fz (ed_var (pv 7))) ad_nil)))))))) (sd_one (sd_ret (ped_fz (ed_bin (or_add (K := K)) c_add (ed_var (pv 4)) ed_int)))) sd_nil)
      (sd_one (sd_set (i := 3) sc__law_due.nd rfl (Or.inl rfl) (ed_bin (or_add (K := K)) c_add (ed_var (pv 3)) (ed_lst (ad_cons (ped_fz (ed_var (pv 7))) (ad_cons (ped_fz (ed_var (pv 9))) ad_nil)))))))) (sd_cons (sd_set (i := 10) sc__law_due.nd rfl (Or.inl rfl) (ed_call0P (pe_call G__law_read (hr.mono (by decide)) rfl D__law_read.g D__law_read.kp D__law_read.b .nil pass0 (ad_cons (ped_fz (ed_sl (pe_slice (sr_sl (K := K)) (ed_var (pv 5)) (od_some ed_int) od_no))) ad_nil))))
      (sd_cons (sd_if (PW.pt (wd_or (td_cmp (or_eq (K := K) hu) c_eq (ed_var (pv 10)) (ed_lst ad_nil) (nomark _)) (wd_or1 (td_not (td_tru (K := K) (ed_isi (pe_callB (w_isi (K := K)) rfl T.b_isinstance bb_isinstance (pa_cons (ed_ix (w_ix (K := K)) c_ix (ed_var (pv 10)) ed_int (fun _ _ => rfl)) (pa_cons (pe_bltn (v := V.ty "tuple") rfl T.b_tuple bb_tuple rfl) pa_nil))) ci_tuple)))))) (sd_one (sd_ret (ped_fz (ed_bin (or_add (K := K)) c_add (ed_var (pv 4)) ed_int)))) sd_nil)
      (sd_one (sd_expr (ed_app (wk_bm (K := K) (pe_bm PySem.F.plainAttrs_list PySem.F.slot_list_append PySem.F.type_list_append mt_append (pv 2) (pa_cons (ped_fz (ed_b1 (pe_callTy (w_tuple (K := K)) rfl T.b_tuple bb_tuple (pa_cons (ed_bin (or_add (K := K)) c_add (ed_var (pv 3)) (ed_var (pv 10))) pa_nil)) c_tuple)) pa_nil)))))))))))))))
      (sd_one (sd_ret (ped_fz (ed_if (PW.pt (wd_and (td_cmp (or_eq (K := K) hu) c_eq (ed_ix (w_ix (K := K)) c_ix (ed_var (pv 1)) (ed_un un_neg c_neg ed_int) (fun _ _ => rfl)) (ed_str lit_4) (nomark _)) (wd_and1 (td_cmp (or_eq (K := K) hu) c_eq (ed_bin op_mod c_mod (ed_b1 (pe_callTy (kx_int nd) rfl T.b_int bb_int (pa_cons (ed_bin op_sub c_sub (ed_b1 (pe_callB (w_len (K := K)) rfl T.b_len bb_len (pa_cons (ed_var (pv 1)) pa_nil)) c_len) ed_int) pa_nil)) c_int) ed_int) ed_int (nomark _))))) (ed_var (pv 2)) (ed_b1 (pe_callB (w_len (K := K)) rfl T.b_len bb_len (pa_cons (ed_var (pv 1)) pa_nil)) c_len))))))), ?_⟩
  have hz := sizeLine_eq
  rintro ds τ Q ⟨l, rfl, hl, q⟩
  have rl := spl_len [10] l 0 []
  have re := spl_each [10] l 0 []
  have rn := spl_ne [10] l 0 []
  have hrw : rowsOf l = TL.spl [10] 0 [] l := rfl
  rw [List.length_nil] at re
  walk_at "kd1"
  refine ⟨⟨by decide, by decide, by omega⟩, ?_⟩
  walk_at "kdh"
  refine ⟨by omega, by omega, ?_⟩
  have en : (((TL.spl [10] 0 [] l).length : Nat) - 1 : Int).toNat = (rowsOf l).dropLast.length := by rw [List.length_dropLast]; unfold rowsOf; omega
  rw [en]
  generalize hG : goR 0 (rowsOf l).dropLast [] = G
  have qbad : ∀ n, G = .inl n → Q (.int (n : Nat)) τ := fun n e => by
    have : dueR l = .int (n : Nat) := by unfold dueR diaryR; rw [hG, e]
    rw [this] at q
    exact q
  refine fd_list (fun i ρ _ => ∃ (es : List En) (tail part : List KD.D) (o4 o5 o6 o7 o8 o9 o10 : Option Sl), ρ = [some (.d (.str l)), some (.own ((rowsOf l).map .str)), some (.own (es.map dueD)), some (.own part), o4, o5, o6, o7, o8, o9, o10] ∧ i = 3 * es.length + tail.length ∧ TailOk tail part ∧ goR i ((rowsOf l).dropLast.drop i) (flatE es ++ tail) = G) ⟨[], [], [], none, none, none, none, none, none, none, rfl, rfl, .inl rfl, hG⟩ ?_ ?_
  · rintro i x F ρ τ hx ⟨es, tail, part, o4, o5, o6, o7, o8, o9, o10, rfl, hi3, ht, hg⟩ hF
    obtain ⟨hi, rfl⟩ := rangeD_get hx
    have h1 : i < (rowsOf l).length := by rw [List.length_dropLast] at hi; omega
    have g1 : (rowsOf l)[i]? = some (rowsOf l)[i] := List.getElem?_eq_getElem h1
    have g2 : (rowsOf l).dropLast[i]? = some (rowsOf l)[i] := by rw [List.getElem?_dropLast, if_pos (by rw [List.length_dropLast] at hi; omega)]; exact g1
    have g3 : (rowsOf l).dropLast.drop i = (rowsOf l)[i] :: (rowsOf l).dropLast.drop (i + 1) := by
      have := List.drop_eq_getElem_cons hi
      rw [this]
      congr 1
      exact Option.some.inj ((List.getElem?_eq_getElem hi).symm.trans g2)
    generalize (rowsOf l)[i] = row at g1 g2 g3
    have hrow : row.length ≤ 100000 := by
      have := re row (List.mem_of_getElem? g1)
      omega
    rw [g3, goR_cons] at hg
    have a1 : atI ((rowsOf l).map KD.D.str) (0 + (i : Nat)) = some (.str row) := by rw [Int.zero_add, KD.atI_nat, List.getElem?_map, g1]; rfl
    have ei : ((0 : Int) + (i : Nat)) + 1 = ((i + 1 : Nat) : Int) := by omega
    walk_at "kd1"
    simp only [a1]
    walk_at "kd1"
    have hes : es.length ≤ 100001 := by
      have : (rowsOf l).length = (TL.spl [10] 0 [] l).length := rfl
      omega
    have bad : partR ((i % 3 : Nat) : Int) row = none → Q (KD.D.int (0 + (i : Nat) + 1)) τ := fun e => by
      rw [e] at hg
      rw [ei]
      exact qbad _ hg.symm
    rcases ht with rfl | ⟨a, da, rfl, rfl⟩ | ⟨a, k, x, da, rfl, rfl⟩
    · have e3 : ((0 : Int) + (i : Nat)) % 3 = 0 := by simp only [List.length_nil] at hi3; omega
      have e4 : ((i % 3 : Nat) : Int) = 0 := by omega
      rw [e4] at bad hg
      simp only [e3]
      walk_at "kdh"
      refine ⟨by omega, by omega, ?_⟩
      by_cases hm : row.take 2 = [62, 32]
      · rw [if_neg (fun z => z hm)]
        walk_at "kdh"
        refine ⟨by omega, by omega, ?_⟩
        have e5 : partR 0 row = some (.str (row.drop 2)) := by
          unfold partR
          rw [if_neg (fun z => z hm), if_pos rfl]
        rw [e5] at hg
        exact hF _ _ ⟨es, [.str (row.drop 2)], [.str (row.drop 2)], _, _, _, _, _, _, _, rfl, by simp only [List.length_cons, List.length_nil] at hi3 ⊢; omega, .inr (.inl ⟨_, rfl, rfl, rfl⟩), by simpa using hg⟩
      · rw [if_pos hm]
        exact bad (by unfold partR; exact if_pos hm)
    · have e3 : ((0 : Int) + (i : Nat)) % 3 = 1 := by simp only [List.length_cons, List.length_nil] at hi3; omega
      have e4 : ((i % 3 : Nat) : Int) = 1 := by omega
      rw [e4] at bad hg
      simp only [e3]
      walk_at "kdh"
      refine ⟨by omega, by omega, ?_⟩
      by_cases hm : row.take 2 = [61, 32]
      · rw [if_neg (fun z => z hm)]
        have e5 : partR 1 row = (kindOf (row.drop 2)).map fun p => .tup [.str p.1, .str p.2] := by
          unfold partR
          rw [if_neg (fun z => z hm), if_neg (by decide), if_pos rfl]
        rw [e5] at bad hg
        walk_at "kdh"
        refine ⟨by omega, ⟨by decide, by rw [List.length_drop]; omega⟩, ?_⟩
        unfold kindOf at bad hg
        unfold partD
        cases e : TL.par [32] [] (row.drop 2) with
        | none =>
          rw [e] at bad
          walk_at "kd1"
          walk_at "kdh"
          exact bad rfl
        | some p =>
          obtain ⟨k, m⟩ := p
          rw [e] at bad hg
          have hs := congrArg List.length (par_split e)
          simp only [List.length_append, List.length_drop, List.nil_append, List.length_cons, List.length_nil] at hs
          walk_at "kd1"
          walk_at "kdh"
          refine ⟨k, rfl, by omega, ?_⟩
          cases hw : isWord k with
          | false =>
            walk_at "kd1"
            exact bad (by simp only [hw, Bool.false_eq_true, if_false, Option.map_none])
          | true =>
            simp only [hw, if_true, Option.map_some] at hg
            walk_at "kd1"
            walk_at "kdh"
            exact ⟨by omega, by omega, hF _ _ ⟨es, [a, .tup [.str k, .str m]], [a, .str k, .str m], _, _, _, _, _, _, _, rfl, by simp only [List.length_cons, List.length_nil] at hi3 ⊢; omega, .inr (.inr ⟨a, k, m, da, rfl, rfl⟩), by simpa using hg⟩⟩
      · rw [if_pos hm]
        exact bad (by unfold partR; exact if_pos hm)
    · have e3 : ((0 : Int) + (i : Nat)) % 3 = 2 := by simp only [List.length_cons, List.length_nil] at hi3; omega
      have e4 : ((i % 3 : Nat) : Int) = 2 := by omega
      rw [e4] at bad hg
      simp only [e3]
      walk_at "kdh"
      refine ⟨by omega, by omega, ?_⟩
      by_cases hm : row.take 2 = [35, 32]
      · rw [if_neg (fun z => z hm)]
        have e5 : partR 2 row = tupOf (row.drop 2) := by
          unfold partR
          rw [if_neg (fun z => z hm), if_neg (by decide), if_neg (by decide)]
        rw [e5] at bad hg
        walk_at "kdh"
        refine ⟨by omega, _, rfl, by rw [List.length_drop]; omega, ?_⟩
        unfold tupOf at bad hg
        cases hrd : rd (row.drop 2) with
        | none =>
          rw [hrd] at bad
          walk_at "kdh"
          refine ⟨by decide, ?_⟩
          rw [if_pos (show eqD (.lst []) (.lst []) = true from rfl)]
          exact bad rfl
        | some d =>
          rw [hrd] at bad hg
          have hdat := dat_unp d
          have hfl := rd_flat hrd
          show hold _ _ _ _ _
          walk_at "kdh"
          refine ⟨⟨hdat, by omega⟩, ?_⟩
          have e6 : eqD (.lst [unp d]) (.lst []) = false := rfl
          rw [e6]
          walk_at "kd1"
          cases d with
          | tuple ds =>
            have e7 : unp (.tuple ds) = .tup (unps ds) := rfl
            rw [e7]
            walk_at "kd1"
            walk_at "kdh"
            refine ⟨⟨_, rfl⟩, by omega, by omega, hF _ _ ⟨es ++ [⟨a, k, x, .tup (unps ds)⟩], [], [a, .str k, .str x], _, _, _, _, _, _, _, by rw [List.map_append]; rfl, by rw [List.length_append]; simp only [List.length_cons, List.length_nil] at hi3 ⊢; omega, .inl rfl, ?_⟩⟩
            rw [List.append_nil, ← flatE_snoc]
            simpa using hg
          | list ds => cases hfl
          | dict ds => cases hfl
          | _ =>
            simp only [unp]
            walk_at "kd1"
            exact bad rfl
      · rw [if_pos hm]
        exact bad (by unfold partR; exact if_pos hm)
  · rintro ρ τ ⟨es, tail, part, o4, o5, o6, o7, o8, o9, o10, rfl, hi3, ht, hg⟩
    walk_at "kdh"
    obtain ⟨lx, elast⟩ : ∃ x, (rowsOf l).getLast? = some x := ⟨_, List.getLast?_eq_some_getLast rn⟩
    have hdl : (rowsOf l).dropLast.length = (rowsOf l).length - 1 := List.length_dropLast
    have hpos : 1 ≤ (rowsOf l).length := by
      have : (rowsOf l).length ≠ 0 := fun z => rn (List.length_eq_zero_iff.mp z)
      omega
    have hlen : 3 * es.length + tail.length = (rowsOf l).length - 1 := by rw [← hi3, rangeD_len, hdl]
    have hdrop : (rowsOf l).dropLast.drop (rangeD 0 (rowsOf l).dropLast.length).length = [] := by
      apply List.drop_of_length_le
      rw [rangeD_len]
      omega
    rw [hdrop] at hg
    have hg : Sum.inr (flatE es ++ tail) = G := hg
    have hfl : (flatE es ++ tail).length = (rowsOf l).length - 1 := by rw [List.length_append, flatE_len]; exact hlen
    have edi : diaryR l = if (rowsOf l).getLast? ≠ some [] ∨ (flatE es ++ tail).length % 3 ≠ 0 then .inl ((flatE es ++ tail).length + 1) else .inr (ents (flatE es ++ tail)) := by
      unfold diaryR
      rw [hG, ← hg]
    rw [elast, hfl] at edi
    have em : (((rowsOf l).length : Nat) : Int) = (((rowsOf l).length - 1 + 1 : Nat) : Int) := by omega
    have bad : (lx ≠ [] ∨ ((rowsOf l).length - 1) % 3 ≠ 0) → Q (.int ((rowsOf l).length : Nat)) τ := fun z => by
      have : dueR l = .int (((rowsOf l).length - 1 + 1 : Nat) : Int) := by
        unfold dueR
        rw [edi, if_pos (z.imp (fun a b => a (Option.some.inj b)) id)]
      rw [em, ← this]
      exact q
    refine ⟨.str lx, by rw [KD.atI_last, List.getLast?_map, elast]; rfl, rfl, ?_⟩
    walk_at "kd1"
    by_cases hx : lx = []
    · rw [if_pos hx]
      by_cases h3 : ((rowsOf l).length - 1) % 3 = 0
      · rw [if_pos (by omega)]
        have ht : tail = [] := by
          rcases ht with h | ⟨a, _, h, _⟩ | ⟨a, k, x, _, h, _⟩
          · exact h
          · subst h; simp only [List.length_cons, List.length_nil] at hlen; omega
          · subst h; simp only [List.length_cons, List.length_nil] at hlen; omega
        subst ht
        have : dueR l = .lst (es.map dueD) := by
          unfold dueR
          rw [edi, if_neg (fun z => z.elim (fun a => a (by rw [hx])) (fun a => a h3)), ents_flat]
          show KD.D.lst ((es ++ []).map _) = _
          rw [List.append_nil]
          rfl
        rw [this] at q
        exact q
      · rw [if_neg (by omega)]
        exact bad (.inr h3)
    · rw [if_neg hx]
      exact bad (.inl hx)
end
end K66

namespace K66
open PySem PySem.Spec PyProof.Rows L2 KX KD KM M53
local macro_rules | `(tactic| walk_at "kd") => `(tactic| simp only [sSeq, sNext, sIf, sRet, sRetN, sSet, sDrop, sFor, sPar, sPar3, sAsg, sAug, sBrk, sCont, sRs, dVar, dC, dOp, dU, dB, dTru, dAnd, dOr, dNot, dNotV, dAndD, dOrD, dIf, dChain, dD, fz, dNil, dCons, dTup, dLst, dM1, dM0, dN, dApp, dPop, dExt, dIt, dRng1, dRng2, dRng3, dLc, dYes, dSl, dNo, dSome, dCall, dCallP, calm0, withD, stRV, wipeE, mergeE, gdN, gdNil, gdCons, gdTup, gdSub,
    oAdd, addOk, addD, oSub, oMul, oMod, oDiv, oInt2, oLt, oLe, oGt, oGe, oEq, oNe, oIx, ixD, szOk, lenD, oIn, oLen, oIsi, isiT, oAll, oAny, oSum, oStr, oInt, oAbs, oTuple, oList, oNeg, oIsN, oNotN, isN, oJoin, oSplit, oPart, isS, own,
    dstart, List.map_cons, List.map_nil, List.length_cons, List.length_nil, List.replicate, List.cons_append, List.nil_append, List.getElem?_cons_zero, List.getElem?_cons_succ, List.set_cons_zero, List.set_cons_succ, List.append_nil,
    if_true, if_false, Bool.false_eq_true, Bool.not_true, Bool.not_false, truD, reduceIte, reduceCtorEq, exists_eq_left', Option.some.injEq, Nat.reduceAdd, Nat.reduceSub, Int.reduceAdd, Int.reduceSub, Bool.not_eq_true', ite_self, beq_self_eq_true, String.reduceBEq, Bool.bne_true, Bool.bne_false, oIsC, isiC, oFld, dMake, oEqO, sTry, sTryA, dStrX, dListZip, oRepL, oNeRows, oStrS, dat, dats, dep, deps, eqD_str, eqD_int, eqD_bl, eqD_non, cutL_to2, cutL_from2, cutL_to1, cutL_from1, Nat.min_self, Nat.zero_le, Nat.min_zero, Nat.zero_min, Nat.max_self, true_and, and_true, Bool.and_self, Bool.true_and, Bool.and_true, decide_eq_true_eq, decide_eq_false_iff_not, implies_true, and_self, Bool.or_self, Bool.or_false, Bool.false_or, List.length_map, rangeD_len, rangeDC_len, atI_c0, atI_c1, atI_c2, atI_c3, Option.map_some, Option.map_none, Int.reduceEq, Int.reduceLT, Int.reduceLE, lk_kind, lk_text, lk_data])
local macro_rules | `(tactic| walk_at "kd1") => `(tactic| simp only [sSeq_hold, sNext, sIf, sRet, sRetN, sSet, sDrop, sFor, sPar, sPar3, sAsg, sAug, sBrk, sCont, sRs, dVar, dC, dOp, dU, dB, dTru, dAnd, dOr, dNot, dNotV, dAndD, dOrD, dIf, dChain, dD, fz, dNil, dCons, dTup, dLst, dM1, dM0, dN, dApp, dPop, dExt, dIt, dRng1, dRng2, dRng3, dLc, dYes, dSl, dNo, dSome, dCall, dCallP, calm0, withD, stRV, wipeE, mergeE, gdN, gdNil, gdCons, gdTup, gdSub,
    oAdd, addOk, addD, oSub, oMul, oMod, oDiv, oInt2, oLt, oLe, oGt, oGe, oEq, oNe, oIx, ixD, szOk, lenD, oIn, oLen, oIsi, isiT, oAll, oAny, oSum, oStr, oInt, oAbs, oTuple, oList, oNeg, oIsN, oNotN, isN, oJoin, oSplit, oPart, isS, own,
    dstart, List.map_cons, List.map_nil, List.length_cons, List.length_nil, List.replicate, List.cons_append, List.nil_append, List.getElem?_cons_zero, List.getElem?_cons_succ, List.set_cons_zero, List.set_cons_succ, List.append_nil,
    if_true, if_false, Bool.false_eq_true, Bool.not_true, Bool.not_false, truD, reduceIte, reduceCtorEq, exists_eq_left', Option.some.injEq, Nat.reduceAdd, Nat.reduceSub, Int.reduceAdd, Int.reduceSub, Bool.not_eq_true', ite_self, beq_self_eq_true, String.reduceBEq, Bool.bne_true, Bool.bne_false, oIsC, isiC, oFld, dMake, oEqO, sTry, sTryA, dStrX, dListZip, oRepL, oNeRows, oStrS, dat, dats, dep, deps, eqD_str, eqD_int, eqD_bl, eqD_non, cutL_to2, cutL_from2, cutL_to1, cutL_from1, Nat.min_self, Nat.zero_le, Nat.min_zero, Nat.zero_min, Nat.max_self, true_and, and_true, Bool.and_self, Bool.true_and, Bool.and_true, decide_eq_true_eq, decide_eq_false_iff_not, implies_true, and_self, Bool.or_self, Bool.or_false, Bool.false_or, List.length_map, rangeD_len, rangeDC_len, atI_c0, atI_c1, atI_c2, atI_c3, Option.map_some, Option.map_none, Int.reduceEq, Int.reduceLT, Int.reduceLE, lk_kind, lk_text, lk_data])
local macro_rules | `(tactic| walk_at "kdh") => `(tactic| (unfold hold; walk_at "kd1"))

def atomsD : List D := [.str [97], .str [120, 57], .int 0, .int (-5), .int 1000]
/-- what is drawn -/
def gdata : Nat → D → Prop
  | 0, d => d ∈ atomsD
  | k + 1, d => d ∈ atomsD ∨ ∃ ds, d = .tup ds ∧ ds.length ≤ 2 ∧ ∀ e ∈ ds, gdata k e
def costD : Nat → Nat
  | 0 => 1
  | k + 1 => 2 + 2 * costD k
def sp_data (n : Nat) : SpD Dr := fun ds τ Q _ => ∃ k : Nat, k < n ∧ ds = [.fn τ.r, .int (k : Nat)] ∧ τ.n + costD k ≤ 1000000 ∧ ∀ d j, gdata k d → j ≤ costD k → Q d (τ.up j)
theorem atoms_get {k : Nat} (h : k < 5) : ∃ d, atomsD[k]? = some d ∧ d ∈ atomsD := by
  have : k < atomsD.length := h
  exact ⟨_, List.getElem?_eq_getElem this, List.getElem_mem this⟩
theorem gdata_atom {k : Nat} {d : D} (h : d ∈ atomsD) : gdata k d := by
  cases k with
  | zero => exact h
  | succ k => exact .inl h
theorem up_up (τ : Dr) (a b : Nat) : (τ.up a).up b = τ.up (a + b) := by unfold Dr.up; simp only [Nat.add_assoc]
section
variable {P : Program} {w : World} {K : PySem.W.Frag} {mg : Str → Option Value} {base : Heap} {CM CR : Addr}
theorem ok_data {f f1 : Addr} {fd fd1 : FuncData} (D__law_data : DefAt K mg "_law_data" s__law_data f fd ["draw", "deep"]) (T : TD K mg CM CR)
    (D__law_take : DefAt K mg "_law_take" s__law_take f1 fd1 ["draw", "many"]) (G__law_take : FnOk P w K mg base CX0 1 f1 fd1 ["draw", "many"] (spD K DWd (calm0 sp_take))) :
    ∀ n, FnOk P w K mg base CX0 (n + 1) f fd ["draw", "deep"] (spD K DWd (calm0 (sp_data n)))
  | 0 => ⟨fun vs H Q E h => by obtain ⟨_, _, _, _, _, _, _, _, _, ⟨k, hk, _⟩, _⟩ := h; omega, fun A outer s H args us vs Q E hr he hb hv h => by obtain ⟨_, _, _, _, _, _, _, _, _, ⟨k, hk, _⟩, _⟩ := h; omega⟩
  | n + 1 => by
    have G__law_data := ok_data D__law_data T D__law_take G__law_take n
    refine okD0 D__law_data.fn sc__law_data (fun ds τ Q E h => by obtain ⟨k, _, rfl, _⟩ := h; rfl) fun cdv A outer s H E hr => ?_
    have hu := u160 hr
    refine ⟨_, (sd_cons (sd_if (PW.pt (wd_and (td_cmp k_gt c_gt (ed_var (pv 1)) ed_int (nomark _)) (wd_and1 (td_cmp (or_eq (K := K) hu) c_eq (ed_call0 (pe_call G__law_take (hr.mono (by omega)) rfl D__law_take.g D__law_take.kp D__law_take.b .nil pass0 (ad_cons (ped_fz (ed_var (pv 0))) (ad_cons (ped_fz ed_int) ad_nil)))) ed_int (nomark _))))) (sd_one (sd_ret (ped_fz (ed_b1 (pe_callTy (w_tuple (K := K)) rfl T.b_tuple bb_tuple (pa_cons (ed_lc (own := [("turn", 2)]) go_name (gw_name (by decide)) tt_yes rfl sc__law_data.nd (id_rng1 (pi_range1 rfl T.b_range (ad_cons (ped_fz (ed_call0 (pe_call G__law_take (hr.mono (by omega)) rfl D__law_take.g D__law_take.kp D__law_take.b .nil pass0 (ad_cons (ped_fz (ed_var (pv 0))) (ad_cons (ped_fz ed_int) ad_nil))))) ad_nil))) (blkOk_by (N := n__law_data) (sc := defScope s__law_data) (by decide +kernel)) (fun _ _ _ _ _ => (pg_name (i := 2) sc__law_data.nd rfl (Or.inl rfl))) (fun _ _ _ _ _ => pts_nil) (fun _ _ _ _ _ => (ped_fz (ed_call0 (pe_call G__law_data (hr.mono (by omega)) rfl D__law_data.g D__law_data.kp D__law_data.b .nil pass0 (ad_cons (ped_fz (ed_var (pv 0))) (ad_cons (ped_fz (ed_bin op_sub c_sub (ed_var (pv 1)) ed_int)) ad_nil))))))) pa_nil)) c_tuple)))) sd_nil)
      (sd_one (sd_ret (ped_fz (ed_ix (w_ix (K := K)) c_ix (ed_lst (ad_cons (ped_fz (ed_str lit_20)) (ad_cons (ped_fz (ed_str lit_21)) (ad_cons (ped_fz ed_int) (ad_cons (ped_fz (ed_un un_neg c_neg ed_int)) (ad_cons (ped_fz ed_int) ad_nil)))))) (ed_call0 (pe_call G__law_take (hr.mono (by omega)) rfl D__law_take.g D__law_take.kp D__law_take.b .nil pass0 (ad_cons (ped_fz (ed_var (pv 0))) (ad_cons (ped_fz ed_int) ad_nil)))) (fun _ _ => rfl)))))), ?_⟩
    have hz := sizeLine_eq
    rintro ds τ Q ⟨k, hk, rfl, hn, q⟩
    have atom : ∀ j, τ.n + j ≤ 1000000 → (∀ d, d ∈ atomsD → Q d (τ.up (j + 1))) → sp_take [.fn τ.r, .int 5] (τ.up j) (fun d τ2 => ∃ x, ixD (.lst atomsD) d = some x ∧ Q x τ2) (fun _ _ => False) := fun j hj hq =>
      ⟨5, rfl, by decide, by decide, hj, fun i hi => by
        obtain ⟨d, hd, hm⟩ := atoms_get hi
        exact ⟨d, by show atI atomsD (i : Nat) = _; rw [KD.atI_nat]; exact hd, by rw [up_up]; exact hq d hm⟩⟩
    walk_at "kd1"
    by_cases h0 : 0 < k
    · obtain ⟨k, rfl⟩ : ∃ m, k = m + 1 := ⟨k - 1, by omega⟩
      have hc : costD (k + 1) = 2 + 2 * costD k := rfl
      rw [if_pos (by omega)]
      refine ⟨2, rfl, by decide, by decide, by omega, fun i hi => ⟨rfl, ?_⟩⟩
      by_cases hi0 : i = 0
      · subst hi0
        rw [if_pos (show eqD (.int ((0 : Nat) : Int)) (.int 0) = true from rfl)]
        refine ⟨3, rfl, by decide, by decide, by show τ.n + 1 ≤ 1000000; omega, fun m hm => ?_⟩
        walk_at "kd1"
        refine ⟨by omega, by omega, ?_⟩
        have em : ((m : Nat) : Int).toNat = m := by omega
        rw [em, up_up]
        refine lc_list (fun i acc ρ τ' => acc.length = i ∧ (∀ e ∈ acc, gdata k e) ∧ ρ = [some (Sl.d (.fn τ.r)), some (Sl.d (.int ((k + 1 : Nat) : Int))), none] ∧ ∃ j, j ≤ 2 + i * costD k ∧ τ' = τ.up j) ⟨rfl, fun e he => by simp at he, rfl, 2, by omega, rfl⟩ ?_ ?_
        · rintro i x F acc ρ τ' hx ⟨rfl, ha, rfl, j, hj, rfl⟩ hF
          obtain ⟨hi, rfl⟩ := rangeD_get hx
          have hjc : acc.length * costD k ≤ 1 * costD k := Nat.mul_le_mul_right _ (by omega)
          walk_at "kd1"
          have ek : (((k + 1 : Nat) : Int) - 1) = ((k : Nat) : Int) := by omega
          rw [ek]
          refine ⟨k, by omega, rfl, by show τ.n + j + costD k ≤ 1000000; omega, fun d j2 hd hj2 => ?_⟩
          rw [up_up]
          refine hF _ _ _ ⟨by simp, fun e he => ?_, rfl, j + j2, ?_, rfl⟩
          · rcases List.mem_append.mp he with he | he
            · exact ha e he
            · rw [List.mem_singleton.mp he]; exact hd
          · rw [Nat.succ_mul]; omega
        · rintro acc ρ τ' ⟨hl, ha, rfl, j, hj, rfl⟩
          rw [rangeD_len] at hl hj
          have hjc : m * costD k ≤ 2 * costD k := Nat.mul_le_mul_right _ (by omega)
          exact q _ j (.inr ⟨acc, rfl, by omega, ha⟩) (by omega)
      · rw [if_neg (by rw [show eqD (.int ((i : Nat) : Int)) (.int 0) = decide (((i : Nat) : Int) = 0) from eqD_int _ _]; simpa using hi0)]
        walk_at "kdh"
        refine ⟨by omega, ?_⟩
        exact atom 1 (by omega) fun d hd => q d 2 (gdata_atom hd) (by omega)
    · rw [if_neg (by omega)]
      have : k = 0 := by omega
      subst this
      walk_at "kdh"
      refine ⟨by omega, ?_⟩
      have h0 : costD 0 = 1 := rfl
      exact atom 0 (by omega) fun d hd => q d 1 (gdata_atom hd) (by omega)
end
end K66

namespace M53
open PySem KX L2 TL NumText
/-! bounds -/
theorem comma_cons {t : T} {ts : List T} (h : ts ≠ []) : comma (t :: ts) = t ++ 44 :: comma ts := by
  cases ts with
  | nil => exact absurd rfl h
  | cons u ts => rfl
theorem count_tup (k : Nat) (ts : List T) : (91 :: (comma ts ++ [93])).count 91 = (comma ts).count 91 + 1 := by
  rw [List.count_cons, List.count_append]
  simp
mutual
theorem depth_le : ∀ (d : PyData) {k : Nat} {t : T}, wr k d = some t → d.depth ≤ t.count 91
  | .tuple ds, k, t, h => by
    obtain ⟨k', ts, rfl, h1, rfl⟩ := wr_tup h
    rw [count_tup k']
    simp only [PyData.depth]
    have := depths_le ds h1
    omega
  | .none, k, t, h => by simp only [PyData.depth]; omega
  | .bool _, k, t, h => by simp only [PyData.depth]; omega
  | .int _, k, t, h => by simp only [PyData.depth]; omega
  | .str _, k, t, h => by simp only [PyData.depth]; omega
  | .list _, k, t, h => by rw [wr_atom rfl] at h; cases h
  | .dict _, k, t, h => by rw [wr_atom rfl] at h; cases h
theorem depths_le : ∀ (ds : List PyData) {k : Nat} {ts : List T}, wrs k ds = some ts → PyData.depthAll ds ≤ (comma ts).count 91
  | [], k, ts, h => by simp only [PyData.depthAll]; omega
  | d :: ds, k, ts, h => by
    rw [wrs_cons] at h
    cases h1 : wr k d with
    | none => rw [h1] at h; cases h
    | some t =>
      cases h2 : wrs k ds with
      | none => rw [h1, h2] at h; cases h
      | some us =>
        rw [h1, h2] at h
        cases h
        have a := depth_le d h1
        have b := depths_le ds h2
        simp only [PyData.depthAll]
        by_cases z : us = []
        · subst z
          have e0 : comma ([] : List T) = [] := rfl
          rw [e0] at b
          simp only [List.count_nil] at b
          show _ ≤ t.count 91
          omega
        · show _ ≤ (comma (t :: us)).count 91
          rw [comma_cons z, List.count_append, List.count_cons]
          have : (if (44 == 91) = true then 1 else 0) = 0 := rfl
          omega
end
mutual
theorem wr_depth : ∀ (d : PyData) {k j : Nat} {t : T}, wr k d = some t → d.depth ≤ j → wr j d = some t
  | .tuple ds, k, j, t, h, hj => by
    obtain ⟨k', ts, rfl, h1, rfl⟩ := wr_tup h
    simp only [PyData.depth] at hj
    obtain ⟨j, rfl⟩ : ∃ j', j = j' + 1 := ⟨j - 1, by omega⟩
    rw [wr_succ, wrs_depth ds h1 (by omega)]
    rfl
  | .none, k, j, t, h, hj => wr_le rfl h j
  | .bool _, k, j, t, h, hj => wr_le rfl h j
  | .int _, k, j, t, h, hj => wr_le rfl h j
  | .str _, k, j, t, h, hj => wr_le rfl h j
  | .list _, k, j, t, h, hj => wr_le rfl h j
  | .dict _, k, j, t, h, hj => wr_le rfl h j
theorem wrs_depth : ∀ (ds : List PyData) {k j : Nat} {ts : List T}, wrs k ds = some ts → PyData.depthAll ds ≤ j → wrs j ds = some ts
  | [], k, j, ts, h, hj => by
    rw [wrs_nil] at h ⊢
    exact h
  | d :: ds, k, j, ts, h, hj => by
    rw [wrs_cons] at h
    simp only [PyData.depthAll] at hj
    cases h1 : wr k d with
    | none => rw [h1] at h; cases h
    | some t =>
      cases h2 : wrs k ds with
      | none => rw [h1, h2] at h; cases h
      | some us =>
        rw [h1, h2] at h
        cases h
        rw [wrs_cons, wr_depth d h1 (by omega), wrs_depth ds h2 (by omega)]
        rfl
end
theorem atom_len {d : PyData} {t : T} (h : atomT d = some t) : 1 ≤ t.length := by
  have := (atom_there h).2.1
  cases t with
  | nil => exact absurd rfl this
  | cons c r => simp
mutual
theorem sz_le : ∀ (d : PyData) {k : Nat} {t : T}, wr k d = some t → sz d ≤ 3 * t.length
  | .tuple ds, k, t, h => by
    obtain ⟨k', ts, rfl, h1, rfl⟩ := wr_tup h
    have := szs_le ds h1
    simp only [sz, List.length_cons, List.length_append, List.length_nil]
    omega
  | .none, k, t, h => by rw [wr_atom rfl] at h; cases h
  | .bool _, k, t, h => by rw [wr_atom rfl] at h; have := atom_len h; simp only [sz]; omega
  | .int _, k, t, h => by rw [wr_atom rfl] at h; have := atom_len h; simp only [sz]; omega
  | .str _, k, t, h => by rw [wr_atom rfl] at h; have := atom_len h; simp only [sz]; omega
  | .list _, k, t, h => by rw [wr_atom rfl] at h; cases h
  | .dict _, k, t, h => by rw [wr_atom rfl] at h; cases h
theorem szs_le : ∀ (ds : List PyData) {k : Nat} {ts : List T}, wrs k ds = some ts → szs ds ≤ 3 * (comma ts).length + 1
  | [], k, ts, h => by simp only [szs]; omega
  | d :: ds, k, ts, h => by
    rw [wrs_cons] at h
    cases h1 : wr k d with
    | none => rw [h1] at h; cases h
    | some t =>
      cases h2 : wrs k ds with
      | none => rw [h1, h2] at h; cases h
      | some us =>
        rw [h1, h2] at h
        cases h
        have a := sz_le d h1
        have b := szs_le ds h2
        simp only [szs]
        by_cases z : us = []
        · subst z
          have hl := wrs_len h2
          have : ds = [] := List.length_eq_zero_iff.mp hl.symm
          subst this
          simp only [szs]
          show _ ≤ 3 * t.length + 1
          omega
        · show _ ≤ 3 * (comma (t :: us)).length + 1
          rw [comma_cons z, List.length_append, List.length_cons]
          omega
end
end M53

namespace K66
open PySem KX L2 KD M53
/-! drawn data: plain facts -/
def Lb : Nat → Nat
  | 0 => 4
  | k + 1 => 3 + 2 * Lb k
def Bb : Nat → Nat
  | 0 => 0
  | k + 1 => 1 + 2 * Bb k
def Sb : Nat → Nat
  | 0 => 1
  | k + 1 => 4 + 2 * Sb k
structure Gd (k : Nat) (d : D) (t : T) : Prop where
  dt : dat d = true
  fl : flatD (py d) = true
  dp : dep d ≤ k
  so : strOk (py d) = true
  sz_ : sz (py d) ≤ Sb k
  un : unp (py d) = d
  wr_ : ∀ j, k ≤ j → wr j (py d) = some t
  ln : t.length ≤ Lb k
  nf : 10 ∉ t
  ct : t.count 91 ≤ Bb k
theorem Lb_le (k : Nat) : Lb k ≤ Lb (k + 1) := by show Lb k ≤ 3 + 2 * Lb k; omega
theorem Bb_le (k : Nat) : Bb k ≤ Bb (k + 1) := by show Bb k ≤ 1 + 2 * Bb k; omega
theorem Sb_le (k : Nat) : Sb k ≤ Sb (k + 1) := by show Sb k ≤ 4 + 2 * Sb k; omega
theorem Gd.up {k : Nat} {d : D} {t : T} (g : Gd k d t) : Gd (k + 1) d t := ⟨g.dt, g.fl, by have := g.dp; omega, g.so, Nat.le_trans g.sz_ (Sb_le k), g.un, fun j hj => g.wr_ j (by omega), Nat.le_trans g.ln (Lb_le k), g.nf, Nat.le_trans g.ct (Bb_le k)⟩
theorem gd_atom {d : D} (h : d ∈ atomsD) : ∃ t, Gd 0 d t := by
  have big := sizeLine_eq
  rcases List.mem_cons.mp h with rfl | h
  · refine ⟨[97], rfl, rfl, by decide, ?_, by decide, rfl, fun j _ => ?_, by decide, by decide, by decide⟩
    · show decide ((tx [97]).length ≤ sizeLine) = true
      rw [tx_len]; exact decide_eq_true (by simp only [List.length_cons, List.length_nil]; omega)
    · rw [wr_atom rfl]; decide +kernel
  rcases List.mem_cons.mp h with rfl | h
  · refine ⟨[120, 57], rfl, rfl, by decide, ?_, by decide, rfl, fun j _ => ?_, by decide, by decide, by decide⟩
    · show decide ((tx [120, 57]).length ≤ sizeLine) = true
      rw [tx_len]; exact decide_eq_true (by simp only [List.length_cons, List.length_nil]; omega)
    · rw [wr_atom rfl]; decide +kernel
  rcases List.mem_cons.mp h with rfl | h
  · exact ⟨[48], rfl, rfl, by decide, rfl, by decide, rfl, fun j _ => by rw [wr_atom rfl]; decide +kernel, by decide, by decide, by decide⟩
  rcases List.mem_cons.mp h with rfl | h
  · exact ⟨[45, 53], rfl, rfl, by decide, rfl, by decide, rfl, fun j _ => by rw [wr_atom rfl]; decide +kernel, by decide, by decide, by decide⟩
  rcases List.mem_cons.mp h with rfl | h
  · exact ⟨[49, 48, 48, 48], rfl, rfl, by decide, rfl, by decide, rfl, fun j _ => by rw [wr_atom rfl]; decide +kernel, by decide, by decide, by decide⟩
  · cases h
theorem gd_tup {k : Nat} {ds : List D} (hl : ds.length ≤ 2) (hg : ∀ d ∈ ds, ∃ t, Gd k d t) : ∃ t, Gd (k + 1) (.tup ds) t := by
  have wrt : ∀ {ts : List T} {ps : List PyData} {j : Nat}, k + 1 ≤ j → (∀ i, k ≤ i → wrs i ps = some ts) → wr j (.tuple ps) = some (91 :: (comma ts ++ [93])) := fun {ts ps j} hj h => by
    obtain ⟨i, rfl⟩ : ∃ i, j = i + 1 := ⟨j - 1, by omega⟩
    rw [wr_succ, h i (by omega)]
    rfl
  match ds, hl, hg with
  | [], _, _ =>
    refine ⟨91 :: (comma [] ++ [93]), rfl, rfl, by show 0 + 1 ≤ k + 1; omega, rfl, by show sz (.tuple []) ≤ 4 + 2 * Sb k; simp only [sz, szs]; omega, rfl, fun j hj => wrt hj fun i _ => wrs_nil i, ?_, by decide, ?_⟩
    · show 2 ≤ 3 + 2 * Lb k; omega
    · show 1 ≤ 1 + 2 * Bb k; omega
  | [a], _, hg =>
    obtain ⟨t, g⟩ := hg a (by simp)
    have h1 := g.sz_
    have h2 := g.dp
    have h3 := g.ln
    have h4 := g.ct
    refine ⟨91 :: (comma [t] ++ [93]), ?_, ?_, ?_, ?_, ?_, ?_, fun j hj => wrt hj fun i hi => ?_, ?_, ?_, ?_⟩
    · show (dat a && true) = true; rw [g.dt]; rfl
    · show flatDs [py a] = true; simp only [flatDs, g.fl, Bool.and_self]
    · show max (dep a) 0 + 1 ≤ k + 1; omega
    · show strOks [py a] = true; simp only [strOks, g.so, Bool.and_self]
    · show sz (.tuple [py a]) ≤ 4 + 2 * Sb k; simp only [sz, szs]; omega
    · show D.tup [unp (py a)] = _; rw [g.un]
    · show wrs i [py a] = some [t]; rw [wrs_cons, g.wr_ i hi, wrs_nil]; rfl
    · simp only [comma, List.length_cons, List.length_append, List.length_nil]; show t.length + 1 + 1 ≤ 3 + 2 * Lb k; omega
    · have := g.nf
      simp only [comma, List.mem_cons, List.mem_append, List.not_mem_nil, not_or]
      exact ⟨by decide, this, by decide, fun z => z⟩
    · simp only [comma, List.count_cons, List.count_append, List.count_nil]
      show (t.count 91 + 0) + 1 ≤ 1 + 2 * Bb k
      omega
  | [a, b], _, hg =>
    obtain ⟨t, g⟩ := hg a (by simp)
    obtain ⟨u, g'⟩ := hg b (by simp)
    have h1 := g.sz_
    have h2 := g.dp
    have h3 := g.ln
    have h4 := g.ct
    have h1' := g'.sz_
    have h2' := g'.dp
    have h3' := g'.ln
    have h4' := g'.ct
    refine ⟨91 :: (comma [t, u] ++ [93]), ?_, ?_, ?_, ?_, ?_, ?_, fun j hj => wrt hj fun i hi => ?_, ?_, ?_, ?_⟩
    · show (dat a && (dat b && true)) = true; rw [g.dt, g'.dt]; rfl
    · show flatDs [py a, py b] = true; simp only [flatDs, g.fl, g'.fl, Bool.and_self]
    · show max (dep a) (max (dep b) 0) + 1 ≤ k + 1; omega
    · show strOks [py a, py b] = true; simp only [strOks, g.so, g'.so, Bool.and_self]
    · show sz (.tuple [py a, py b]) ≤ 4 + 2 * Sb k; simp only [sz, szs]; omega
    · show D.tup [unp (py a), unp (py b)] = _; rw [g.un, g'.un]
    · show wrs i [py a, py b] = some [t, u]; rw [wrs_cons, g.wr_ i hi, wrs_cons, g'.wr_ i hi, wrs_nil]; rfl
    · simp only [comma, List.length_cons, List.length_append, List.length_nil]; show t.length + (u.length + 1) + 1 + 1 ≤ 3 + 2 * Lb k; omega
    · have := g.nf
      have := g'.nf
      simp only [comma, List.mem_cons, List.mem_append, List.not_mem_nil, not_or]
      exact ⟨by decide, ⟨g.nf, by decide, g'.nf⟩, by decide, fun z => z⟩
    · simp only [comma, List.count_cons, List.count_append, List.count_nil]
      show (t.count 91 + (u.count 91 + 0) + 0) + 1 ≤ 1 + 2 * Bb k
      omega
theorem gd_of : ∀ (k : Nat) {d : D}, gdata k d → ∃ t, Gd k d t
  | 0, d, h => gd_atom h
  | k + 1, d, h => by
    have at0 : ∀ k {d : D}, d ∈ atomsD → ∃ t, Gd k d t := fun k => by
      induction k with
      | zero => exact fun h => gd_atom h
      | succ k ih => exact fun h => let ⟨t, g⟩ := ih h; ⟨t, g.up⟩
    rcases h with h | ⟨ds, rfl, hl, hg⟩
    · exact at0 _ h
    · exact gd_tup hl fun d hd => gd_of k (hg d hd)
end K66

namespace K66
open PySem KX L2 KD M53
/-! texts of entries, read back -/
theorem rows_step {p rest : T} (h : 10 ∉ p) : rowsOf (p ++ 10 :: rest) = p :: rowsOf rest := by
  have := TL.spl_part1 (s := 10) (S := []) (p := p) (rest := rest) (acc := []) h
  simpa [rowsOf] using this
theorem rows_nil : rowsOf [] = [[]] := by unfold rowsOf; rw [TL.spl_nil]
/-- an entry as it was drawn -/
structure Ge (e : En) (t : T) : Prop where
  ex : ∃ l ds, e.line = .str l ∧ e.data = .tup ds ∧ 10 ∉ l ∧ l.length ≤ 6 ∧ l.count 91 = 0
  kw : isWord e.kind = true
  k10 : 10 ∉ e.kind
  k32 : 32 ∉ e.kind
  kl : e.kind.length ≤ 5
  kc : e.kind.count 91 = 0
  m10 : 10 ∉ e.more
  ml : e.more.length ≤ 4
  mc : e.more.count 91 = 0
  gd : Gd 4 e.data t
def textE (e : En) (t : T) : T := lineOf (strD e.line) e.kind e.more t
theorem textE_eq (e : En) (t : T) (rest : T) : textE e t ++ rest = ([62, 32] ++ strD e.line) ++ 10 :: (([61, 32] ++ (e.kind ++ [32] ++ e.more)) ++ 10 :: (([35, 32] ++ t) ++ 10 :: rest)) := by
  unfold textE lineOf
  simp
theorem rows_entry {e : En} {t : T} (g : Ge e t) (rest : T) : rowsOf (textE e t ++ rest) = ([62, 32] ++ strD e.line) :: ([61, 32] ++ (e.kind ++ [32] ++ e.more)) :: ([35, 32] ++ t) :: rowsOf rest := by
  obtain ⟨l, ds, e1, e2, h10, _, _⟩ := g.ex
  have n1 : 10 ∉ ([62, 32] ++ strD e.line : T) := by rw [e1]; simp [strD, h10]
  have n2 : 10 ∉ ([61, 32] ++ (e.kind ++ [32] ++ e.more) : T) := by simp [g.k10, g.m10]
  have n3 : 10 ∉ ([35, 32] ++ t : T) := by simp [g.gd.nf]
  rw [textE_eq, rows_step n1, rows_step n2, rows_step n3]
theorem par_blank : ∀ {k x cur : T}, 32 ∉ k → TL.par [32] cur (k ++ 32 :: x) = some (cur ++ k, x)
  | [], x, cur, _ => by
    show TL.par [32] cur (32 :: x) = _
    unfold TL.par
    rw [if_pos (by rfl)]
    simp
  | c :: k, x, cur, h => by
    have hc : c ≠ 32 := fun z => h (by simp [z])
    have hk : 32 ∉ k := fun z => h (by simp [z])
    show TL.par [32] cur (c :: (k ++ 32 :: x)) = _
    unfold TL.par
    rw [if_neg (by simp [TL.pre, hc]), par_blank hk]
    simp
theorem part0 {e : En} {t : T} (g : Ge e t) : partR 0 ([62, 32] ++ strD e.line) = some e.line := by
  obtain ⟨l, ds, e1, e2, _⟩ := g.ex
  unfold partR
  rw [if_neg (by simp [markOf]), if_pos rfl, e1]
  rfl
theorem part1 {e : En} {t : T} (g : Ge e t) : partR 1 ([61, 32] ++ (e.kind ++ [32] ++ e.more)) = some (.tup [.str e.kind, .str e.more]) := by
  unfold partR
  rw [if_neg (by simp [markOf]), if_neg (by decide), if_pos rfl]
  have : (([61, 32] ++ (e.kind ++ [32] ++ e.more) : T)).drop 2 = e.kind ++ 32 :: e.more := by simp
  rw [this]
  unfold kindOf
  rw [par_blank g.k32]
  simp only [List.nil_append, g.kw, if_true, Option.map_some]
theorem part2 {e : En} {t : T} (g : Ge e t) : partR 2 ([35, 32] ++ t) = some e.data := by
  obtain ⟨l, ds, e1, e2, _⟩ := g.ex
  unfold partR
  rw [if_neg (by simp [markOf]), if_neg (by decide), if_neg (by decide)]
  have : (([35, 32] ++ t : T)).drop 2 = t := by simp
  rw [this]
  have r := rd_of_wr (g.gd.wr_ 1000 (by decide))
  unfold tupOf
  have hun := g.gd.un
  rw [e2] at r hun ⊢
  have e3 : py (.tup ds) = .tuple (pys ds) := rfl
  rw [e3] at r hun
  rw [r]
  exact congrArg some hun
/-- the text of entries -/
def textOf : List (En × T) → T
  | [] => []
  | p :: ps => textE p.1 p.2 ++ textOf ps
theorem goR_text : ∀ (ps : List (En × T)) (i : Nat) (acc : List D), (∀ p ∈ ps, Ge p.1 p.2) → i % 3 = 0 → goR i (rowsOf (textOf ps)).dropLast acc = .inr (acc ++ flatE (ps.map (·.1)))
  | [], i, acc, _, _ => by
    show goR i (rowsOf []).dropLast acc = _
    rw [rows_nil]
    show Sum.inr acc = _
    simp [flatE]
  | p :: ps, i, acc, h, hi => by
    have g := h p (by simp)
    have ih := goR_text ps (i + 3) (acc ++ [p.1.line, .tup [.str p.1.kind, .str p.1.more], p.1.data]) (fun q hq => h q (by simp [hq])) (by omega)
    have hne : rowsOf (textOf ps) ≠ [] := spl_ne [10] _ 0 []
    show goR i (rowsOf (textE p.1 p.2 ++ textOf ps)).dropLast acc = _
    rw [rows_entry g, List.dropLast_cons_of_ne_nil (by simp), List.dropLast_cons_of_ne_nil (by simp), List.dropLast_cons_of_ne_nil hne]
    have i0 : ((i % 3 : Nat) : Int) = 0 := by omega
    have i1 : (((i + 1) % 3 : Nat) : Int) = 1 := by omega
    have i2 : (((i + 1 + 1) % 3 : Nat) : Int) = 2 := by omega
    rw [goR_cons, i0, part0 g]
    simp only
    rw [goR_cons, i1, part1 g]
    simp only
    rw [goR_cons, i2, part2 g]
    simp only
    have e3 : acc ++ [p.1.line] ++ [D.tup [.str p.1.kind, .str p.1.more]] ++ [p.1.data] = acc ++ [p.1.line, .tup [.str p.1.kind, .str p.1.more], p.1.data] := by simp
    rw [e3, show i + 1 + 1 + 1 = i + 3 from rfl, ih]
    simp [flatE]
theorem rows_last : ∀ ps : List (En × T), (∀ p ∈ ps, Ge p.1 p.2) → (rowsOf (textOf ps)).getLast? = some []
  | [], _ => by show (rowsOf []).getLast? = _; rw [rows_nil]; rfl
  | p :: ps, h => by
    have ih := rows_last ps fun q hq => h q (by simp [hq])
    have hne : rowsOf (textOf ps) ≠ [] := spl_ne [10] _ 0 []
    show (rowsOf (textE p.1 p.2 ++ textOf ps)).getLast? = _
    rw [rows_entry (h p (by simp))]
    rw [List.getLast?_cons_of_ne_nil (by simp), List.getLast?_cons_of_ne_nil (by simp), List.getLast?_cons_of_ne_nil hne]
    exact ih
theorem diary_text (ps : List (En × T)) (h : ∀ p ∈ ps, Ge p.1 p.2) : diaryR (textOf ps) = .inr (ps.map (·.1)) := by
  unfold diaryR
  rw [goR_text ps 0 [] h rfl]
  simp only [List.nil_append]
  rw [rows_last ps h, flatE_len]
  rw [if_neg (by simp)]
  have := ents_flat (ps.map (·.1)) []
  rw [List.append_nil] at this
  rw [this]
  simp [ents]
/-- what is written -/
theorem entW_ge {CR : Addr} {e : En} {t : T} (g : Ge e t) : entW (entD CR e) = some (textE e t) := by
  obtain ⟨l, ds, e1, e2, h10, _⟩ := g.ex
  have hn : noLf (.str l) = true := by simp [noLf, h10]
  unfold entD
  rw [e1, entW_pair, if_pos hn, repW_obj, if_pos (show wordE (.str e.kind) = true from g.kw), if_pos (by simp [noLf, g.m10]), e2, if_pos (show isTupE (.tup ds) = true from rfl)]
  have := g.gd.wr_ 1000 (by decide)
  rw [e2] at this
  rw [this]
  unfold textE
  rw [e1]
  rfl
theorem wrE_text {CR : Addr} : ∀ ps : List (En × T), (∀ p ∈ ps, Ge p.1 p.2) → wrE (ps.map fun p => entD CR p.1) = some (textOf ps)
  | [], _ => rfl
  | p :: ps, h => by
    show wrE (entD CR p.1 :: ps.map fun p => entD CR p.1) = _
    unfold wrE
    rw [entW_ge (h p (by simp)), wrE_text ps fun q hq => h q (by simp [hq])]
    rfl
theorem textE_len {e : En} {t : T} (g : Ge e t) : (textE e t).length ≤ 150 := by
  obtain ⟨l, ds, e1, e2, _, hl, _⟩ := g.ex
  have h1 := g.kl
  have h2 := g.ml
  have h3 : t.length ≤ 109 := g.gd.ln
  unfold textE lineOf
  rw [e1]
  simp only [strD, List.length_append, List.length_cons, List.length_nil]
  show 2 + l.length + 1 + (2 + e.kind.length + 1 + e.more.length + 1) + (2 + t.length + 1) ≤ 150
  omega
theorem textE_ct {e : En} {t : T} (g : Ge e t) : (textE e t).count 91 ≤ 15 := by
  obtain ⟨l, ds, e1, e2, _, _, hc⟩ := g.ex
  have h3 : t.count 91 ≤ 15 := g.gd.ct
  unfold textE lineOf
  rw [e1]
  simp only [strD, List.count_append, List.count_cons, List.count_nil, hc, g.kc, g.mc, Nat.reduceBEq, Bool.false_eq_true, if_false, Nat.add_zero, Nat.zero_add]
  exact h3
theorem textOf_len : ∀ ps : List (En × T), (∀ p ∈ ps, Ge p.1 p.2) → (textOf ps).length ≤ 150 * ps.length ∧ (textOf ps).count 91 ≤ 15 * ps.length
  | [], _ => ⟨Nat.le_refl _, Nat.le_refl _⟩
  | p :: ps, h => by
    have g := h p (by simp)
    have h1 := textE_len g
    have h2 := textE_ct g
    have h3 := textOf_len ps fun q hq => h q (by simp [hq])
    show (textE p.1 p.2 ++ textOf ps).length ≤ _ ∧ (textE p.1 p.2 ++ textOf ps).count 91 ≤ _
    rw [List.length_append, List.count_append, List.length_cons]
    omega
theorem ge_ok {e : En} {t : T} (g : Ge e t) : goodEn e ∧ (∀ CR, okE CR (entD CR e)) := by
  obtain ⟨l, ds, e1, e2, h10, hl, _⟩ := g.ex
  have s1 : sz (py e.data) ≤ 76 := g.gd.sz_
  have d1 := g.gd.dp
  have kl := g.kl
  have ml := g.ml
  have big := sizeLine_eq
  refine ⟨⟨⟨l, e1⟩, rfl, ⟨?_, ?_, ?_⟩, ?_⟩, fun CR => ?_⟩
  · show (true && (true && (dat e.data && true))) = true
    rw [g.gd.dt]; rfl
  · show flatDs [.str (tx e.kind), .str (tx e.more), py e.data] = true
    simp only [flatDs, flatD, g.gd.fl, Bool.and_self]
  · show max 0 (max 0 (max (dep e.data) 0)) + 1 ≤ 150
    omega
  · show sz (.tuple [.str (tx e.kind), .str (tx e.more), py e.data]) ≤ 1000000
    simp only [sz, szs]
    omega
  · unfold entD
    rw [e1]
    refine ⟨⟨rfl, rfl⟩, ⟨rfl, rfl, rfl, g.gd.dt⟩, ⟨?_, ?_, ?_⟩, g.gd.so, by omega, fun u hu => ?_⟩
    · show l.length ≤ 100000; omega
    · show e.kind.length ≤ 100000; omega
    · show e.more.length ≤ 100000; omega
    · have := g.gd.wr_ 1000 (by decide)
      rw [this] at hu
      cases hu
      have h3 : t.length ≤ 109 := g.gd.ln
      show t.length ≤ 100000
      omega
/-! any text: what is read is good -/
theorem spl_ct (S : T) : ∀ (l : T) (k : Nat) (acc x : T), x ∈ TL.spl S k acc l → x.count 91 ≤ acc.count 91 + l.count 91
  | [], k, acc, x, h => by rw [TL.spl_nil] at h; simp at h; subst h; simp
  | c :: l, 0, acc, x, h => by
    unfold TL.spl at h
    split at h
    · rcases List.mem_cons.mp h with rfl | h
      · omega
      · have := spl_ct S l (S.length - 1) [] x h
        simp only [List.count_cons, List.count_nil] at this ⊢
        omega
    · have := spl_ct S l 0 (acc ++ [c]) x h
      simp only [List.count_cons, List.count_append, List.count_nil] at this ⊢
      omega
  | c :: l, k + 1, acc, x, h => by
    unfold TL.spl at h
    have := spl_ct S l k acc x h
    simp only [List.count_cons]
    omega
theorem tup_good {row : T} {d : D} (h : tupOf row = some d) (hl : row.length ≤ 100000) (hc : row.count 91 ≤ 140) : dat d = true ∧ flatD (py d) = true ∧ dep d ≤ 140 ∧ sz (py d) ≤ 300000 := by
  unfold tupOf at h
  split at h
  · rename_i ds e
    cases h
    have hf := rd_flat e
    have hw := wr_of_rd e
    have e2 : D.tup (unps ds) = unp (.tuple ds) := rfl
    have hp : py (unp (.tuple ds)) = .tuple ds := py_unp _ hf
    rw [e2]
    refine ⟨dat_unp _, by rw [hp]; exact hf, ?_, ?_⟩
    · rw [← dep_py, hp]
      exact Nat.le_trans (depth_le _ hw) hc
    · rw [hp]
      have := sz_le _ hw
      have hl' : List.length row ≤ 100000 := hl
      omega
  · cases h
theorem diary_good {l : T} {es : List En} (h : diaryR l = .inr es) (hl : l.length ≤ 100000) (hc : l.count 91 ≤ 140) : (∀ e ∈ es, goodEn e) ∧ es.length ≤ 100000 := by
  have rl : (rowsOf l).length ≤ l.length + 1 := spl_len [10] l 0 []
  have rd' : (rowsOf l).dropLast.length = (rowsOf l).length - 1 := List.length_dropLast
  unfold diaryR at h
  split at h
  · cases h
  · rename_i ps e
    split at h
    · cases h
    · rename_i hn
      cases h
      have hps := goR_len _ _ _ _ e
      simp only [List.length_nil] at hps
      have hpr := goR_parts (rowsOf l).dropLast (rowsOf l).dropLast [] ps rfl (fun j d h => by simp at h) e
      have h3 : ps.length % 3 = 0 := by
        by_cases z : ps.length % 3 = 0
        · exact z
        · exact absurd (.inr z) hn
      obtain ⟨n1, n2⟩ := ents_get (rows := rowsOf l) (ps.length / 3) ps 0 (fun j d hj => let ⟨r, _, q⟩ := hpr.1 j d hj; ⟨r, q⟩) (by omega)
      refine ⟨fun en hen => ?_, by omega⟩
      obtain ⟨i, hi⟩ := List.getElem?_of_mem hen
      have hil : i < ps.length / 3 := by
        have := (List.getElem?_eq_some_iff.mp hi).1
        omega
      obtain ⟨a, k, x, d, q1, q2, q3, q4⟩ := n2 i hil
      rw [q4] at hi
      cases hi
      obtain ⟨r0, z0, p0⟩ := hpr.1 _ _ q1
      obtain ⟨r2, z2, p2⟩ := hpr.1 _ _ q3
      have i0 : ((3 * i % 3 : Nat) : Int) = 0 := by omega
      have i2 : (((3 * i + 2) % 3 : Nat) : Int) = 2 := by omega
      rw [i0] at p0
      rw [i2] at p2
      obtain ⟨r1, z1, p1⟩ := hpr.1 _ _ q2
      have mem : ∀ {j : Nat} {r : T}, (rowsOf l).dropLast[j]? = some r → r.length ≤ 100000 ∧ r.count 91 ≤ 140 := fun {j r} hj => by
        have hm : r ∈ rowsOf l := List.dropLast_subset _ (List.mem_of_getElem? hj)
        have g1 := spl_each [10] l 0 [] r hm
        have g2 := spl_ct [10] l 0 [] r hm
        simp only [List.length_nil, List.count_nil] at g1 g2
        omega
      have line : ∃ l, a = .str l := by
        unfold partR at p0
        split at p0
        · cases p0
        · rw [if_pos rfl] at p0
          cases p0
          exact ⟨_, rfl⟩
      have dg : dat d = true ∧ flatD (py d) = true ∧ dep d ≤ 140 ∧ sz (py d) ≤ 300000 := by
        unfold partR at p2
        split at p2
        · cases p2
        · rw [if_neg (by decide), if_neg (by decide)] at p2
          have m := mem z2
          refine tup_good p2 ?_ ?_
          · rw [List.length_drop]; omega
          · have := List.Sublist.count_le 91 (List.drop_sublist 2 r2)
            omega
      obtain ⟨g1, g2, g3, g4⟩ := dg
      refine ⟨line, rfl, ⟨?_, ?_, ?_⟩, ?_⟩
      · show (true && (true && (dat d && true))) = true
        rw [g1]; rfl
      · show flatDs [.str (tx k), .str (tx x), py d] = true
        simp only [flatDs, flatD, g2, Bool.and_self]
      · show max 0 (max 0 (max (dep d) 0)) + 1 ≤ 150
        omega
      · show sz (.tuple [.str (tx k), .str (tx x), py d]) ≤ 1000000
        simp only [sz, szs]
        omega
end K66

namespace K66
open PySem PySem.Spec PyProof.Rows L2 KX KD KM M53
def repD (CR : Addr) (k : T) : D := .obj CR nsR [.str k, .str [], .tup []]
def goodD (CR : Addr) : D := .tup [.str [], .obj CR nsR [.str [100, 111, 110, 101], .str [], .tup []]]
def badsA (CR : Addr) : List D := [.non, .tup [.str []], .lst [.str [], repD CR [97]], .tup [.non, repD CR [97]], .tup [.str [97, 10], repD CR [97]], .tup [.str [], .tup [.str [97], .str [], .tup []]], .tup [.str [], repD CR [65]]]
def badsB (CR : Addr) : List D := [.tup [.str [], .obj CR nsR [.str [97], .non, .tup []]], .tup [.str [], .obj CR nsR [.str [97], .str [10], .tup []]], .tup [.str [], .obj CR nsR [.str [97], .str [], .lst []]], .tup [.str [], .obj CR nsR [.str [97], .str [], .tup [.non]]]]
theorem wr_nil : ∀ t, wr 1000 (py (.tup [])) = some t → t.length ≤ 100000 := fun t h => by
  obtain ⟨u, g⟩ := gd_tup (k := 0) (ds := []) (by decide) (by simp)
  rw [g.wr_ 1000 (by decide)] at h
  have e := Option.some.inj h
  subst e
  have : List.length u ≤ 11 := g.ln
  show List.length u ≤ 100000
  omega
theorem wr_lst0 : wr 1000 (py (.lst [])) = none := by
  have : wr 1000 (.list []) = atomT (.list []) := wr_atom rfl
  exact this
theorem wr_tnon : wr 1000 (py (.tup [.non])) = none := by
  have e : py (.tup [.non]) = .tuple [.none] := rfl
  rw [e, show (1000 : Nat) = 999 + 1 from rfl, wr_succ, wrs_cons]
  have : wr 999 (.none) = atomT .none := wr_atom rfl
  rw [this]
  rfl
theorem okRep {CR : Addr} {a k x d : D} (ha : dat a = true) (hk : dat k = true) (hx : dat x = true) (hd : dat d = true) (sa : small a) (sk : small k) (sx : small x) (so : strOk (py d) = true) (sd : sz (py d) ≤ 1000000) (hw : ∀ t, wr 1000 (py d) = some t → t.length ≤ 100000) : okE CR (.tup [a, .obj CR nsR [k, x, d]]) := ⟨⟨rfl, rfl⟩, ⟨ha, hk, hx, hd⟩, ⟨sa, sk, sx⟩, so, sd, hw⟩
theorem sm {l : List Nat} (h : l.length ≤ 100000) : small (.str l) := h
theorem good_ok (CR : Addr) : okE CR (goodD CR) := okRep rfl rfl rfl rfl (sm (by decide)) (sm (by decide)) (sm (by decide)) rfl (by decide) wr_nil
theorem bad_ok {CR : Addr} {b : D} (h : b ∈ badsA CR ++ badsB CR) : okE CR b ∧ entW b = none := by
  simp only [badsA, badsB, List.cons_append, List.nil_append, List.mem_cons, List.not_mem_nil, or_false] at h
  rcases h with rfl | rfl | rfl | rfl | rfl | rfl | rfl | rfl | rfl | rfl | rfl
  · exact ⟨trivial, rfl⟩
  · exact ⟨trivial, rfl⟩
  · exact ⟨trivial, rfl⟩
  · exact ⟨okRep rfl rfl rfl rfl trivial (sm (by decide)) (sm (by decide)) rfl (by decide) wr_nil, rfl⟩
  · exact ⟨okRep rfl rfl rfl rfl (sm (by decide)) (sm (by decide)) (sm (by decide)) rfl (by decide) wr_nil, rfl⟩
  · exact ⟨⟨rfl, sm (by decide), rfl⟩, rfl⟩
  · exact ⟨okRep rfl rfl rfl rfl (sm (by decide)) (sm (by decide)) (sm (by decide)) rfl (by decide) wr_nil, rfl⟩
  · exact ⟨okRep rfl rfl rfl rfl (sm (by decide)) (sm (by decide)) trivial rfl (by decide) wr_nil, rfl⟩
  · exact ⟨okRep rfl rfl rfl rfl (sm (by decide)) (sm (by decide)) (sm (by decide)) rfl (by decide) wr_nil, rfl⟩
  · exact ⟨okRep rfl rfl rfl rfl (sm (by decide)) (sm (by decide)) (sm (by decide)) rfl (by decide) (fun t h => by rw [wr_lst0] at h; cases h), rfl⟩
  · refine ⟨okRep rfl rfl rfl rfl (sm (by decide)) (sm (by decide)) (sm (by decide)) rfl (by decide) (fun t h => by rw [wr_tnon] at h; cases h), ?_⟩
    rw [entW_pair, if_pos (by rfl), repW_obj, if_pos (by decide), if_pos (by rfl), if_pos (by rfl), wr_tnon]
    rfl
theorem told_bad {CR : Addr} {b : D} {Q : D → Unit → Prop} {E : Exn → Unit → Prop} (h : b ∈ badsA CR ++ badsB CR) (q : ∀ m, m.length ≤ 100 → Q (tells m) ()) : sp_told CR [.int 0, .lst [goodD CR, b]] () Q E := by
  obtain ⟨h1, h2⟩ := bad_ok h
  have hn : wrE [goodD CR, b] = none := wrE_none h2 (by simp)
  refine ⟨0, _, rfl, .inl ⟨rfl, _, rfl, .inr ⟨_, rfl, (show (2 : Nat) ≤ 10 by omega), fun e he => ?_, fun t ht => ?_, fun _ m hm _ => q m hm⟩⟩⟩
  · rcases List.mem_cons.mp he with rfl | he
    · exact good_ok CR
    · rw [List.mem_singleton.mp he]; exact h1
  · rw [hn] at ht; cases ht
theorem told_nolist {CR : Addr} {d : D} {Q : D → Unit → Prop} {E : Exn → Unit → Prop} (hd : dat d = true) (hn : ∀ es, d ≠ .lst es) (q : ∀ m, m.length ≤ 100 → Q (tells m) ()) : sp_told CR [.int 0, d] () Q E :=
  ⟨0, d, rfl, .inl ⟨rfl, d, rfl, .inl ⟨hd, hn, fun m hm _ => q m hm⟩⟩⟩
theorem told_notext {CR : Addr} {d : D} {Q : D → Unit → Prop} {E : Exn → Unit → Prop} (hd : dat d = true) (hn : ∀ l, d ≠ .str l) (q : Q (.str [60, 110, 111, 32, 116, 101, 120, 116, 62]) ()) : sp_told CR [.int 1, d] () Q E :=
  ⟨1, d, rfl, .inr ⟨by decide, d, rfl, hd, fun l e => absurd e (hn l), fun _ _ => q⟩⟩
end K66

namespace K66
open PySem PySem.Spec PyProof.Rows L2 KX KD KM M53
local macro_rules | `(tactic| walk_at "kx1") => `(tactic| first
  | (with_reducible refine q_seq ?_) | (with_reducible refine q_ifs ?_) | (with_reducible refine q_asg ?_) | (with_reducible refine q_gname ?_) | (with_reducible refine q_ret ?_)
  | (with_reducible refine q_drop ?_) | (with_reducible refine q_next ?_) | (with_reducible refine q_par ?_) | (with_reducible refine q_sfld ?_) | (with_reducible refine q_rs ?_) | (with_reducible refine q_gsub ?_) | (with_reducible refine q_retN ?_)
  | ((with_reducible show tVar _ _ _ _); (refine q_var rfl ?_)) | (with_reducible refine q_c ?_) | (with_reducible refine q_op ?_) | (with_reducible refine q_un ?_) | (with_reducible refine q_neg ?_) | (with_reducible refine q_cb ?_)
  | (with_reducible refine q_nil ?_) | (with_reducible refine q_cons ?_) | (with_reducible refine q_tup ?_) | (with_reducible refine q_lst ?_) | (with_reducible refine q_if ?_)
  | (with_reducible refine q_notT ?_) | (with_reducible refine q_call ?_) | (with_reducible refine q_callS ?_) | (with_reducible refine q_fld ?_)
  | (with_reducible refine q_bm ?_) | (with_reducible refine q_bm0 ?_) | (with_reducible refine q_sl ?_) | (with_reducible refine q_nopart ?_) | (with_reducible refine q_part ?_) | (with_reducible refine q_meth ?_) | (with_reducible refine q_make ?_)
  | (with_reducible refine q_test ?_) | (with_reducible refine q_tB ?_) | (with_reducible refine q_tru ?_) | (with_reducible refine q_not ?_)
  | (with_reducible refine q_blk ?_) | (with_reducible refine q_tv ?_) | (with_reducible refine q_addI ?_) | (with_reducible refine q_subI ?_) | (with_reducible refine q_eqI ?_) | (with_reducible refine q_neI ?_)
  | (with_reducible refine q_for ?_) | (with_reducible refine q_lc ?_) | (with_reducible refine q_iList ?_) | (with_reducible refine q_iTup ?_) | (with_reducible refine q_iStr ?_) | (with_reducible refine q_iRng1 ?_) | (with_reducible refine q_iRng2 ?_) | (with_reducible refine q_iRng3 ?_) | (with_reducible refine q_gcons ?_) | (with_reducible refine q_gnil ?_) | (with_reducible refine q_yes ?_) | (with_reducible refine q_ltI ?_) | (with_reducible refine q_iEnumS ?_) | (with_reducible refine q_pi ?_) | (with_reducible refine q_leI ?_) | (with_reducible refine q_gtI ?_) | (with_reducible refine q_geI ?_) | (with_reducible refine q_leT ?_) | (with_reducible refine q_intI ?_) | (with_reducible refine q_abs ?_) | (with_reducible refine q_eqT ?_) | (with_reducible refine q_neT ?_) | (with_reducible refine q_rsM ?_) | (with_reducible refine q_par3 ?_) | (with_reducible refine q_isN ?_) | (with_reducible refine q_notN ?_))
local macro_rules | `(tactic| walk_at "kx") => `(tactic| repeat walk_at "kx1")
local macro_rules | `(tactic| walk_at "kxs") => `(tactic| repeat (first | walk_at "kx1" | (with_reducible refine q_andT ?_) | (with_reducible refine q_orT ?_) | (with_reducible refine q_chain ?_) | (with_reducible refine q_and ?_) | (with_reducible refine q_or ?_)))
local macro_rules | `(tactic| walk_at "lits") => `(tactic| simp only [lit_0, lit_1, lit_2, lit_3, lit_4, lit_5, lit_6, lit_7, lit_8, lit_9, lit_10, lit_11, lit_12, lit_13, lit_14, lit_15, lit_16, lit_17, lit_18, lit_19, lit_20, lit_21, lit_22, lit_23, lit_24, lit_25, lit_26, lit_27, lit_28, lit_29, lit_30, lit_31, lit_32, lit_33, lit_34, lit_35, lit_36, lit_37, lit_38, lit_39, lit_40, lit_41])

local macro_rules | `(tactic| walk_at "kd") => `(tactic| simp only [sSeq, sNext, sIf, sRet, sRetN, sSet, sDrop, sFor, sPar, sPar3, sAsg, sAug, sBrk, sCont, sRs, dVar, dC, dOp, dU, dB, dTru, dAnd, dOr, dNot, dNotV, dAndD, dOrD, dIf, dChain, dD, fz, dNil, dCons, dTup, dLst, dM1, dM0, dN, dApp, dPop, dExt, dIt, dRng1, dRng2, dRng3, dLc, dYes, dSl, dNo, dSome, dCall, dCallP, calm0, withD, stRV, wipeE, mergeE, gdN, gdNil, gdCons, gdTup, gdSub,
    oAdd, addOk, addD, oSub, oMul, oMod, oDiv, oInt2, oLt, oLe, oGt, oGe, oEq, oNe, oIx, ixD, szOk, lenD, oIn, oLen, oIsi, isiT, oAll, oAny, oSum, oStr, oInt, oAbs, oTuple, oList, oNeg, oIsN, oNotN, isN, oJoin, oSplit, oPart, isS, own,
    dstart, List.map_cons, List.map_nil, List.length_cons, List.length_nil, List.replicate, List.cons_append, List.nil_append, List.getElem?_cons_zero, List.getElem?_cons_succ, List.set_cons_zero, List.set_cons_succ, List.append_nil,
    if_true, if_false, Bool.false_eq_true, Bool.not_true, Bool.not_false, truD, reduceIte, reduceCtorEq, exists_eq_left', Option.some.injEq, Nat.reduceAdd, Nat.reduceSub, Int.reduceAdd, Int.reduceSub, Bool.not_eq_true', ite_self, beq_self_eq_true, String.reduceBEq, Bool.bne_true, Bool.bne_false, oIsC, isiC, oFld, dMake, oEqO, sTry, sTryA, dStrX, dListZip, oRepL, oNeRows, oStrS, dat, dats, dep, deps, eqD_str, eqD_int, eqD_bl, eqD_non, cutL_to2, cutL_from2, cutL_to1, cutL_from1, Nat.min_self, Nat.zero_le, Nat.min_zero, Nat.zero_min, Nat.max_self, true_and, and_true, Bool.and_self, Bool.true_and, Bool.and_true, decide_eq_true_eq, decide_eq_false_iff_not, implies_true, and_self, Bool.or_self, Bool.or_false, Bool.false_or, List.length_map, rangeD_len, rangeDC_len, atI_c0, atI_c1, atI_c2, atI_c3, Option.map_some, Option.map_none, Int.reduceEq, Int.reduceLT, Int.reduceLE, lk_kind, lk_text, lk_data])
local macro_rules | `(tactic| walk_at "kd1") => `(tactic| simp only [sSeq_hold, sNext, sIf, sRet, sRetN, sSet, sDrop, sFor, sPar, sPar3, sAsg, sAug, sBrk, sCont, sRs, dVar, dC, dOp, dU, dB, dTru, dAnd, dOr, dNot, dNotV, dAndD, dOrD, dIf, dChain, dD, fz, dNil, dCons, dTup, dLst, dM1, dM0, dN, dApp, dPop, dExt, dIt, dRng1, dRng2, dRng3, dLc, dYes, dSl, dNo, dSome, dCall, dCallP, calm0, withD, stRV, wipeE, mergeE, gdN, gdNil, gdCons, gdTup, gdSub,
    oAdd, addOk, addD, oSub, oMul, oMod, oDiv, oInt2, oLt, oLe, oGt, oGe, oEq, oNe, oIx, ixD, szOk, lenD, oIn, oLen, oIsi, isiT, oAll, oAny, oSum, oStr, oInt, oAbs, oTuple, oList, oNeg, oIsN, oNotN, isN, oJoin, oSplit, oPart, isS, own,
    dstart, List.map_cons, List.map_nil, List.length_cons, List.length_nil, List.replicate, List.cons_append, List.nil_append, List.getElem?_cons_zero, List.getElem?_cons_succ, List.set_cons_zero, List.set_cons_succ, List.append_nil,
    if_true, if_false, Bool.false_eq_true, Bool.not_true, Bool.not_false, truD, reduceIte, reduceCtorEq, exists_eq_left', Option.some.injEq, Nat.reduceAdd, Nat.reduceSub, Int.reduceAdd, Int.reduceSub, Bool.not_eq_true', ite_self, beq_self_eq_true, String.reduceBEq, Bool.bne_true, Bool.bne_false, oIsC, isiC, oFld, dMake, oEqO, sTry, sTryA, dStrX, dListZip, oRepL, oNeRows, oStrS, dat, dats, dep, deps, eqD_str, eqD_int, eqD_bl, eqD_non, cutL_to2, cutL_from2, cutL_to1, cutL_from1, Nat.min_self, Nat.zero_le, Nat.min_zero, Nat.zero_min, Nat.max_self, true_and, and_true, Bool.and_self, Bool.true_and, Bool.and_true, decide_eq_true_eq, decide_eq_false_iff_not, implies_true, and_self, Bool.or_self, Bool.or_false, Bool.false_or, List.length_map, rangeD_len, rangeDC_len, atI_c0, atI_c1, atI_c2, atI_c3, Option.map_some, Option.map_none, Int.reduceEq, Int.reduceLT, Int.reduceLE, lk_kind, lk_text, lk_data])
local macro_rules | `(tactic| walk_at "kdh") => `(tactic| (unfold hold; walk_at "kd1"))

theorem law_start {K : PySem.W.Frag} {W : WX} {t : DS Dr} {σ : L2.St} {H1 : Hp} {r p : Addr} {v0 : V} {m : Nat} {Q : VK} (hd : Drw H1 r p 0) (hσ : σ = some v0 :: some (.ref r) :: List.replicate m none)
    (h : t (fun _ _ _ => False) { nx := fun _ _ => False, rt := fun d _ => d = .bl true } (none :: some (.d (.fn r)) :: List.replicate m none) ⟨r, p, 0⟩) (q : ∀ H', Q (.bl true) H') :
    toTS K W DWd t { nx := fun _ H' => Q .non H', rt := Q } σ H1 := by
  subst hσ
  refine ⟨⟨H1, fun x => x = r ∨ x = p, fun x => x = r ∨ x = p, fun _ h => h, fun a ha => ?_, Kp (fun x => x = r ∨ x = p) H1, fun _ _ => .trans⟩, _, _, _, _, ⟨⟨⟨.inl rfl, .inr rfl, hd⟩, fun _ _ _ h => h, fun _ h => h, .refl⟩, by simp, fun i s hs => ?_, fun i j b ne hi => ?_⟩, h, fun _ _ _ _ _ h => h.elim, fun σ' H' ρ' τ' r' => ⟨fun h => h.elim, fun h => h.elim, fun h => h.elim⟩, fun v H' d τ' e rr f => ?_⟩
  · rcases ha with rfl | rfl
    · obtain ⟨xs, e⟩ := hd.lst; rw [e]; simp
    · obtain ⟨xs, e⟩ := hd.lstp; rw [e]; simp
  · match i, hs with
    | 0, hs => cases hs
    | 1, hs => cases hs; exact ⟨.ref r, rfl, .fn r⟩
    | i + 2, hs =>
      have : (List.replicate m (none : Option Sl))[i]? = some (some s) := hs
      rw [List.getElem?_replicate] at this
      split at this <;> cases this
  · obtain ⟨ds, hs⟩ := hi
    match i, hs with
    | 0, hs => cases hs
    | 1, hs => cases hs
    | i + 2, hs =>
      have : (List.replicate m (none : Option Sl))[i]? = some (some (.own ds)) := hs
      rw [List.getElem?_replicate] at this
      split at this <;> cases this
  · have e : d = .bl true := e
    subst e
    cases f
    exact q H'
theorem take_ok {r : Addr} {m : Nat} {τ : Dr} {Q : D → Dr → Prop} {E : Exn → Dr → Prop} (hr : τ.r = r) (m0 : 0 < m) (m1 : m < 1073741824) (hn : τ.n ≤ 1000000) (q : ∀ k : Nat, k < m → Q (.int (k : Nat)) (τ.up 1)) : sp_take [.fn r, .int (m : Nat)] τ Q E :=
  ⟨m, by rw [hr], m0, m1, hn, q⟩
theorem textOf_snoc : ∀ (ps : List (En × T)) (p : En × T), textOf (ps ++ [p]) = textOf ps ++ textE p.1 p.2
  | [], p => by show textE p.1 p.2 ++ [] = _; rw [List.append_nil]; rfl
  | a :: ps, p => by
    show textE a.1 a.2 ++ textOf (ps ++ [p]) = (textE a.1 a.2 ++ textOf ps) ++ _
    rw [textOf_snoc ps p, List.append_assoc]
def linesL : List D := [.str [], .str [114, 101, 99, 107, 111, 110], .str [35, 32, 97], .str [62, 32, 120]]
def kindsL : List D := [.str [97], .str [101, 114, 114, 111, 114], .str [120, 57]]
def moresL : List D := [.str [], .str [110, 111], .str [32, 49, 32, 50]]
theorem three_get {α : Type} {xs : List α} {k n : Nat} (hn : xs.length = n) (h : k < n) : ∃ d, xs[k]? = some d ∧ d ∈ xs := by
  have : k < xs.length := by omega
  exact ⟨_, List.getElem?_eq_getElem this, List.getElem_mem this⟩
theorem ge_made {a b c : D} {ds : List D} (ha : a ∈ linesL) (hb : b ∈ kindsL) (hc : c ∈ moresL) (hl : ds.length ≤ 2) (hg : ∀ d ∈ ds, gdata 3 d) : ∃ l k x t, a = .str l ∧ b = .str k ∧ c = .str x ∧ Ge ⟨.str l, k, x, .tup ds⟩ t := by
  obtain ⟨t, g⟩ := gd_tup hl fun d hd => gd_of 3 (hg d hd)
  have h1 : ∃ l, a = .str l ∧ 10 ∉ l ∧ l.length ≤ 6 ∧ l.count 91 = 0 := by
    simp only [linesL, List.mem_cons, List.not_mem_nil, or_false] at ha
    rcases ha with rfl | rfl | rfl | rfl <;> exact ⟨_, rfl, by decide, by decide, by decide⟩
  have h2 : ∃ k, b = .str k ∧ isWord k = true ∧ 10 ∉ k ∧ 32 ∉ k ∧ k.length ≤ 5 ∧ k.count 91 = 0 := by
    simp only [kindsL, List.mem_cons, List.not_mem_nil, or_false] at hb
    rcases hb with rfl | rfl | rfl <;> exact ⟨_, rfl, by decide, by decide, by decide, by decide, by decide⟩
  have h3 : ∃ x, c = .str x ∧ 10 ∉ x ∧ x.length ≤ 4 ∧ x.count 91 = 0 := by
    simp only [moresL, List.mem_cons, List.not_mem_nil, or_false] at hc
    rcases hc with rfl | rfl | rfl <;> exact ⟨_, rfl, by decide, by decide, by decide⟩
  obtain ⟨l, rfl, l1, l2, l3⟩ := h1
  obtain ⟨k, rfl, k1, k2, k3, k4, k5⟩ := h2
  obtain ⟨x, rfl, x1, x2, x3⟩ := h3
  exact ⟨l, k, x, t, rfl, rfl, rfl, ⟨⟨l, ds, rfl, rfl, l1, l2, l3⟩, k1, k2, k3, k4, k5, x1, x2, x3, g⟩⟩
def signsL : List D := [.str [120], .str [10], .str [32], .str [62], .str [61], .str [35], .str [91], .str [65]]
theorem signs_one {d : D} (h : d ∈ signsL) : ∃ c, d = .str [c] := by
  simp only [signsL, List.mem_cons, List.not_mem_nil, or_false] at h
  rcases h with rfl | rfl | rfl | rfl | rfl | rfl | rfl | rfl <;> exact ⟨_, rfl⟩
theorem dcons_ev {S : Type} {t : DF S} {u : DA S} {xc : DX S} {ρ : KD.Env} {τ : S} {d : D} {Q : List D → KD.Env → S → Prop} (h : ∀ Q' : D → KD.Env → S → Prop, Q' d ρ τ → t xc ρ τ Q') (q : u xc ρ τ fun ds ρ1 τ1 => Q (d :: ds) ρ1 τ1) : dCons t u xc ρ τ Q := h _ q
theorem for_lst {S : Type} {u : DA S} {g : DG S} {tb : DS S} {xc : DX S} {D : DEnds S} {ρ : KD.Env} {τ : S} (h : u xc ρ τ fun ds ρ1 τ1 => ds.length ≤ sizeLine ∧ fD g tb xc D ds ρ1 τ1) : sFor (dIt (fz (dLst u))) g tb xc D ρ τ := h
theorem set_lst {S : Type} {u : DA S} {i : Nat} {xc : DX S} {D : DEnds S} {ρ : KD.Env} {τ : S} (h : u xc ρ τ fun ds ρ1 τ1 => ds.length ≤ sizeLine ∧ D.nx (ρ1.set i (some (.own ds))) τ1) : sSet i (dLst u) xc D ρ τ := h
/-- what is read of a text -/
def readT (CR : Addr) (l : T) : D := match diaryR l with
  | .inl n => tells (rowText n)
  | .inr es => .lst (es.map (entD CR))
theorem told_read {CR : Addr} {l : T} {Q : D → Unit → Prop} {E : Exn → Unit → Prop} (hl : l.length ≤ 100000) (q : Q (readT CR l) ()) : sp_told CR [.int 1, .str l] () Q E := by
  refine ⟨1, .str l, rfl, .inr ⟨by decide, .str l, rfl, rfl, fun l' e => ?_, fun h => absurd rfl (h l)⟩⟩
  cases e
  refine ⟨hl, fun es he => ?_, fun n hn _ => ?_⟩
  · unfold readT at q; rw [he] at q; exact q
  · unfold readT at q; rw [hn] at q; exact q
theorem due_ok {l : T} {Q : D → Unit → Prop} {E : Exn → Unit → Prop} (hl : l.length ≤ 100000) (q : Q (dueR l) ()) : sp_due [.str l] () Q E := ⟨l, rfl, hl, q⟩
theorem fits_ok {CR : Addr} {l : T} {Q : D → Unit → Prop} {E : Exn → Unit → Prop} (hl : l.length ≤ 100000) (hc : l.count 91 ≤ 140) (q : ∀ b, b = true → Q (.bl b) ()) : sp_fits CR [readT CR l, dueR l] () Q E := by
  refine ⟨q, ?_⟩
  cases h : diaryR l with
  | inl n =>
    have := diaryR_le h
    have hl' : List.length l ≤ 100000 := hl
    refine .inl ⟨n, by omega, ?_⟩
    unfold readT dueR
    rw [h]
  | inr es =>
    obtain ⟨g1, g2⟩ := diary_good h hl hc
    refine .inr ⟨es, g2, g1, ?_⟩
    unfold readT dueR
    rw [h]
    rfl
theorem told_write {CR : Addr} {ps : List (En × T)} {Q : D → Unit → Prop} {E : Exn → Unit → Prop} (h : ∀ p ∈ ps, Ge p.1 p.2) (hl : ps.length ≤ 10) (q : Q (.str (textOf ps)) ()) : sp_told CR [.int 0, .lst (ps.map fun p => entD CR p.1)] () Q E := by
  refine ⟨0, _, rfl, .inl ⟨rfl, _, rfl, .inr ⟨_, rfl, by rw [List.length_map]; exact hl, fun e he => ?_, fun t ht => ?_, fun hn => ?_⟩⟩⟩
  · obtain ⟨p, hp, rfl⟩ := List.mem_map.mp he
    exact (ge_ok (h p hp)).2 CR
  · rw [wrE_text ps h] at ht
    cases ht
    exact q
  · rw [wrE_text ps h] at hn
    cases hn
section
variable {P : Program} {w : World} {K : PySem.W.Frag} {mg : Str → Option Value} {base : Heap} {CM CR fe : Addr} {fde : FuncData}
def spLaw (K : PySem.W.Frag) : Sp := fun vs H Q _ => ∃ (a : Addr) (ns : List Int), vs = [.ref a] ∧ SqL K H a (ns.map V.int) ∧ ns.length ≤ 63 ∧ ∀ H', Q (.bl true) H'
theorem run_law {f f1 f2 f3 f4 f5 f6 f7 f8 T0 : Addr} {fd fd1 fd2 fd3 fd4 fd5 fd6 fd7 fd8 : FuncData} {d1 d2 : List Value} (F : Fun K "law" "law" s_law f fd) (T : TE66 K mg CM CR fe fde) (nd : base.NoDigits)
    (D__law_draw : DefAt K mg "_law_draw" s__law_draw f1 fd1 ["script"]) (G__law_draw : FnOk P w K mg base CX0 1 f1 fd1 ["script"] (spDraw K))
    (D__law_take : DefAt K mg "_law_take" s__law_take f2 fd2 ["draw", "many"]) (G__law_take : FnOk P w K mg base CX0 1 f2 fd2 ["draw", "many"] (spD K DWd (calm0 sp_take)))
    (D__law_data : DefAt K mg "_law_data" s__law_data f3 fd3 ["draw", "deep"]) (G__law_data : FnOk P w K mg base CX0 5 f3 fd3 ["draw", "deep"] (spD K DWd (calm0 (sp_data 4))))
    (D__law_told : DefAt K mg "_law_told" s__law_told f4 fd4 ["which", "value"]) (G__law_told : FnOk P w K mg base CX0 7 f4 fd4 ["which", "value"] (spD K PW (calm0 (sp_told CR))))
    (D__law_fits : DefAt K mg "_law_fits" s__law_fits f5 fd5 ["told", "due"]) (G__law_fits : FnOk P w K mg base CX0 4 f5 fd5 ["told", "due"] (spD K PW (calm0 (sp_fits CR))))
    (D__law_due : DefAt K mg "_law_due" s__law_due f6 fd6 ["text"]) (G__law_due : FnOk P w K mg base CX0 6 f6 fd6 ["text"] (spD K PW (calm0 sp_due)))
    (D_write_data : DefAt K mg "write_data" s_write_data f7 fd7 ["data"]) (G_write_data : FnOk P w K mg base (KM.CM CM P w) 4 f7 fd7 ["data"] (spD K PW sp_write_data))
    (D_Reply : RepAt K mg CR f8 fd8 d1 d2 T0) (G_Reply : FnOk P w K mg base CX0 1 f8 fd8 ["self", "kind", "text", "data"] (spInit CR nsR))
    (G_eq : FnOk P w K mg base CX0 2 fe fde ["self", "other"] (spEq (SameO K CR nsR okR))) : RunG P w K mg base CX0 21 f fd ["script"] (spLaw K) := by
  refine runG F sc_law (fun vs H Q E h => ?_) (fun cdv A outer s H vs Q E hr hgu h => ?_)
  · obtain ⟨a, ns, rfl, _⟩ := h
    rfl
  · obtain ⟨a, ns, rfl, ha, hn, q⟩ := h
    have hu := u160 hr
    have hs0 := sizeLine_eq
    refine ⟨_, (pss_cons (ps_set (i := 1) sc_law.nd rfl (Or.inr rfl) (pe_call G__law_draw (hr.mono (by decide)) rfl D__law_draw.g D__law_draw.kp D__law_draw.b .nil pass0 (pa_cons (pv 0) pa_nil)))
 (sd_cons (sd_for go_name PassesOwn.never rfl (id_rng1 (pi_range1 rfl T.b_range (ad_cons (ped_fz ed_int) ad_nil))) (pg_name (i := 2) sc_law.nd rfl (Or.inl rfl)) (sd_cons (sd_par (ps_par (i := 3) (j := 4) rfl sc_law.nd rfl rfl (by decide) rfl rfl (pa_cons (ed_lst ad_nil) (pa_cons (ed_str lit_4) pa_nil)) (by rfl)))
      (sd_cons (sd_for go_name PassesOwn.never rfl (id_rng1 (pi_range1 rfl T.b_range (ad_cons (ped_fz (ed_call0 (pe_call G__law_take (hr.mono (by decide)) rfl D__law_take.g D__law_take.kp D__law_take.b .nil pass0 (ad_cons (ped_fz (ed_var (pv 1))) (ad_cons (ped_fz ed_int) ad_nil))))) ad_nil))) (pg_name (i := 5) sc_law.nd rfl (Or.inl rfl)) (sd_cons (sd_par3 (ps_par3 (i := 6) (j := 7) (l := 8) rfl sc_law.nd rfl rfl rfl (by decide) (by decide) (by decide) rfl rfl rfl (pa_cons (ed_ix (w_ix (K := K)) c_ix (ed_lst (ad_cons (ped_fz (ed_str lit_4)) (ad_cons (ped_fz (ed_str lit_31)) (ad_cons (ped_fz (ed_str lit_32)) (ad_cons (ped_fz (ed_str lit_33)) ad_nil))))) (ed_call0 (pe_call G__law_take (hr.mono (by decide)) rfl D__law_take.g D__law_take.kp D__law_take.b .nil pass0 (ad_cons (ped_fz (ed_var (pv 1))) (ad_cons (ped_fz ed_int) ad_nil)))) (fun _ _ => rfl)) (pa_cons (ed_ix (w_ix (K := K)) c_ix (ed_lst (ad_cons (ped_fz (ed_str lit_20)) (ad_cons (ped_fz (ed_str lit_34)) (ad_cons (ped_fz (ed_str lit_21)) ad_nil)))) (ed_call0 (pe_call G__law_take (hr.mono (by decide)) rfl D__law_take.g D__law_take.kp D__law_take.b .nil pass0 (ad_cons (ped_fz (ed_var (pv 1))) (ad_cons (ped_fz ed_int) ad_nil)))) (fun _ _ => rfl)) (pa_cons (ed_ix (w_ix (K := K)) c_ix (ed_lst (ad_cons (ped_fz (ed_str lit_4)) (ad_cons (ped_fz (ed_str lit_35)) (ad_cons (ped_fz (ed_str lit_36)) ad_nil)))) (ed_call0 (pe_call G__law_take (hr.mono (by decide)) rfl D__law_take.g D__law_take.kp D__law_take.b .nil pass0 (ad_cons (ped_fz (ed_var (pv 1))) (ad_cons (ped_fz ed_int) ad_nil)))) (fun _ _ => rfl)) pa_nil))) (by rfl)))
      (sd_cons (sd_set (i := 9) sc_law.nd rfl (Or.inl rfl) (ed_b1 (pe_callTy (w_tuple (K := K)) rfl T.b_tuple bb_tuple (pa_cons (ed_lc (own := [("i", 12)]) go_name (gw_name (by decide)) tt_yes rfl sc_law.nd (id_rng1 (pi_range1 rfl T.b_range (ad_cons (ped_fz (ed_call0 (pe_call G__law_take (hr.mono (by decide)) rfl D__law_take.g D__law_take.kp D__law_take.b .nil pass0 (ad_cons (ped_fz (ed_var (pv 1))) (ad_cons (ped_fz ed_int) ad_nil))))) ad_nil))) (blkOk_by (N := n_law) (sc := defScope s_law) (by decide +kernel)) (fun _ _ _ _ _ => (pg_name (i := 12) sc_law.nd rfl (Or.inl rfl))) (fun _ _ _ _ _ => pts_nil) (fun _ _ _ _ _ => (ped_fz (ed_call0 (pe_call G__law_data (hr.mono (by decide)) rfl D__law_data.g D__law_data.kp D__law_data.b .nil pass0 (ad_cons (ped_fz (ed_var (pv 1))) (ad_cons (ped_fz ed_int) ad_nil))))))) pa_nil)) c_tuple))
      (sd_cons (sd_expr (ed_app (wk_bm (K := K) (pe_bm PySem.F.plainAttrs_list PySem.F.slot_list_append PySem.F.type_list_append mt_append (pv 3) (pa_cons (ped_fz (ed_tup (ad_cons (ped_fz (ed_var (pv 6))) (ad_cons (ped_fz (ed_make D_Reply.dv3 (pe_make D_Reply.mkr G_Reply (hr.mono (by decide)) rfl D_Reply.gC D_Reply.b3 D_Reply.vs3 pass0 (ad_cons (ped_fz (ed_var (pv 7))) (ad_cons (ped_fz (ed_var (pv 8))) (ad_cons (ped_fz (ed_var (pv 9))) ad_nil)))))) ad_nil)))) pa_nil)))))
      (sd_one (sd_set (i := 4) sc_law.nd rfl (Or.inl rfl) (ed_bin (or_add (K := K)) c_add (ed_bin (or_add (K := K)) c_add (ed_bin (or_add (K := K)) c_add (ed_bin (or_add (K := K)) c_add (ed_bin (or_add (K := K)) c_add (ed_bin (or_add (K := K)) c_add (ed_bin (or_add (K := K)) c_add (ed_bin (or_add (K := K)) c_add (ed_bin (or_add (K := K)) c_add (ed_var (pv 4)) (ed_str lit_14)) (ed_var (pv 6))) (ed_str lit_41)) (ed_var (pv 7))) (ed_str lit_16)) (ed_var (pv 8))) (ed_str lit_37)) (ed_callXP (pe_callS G_write_data (hr.mono (by decide)) rfl D_write_data.g D_write_data.kp D_write_data.b (fun σ => KM.passAtM takesM0 σ) (ad_cons (ped_fz (ed_var (pv 9))) ad_nil)))) (ed_str lit_10))))))))
      (sd_cons (sd_set (i := 10) sc_law.nd rfl (Or.inl rfl) (ed_bin (or_add (K := K)) c_add (ed_var (pv 3)) (ed_lst ad_nil)))
      (sd_cons (sd_if (PW.pt (wd_or (td_cmp (or_ne (K := K) hu) c_ne (ed_call0P (pe_call G__law_told (hr.mono (by decide)) rfl D__law_told.g D__law_told.kp D__law_told.b .nil pass0 (ad_cons (ped_fz ed_int) (ad_cons (ped_fz (ed_var (pv 3))) ad_nil)))) (ed_var (pv 4)) (nomark _)) (wd_or (td_not (td_tru (K := K) (ed_call0P (pe_call G__law_fits (hr.mono (by decide)) rfl D__law_fits.g D__law_fits.kp D__law_fits.b .nil pass0 (ad_cons (ped_fz (ed_call0P (pe_call G__law_told (hr.mono (by decide)) rfl D__law_told.g D__law_told.kp D__law_told.b .nil pass0 (ad_cons (ped_fz ed_int) (ad_cons (ped_fz (ed_var (pv 4))) ad_nil))))) (ad_cons (ped_fz (ed_call0P (pe_call G__law_due (hr.mono (by decide)) rfl D__law_due.g D__law_due.kp D__law_due.b .nil pass0 (ad_cons (ped_fz (ed_var (pv 4))) ad_nil)))) ad_nil)))))) (wd_or (td_cmp (or_ne (K := K) hu) c_ne (ed_b1 (pe_callB (w_len (K := K)) rfl T.b_len bb_len (pa_cons (ed_call0P (pe_call G__law_told (hr.mono (by decide)) rfl D__law_told.g D__law_told.kp D__law_told.b .nil pass0 (ad_cons (ped_fz ed_int) (ad_cons (ped_fz (ed_var (pv 4))) ad_nil)))) pa_nil)) c_len) (ed_b1 (pe_callB (w_len (K := K)) rfl T.b_len bb_len (pa_cons (ed_var (pv 3)) pa_nil)) c_len) (nomark _)) (wd_or1 (td_cmp (op_neLG mon_row (eqG_tup (mon_flat.or (mon_ins mon_same)) (EqG.or (eqG_flat.mono (by decide)) (eqG_ins G_eq T.f_eq T.k_eq T.b_eq pass0))) (hr.mono (by decide))) c_neRows (ed_var (pv 3)) (ed_var (pv 10)) (nomark _))))))) (sd_one (sd_ret (ped_fz ed_bl))) sd_nil)
      (sd_one (sd_for go_name PassesOwn.never rfl (id_rng1 (pi_range1 rfl T.b_range (ad_cons (ped_fz ed_int) ad_nil))) (pg_name (i := 11) sc_law.nd rfl (Or.inl rfl)) (sd_cons (sd_par (ps_par (i := 12) (j := 13) rfl sc_law.nd rfl rfl (by decide) rfl rfl (pa_cons (ed_call0 (pe_call G__law_take (hr.mono (by decide)) rfl D__law_take.g D__law_take.kp D__law_take.b .nil pass0 (ad_cons (ped_fz (ed_var (pv 1))) (ad_cons (ped_fz (ed_bin (or_add (K := K)) c_add (ed_b1 (pe_callB (w_len (K := K)) rfl T.b_len bb_len (pa_cons (ed_var (pv 4)) pa_nil)) c_len) ed_int)) ad_nil)))) (pa_cons (ed_ix (w_ix (K := K)) c_ix (ed_lst (ad_cons (ped_fz (ed_str lit_38)) (ad_cons (ped_fz (ed_str lit_10)) (ad_cons (ped_fz (ed_str lit_16)) (ad_cons (ped_fz (ed_str lit_24)) (ad_cons (ped_fz (ed_str lit_39)) (ad_cons (ped_fz (ed_str lit_40)) (ad_cons (ped_fz (ed_str lit_5)) (ad_cons (ped_fz (ed_str lit_29)) ad_nil))))))))) (ed_call0 (pe_call G__law_take (hr.mono (by decide)) rfl D__law_take.g D__law_take.kp D__law_take.b .nil pass0 (ad_cons (ped_fz (ed_var (pv 1))) (ad_cons (ped_fz ed_int) ad_nil)))) (fun _ _ => rfl)) pa_nil)) (by rfl)))
      (sd_one (sd_for go_name PassesOwn.never rfl (id_seq (K := K) (ped_fz (ed_lst (ad_cons (ped_fz (ed_bin (or_add (K := K)) c_add (ed_bin (or_add (K := K)) c_add (ed_sl (pe_slice (sr_sl (K := K)) (ed_var (pv 4)) od_no (od_some (ed_var (pv 12))))) (ed_var (pv 13))) (ed_sl (pe_slice (sr_sl (K := K)) (ed_var (pv 4)) (od_some (ed_var (pv 12))) od_no)))) (ad_cons (ped_fz (ed_bin (or_add (K := K)) c_add (ed_sl (pe_slice (sr_sl (K := K)) (ed_var (pv 4)) od_no (od_some (ed_var (pv 12))))) (ed_sl (pe_slice (sr_sl (K := K)) (ed_var (pv 4)) (od_some (ed_bin (or_add (K := K)) c_add (ed_var (pv 12)) ed_int)) od_no)))) (ad_cons (ped_fz (ed_sl (pe_slice (sr_sl (K := K)) (ed_var (pv 4)) od_no (od_some (ed_var (pv 12)))))) (ad_cons (ped_fz (ed_bin (or_add (K := K)) c_add (ed_var (pv 4)) (ed_str lit_14))) (ad_cons (ped_fz (ed_bin (or_add (K := K)) c_add (ed_var (pv 4)) (ed_str lit_10))) ad_nil)))))))) (pg_name (i := 14) sc_law.nd rfl (Or.inl rfl)) (sd_one (sd_if (td_not (td_tru (K := K) (ed_call0P (pe_call G__law_fits (hr.mono (by decide)) rfl D__law_fits.g D__law_fits.kp D__law_fits.b .nil pass0 (ad_cons (ped_fz (ed_call0P (pe_call G__law_told (hr.mono (by decide)) rfl D__law_told.g D__law_told.kp D__law_told.b .nil pass0 (ad_cons (ped_fz ed_int) (ad_cons (ped_fz (ed_var (pv 14))) ad_nil))))) (ad_cons (ped_fz (ed_call0P (pe_call G__law_due (hr.mono (by decide)) rfl D__law_due.g D__law_due.kp D__law_due.b .nil pass0 (ad_cons (ped_fz (ed_var (pv 14))) ad_nil)))) ad_nil)))))) (sd_one (sd_ret (ped_fz ed_bl))) sd_nil))))))))))))
      (sd_cons (sd_set (i := 15) sc_law.nd rfl (Or.inr rfl) (ed_tup (ad_cons (ped_fz (ed_str lit_4)) (ad_cons (ped_fz (ed_make D_Reply.dv1 (pe_make D_Reply.mkr G_Reply (hr.mono (by decide)) rfl D_Reply.gC D_Reply.b1 D_Reply.vs1 pass0 (ad_cons (ped_fz (ed_str lit_27)) ad_nil)))) ad_nil))))
      (sd_cons (sd_set (i := 16) sc_law.nd rfl (Or.inl rfl) (ed_lst (ad_cons (ped_fz ed_non) (ad_cons (ped_fz (ed_tup (ad_cons (ped_fz (ed_str lit_4)) ad_nil))) (ad_cons (ped_fz (ed_lst (ad_cons (ped_fz (ed_str lit_4)) (ad_cons (ped_fz (ed_make D_Reply.dv1 (pe_make D_Reply.mkr G_Reply (hr.mono (by decide)) rfl D_Reply.gC D_Reply.b1 D_Reply.vs1 pass0 (ad_cons (ped_fz (ed_str lit_20)) ad_nil)))) ad_nil)))) (ad_cons (ped_fz (ed_tup (ad_cons (ped_fz ed_non) (ad_cons (ped_fz (ed_make D_Reply.dv1 (pe_make D_Reply.mkr G_Reply (hr.mono (by decide)) rfl D_Reply.gC D_Reply.b1 D_Reply.vs1 pass0 (ad_cons (ped_fz (ed_str lit_20)) ad_nil)))) ad_nil)))) (ad_cons (ped_fz (ed_tup (ad_cons (ped_fz (ed_str lit_28)) (ad_cons (ped_fz (ed_make D_Reply.dv1 (pe_make D_Reply.mkr G_Reply (hr.mono (by decide)) rfl D_Reply.gC D_Reply.b1 D_Reply.vs1 pass0 (ad_cons (ped_fz (ed_str lit_20)) ad_nil)))) ad_nil)))) (ad_cons (ped_fz (ed_tup (ad_cons (ped_fz (ed_str lit_4)) (ad_cons (ped_fz (ed_tup (ad_cons (ped_fz (ed_str lit_20)) (ad_cons (ped_fz (ed_str lit_4)) (ad_cons (ped_fz (ed_tup ad_nil)) ad_nil))))) ad_nil)))) (ad_cons (ped_fz (ed_tup (ad_cons (ped_fz (ed_str lit_4)) (ad_cons (ped_fz (ed_make D_Reply.dv1 (pe_make D_Reply.mkr G_Reply (hr.mono (by decide)) rfl D_Reply.gC D_Reply.b1 D_Reply.vs1 pass0 (ad_cons (ped_fz (ed_str lit_29)) ad_nil)))) ad_nil)))) ad_nil)))))))))
      (sd_cons (sd_set (i := 16) sc_law.nd rfl (Or.inl rfl) (ed_bin (or_add (K := K)) c_add (ed_var (pv 16)) (ed_lst (ad_cons (ped_fz (ed_tup (ad_cons (ped_fz (ed_str lit_4)) (ad_cons (ped_fz (ed_make D_Reply.dv2 (pe_make D_Reply.mkr G_Reply (hr.mono (by decide)) rfl D_Reply.gC D_Reply.b2 D_Reply.vs2 pass0 (ad_cons (ped_fz (ed_str lit_20)) (ad_cons (ped_fz ed_non) ad_nil))))) ad_nil)))) (ad_cons (ped_fz (ed_tup (ad_cons (ped_fz (ed_str lit_4)) (ad_cons (ped_fz (ed_make D_Reply.dv2 (pe_make D_Reply.mkr G_Reply (hr.mono (by decide)) rfl D_Reply.gC D_Reply.b2 D_Reply.vs2 pass0 (ad_cons (ped_fz (ed_str lit_20)) (ad_cons (ped_fz (ed_str lit_10)) ad_nil))))) ad_nil)))) (ad_cons (ped_fz (ed_tup (ad_cons (ped_fz (ed_str lit_4)) (ad_cons (ped_fz (ed_make D_Reply.dv3 (pe_make D_Reply.mkr G_Reply (hr.mono (by decide)) rfl D_Reply.gC D_Reply.b3 D_Reply.vs3 pass0 (ad_cons (ped_fz (ed_str lit_20)) (ad_cons (ped_fz (ed_str lit_4)) (ad_cons (ped_fz (ed_lst ad_nil)) ad_nil)))))) ad_nil)))) (ad_cons (ped_fz (ed_tup (ad_cons (ped_fz (ed_str lit_4)) (ad_cons (ped_fz (ed_make D_Reply.dv3 (pe_make D_Reply.mkr G_Reply (hr.mono (by decide)) rfl D_Reply.gC D_Reply.b3 D_Reply.vs3 pass0 (ad_cons (ped_fz (ed_str lit_20)) (ad_cons (ped_fz (ed_str lit_4)) (ad_cons (ped_fz (ed_tup (ad_cons (ped_fz ed_non) ad_nil))) ad_nil)))))) ad_nil)))) ad_nil)))))))
      (sd_cons (sd_if (PW.pt (wd_or (td_tru (K := K) (ed_b1 (pe_callB (w_any (K := K) rfl) rfl T.b_any bb_any (pa_cons (ed_lc (own := [("bad", 17)]) go_name (gw_name (by decide)) tt_yes rfl sc_law.nd (id_seq (K := K) (ped_fz (ed_var (pv 16)))) (blkOk_by (N := n_law) (sc := defScope s_law) (by decide +kernel)) (fun _ _ _ _ _ => (pg_name (i := 17) sc_law.nd rfl (Or.inl rfl))) (fun _ _ _ _ _ => pts_nil) (fun _ _ _ _ _ => (ped_fz (ed_cmp (or_ne (K := K) hu) c_ne (ed_sl (pe_slice (sr_sl (K := K)) (ed_call0P (pe_call G__law_told (hr.mono (by decide)) rfl D__law_told.g D__law_told.kp D__law_told.b .nil pass0 (ad_cons (ped_fz ed_int) (ad_cons (ped_fz (ed_lst (ad_cons (ped_fz (ed_var (pv 15))) (ad_cons (ped_fz (ed_var (pv 17))) ad_nil)))) ad_nil)))) od_no (od_some ed_int))) (ed_str lit_25) (nomark _))))) pa_nil)) c_any)) (wd_or1 (td_cmp (or_ne (K := K) hu) c_ne (ed_lc (own := [("value", 18)]) go_name (gw_name (by decide)) tt_yes rfl sc_law.nd (id_seq (K := K) (ped_fz (ed_lst (ad_cons (ped_fz ed_non) (ad_cons (ped_fz ed_int) (ad_cons (ped_fz (ed_tup ad_nil)) ad_nil)))))) (blkOk_by (N := n_law) (sc := defScope s_law) (by decide +kernel)) (fun _ _ _ _ _ => (pg_name (i := 18) sc_law.nd rfl (Or.inl rfl))) (fun _ _ _ _ _ => pts_nil) (fun _ _ _ _ _ => (ped_fz (ed_sl (pe_slice (sr_sl (K := K)) (ed_call0P (pe_call G__law_told (hr.mono (by decide)) rfl D__law_told.g D__law_told.kp D__law_told.b .nil pass0 (ad_cons (ped_fz ed_int) (ad_cons (ped_fz (ed_var (pv 18))) ad_nil)))) od_no (od_some ed_int)))))) (ed_bin op_repR c_rep (ed_lst (ad_cons (ped_fz (ed_str lit_25)) ad_nil)) ed_int) (nomark _))))) (sd_one (sd_ret (ped_fz ed_bl))) sd_nil)
      (sd_cons (sd_if (PW.pt (wd_or (td_cmp (or_ne (K := K) hu) c_ne (ed_call0P (pe_call G__law_told (hr.mono (by decide)) rfl D__law_told.g D__law_told.kp D__law_told.b .nil pass0 (ad_cons (ped_fz ed_int) (ad_cons (ped_fz (ed_lst ad_nil)) ad_nil)))) (ed_str lit_4) (nomark _)) (wd_or1 (td_cmp (or_ne (K := K) hu) c_ne (ed_call0P (pe_call G__law_told (hr.mono (by decide)) rfl D__law_told.g D__law_told.kp D__law_told.b .nil pass0 (ad_cons (ped_fz ed_int) (ad_cons (ped_fz (ed_str lit_4)) ad_nil)))) (ed_lst ad_nil) (nomark _))))) (sd_one (sd_ret (ped_fz ed_bl))) sd_nil)
      (sd_one (sd_ret (ped_fz (ed_cmp (or_eq (K := K) hu) c_eq (ed_lc (own := [("value", 18)]) go_name (gw_name (by decide)) tt_yes rfl sc_law.nd (id_seq (K := K) (ped_fz (ed_lst (ad_cons (ped_fz ed_non) (ad_cons (ped_fz ed_int) (ad_cons (ped_fz (ed_lst (ad_cons (ped_fz (ed_str lit_4)) ad_nil))) ad_nil)))))) (blkOk_by (N := n_law) (sc := defScope s_law) (by decide +kernel)) (fun _ _ _ _ _ => (pg_name (i := 18) sc_law.nd rfl (Or.inl rfl))) (fun _ _ _ _ _ => pts_nil) (fun _ _ _ _ _ => (ped_fz (ed_call0P (pe_call G__law_told (hr.mono (by decide)) rfl D__law_told.g D__law_told.kp D__law_told.b .nil pass0 (ad_cons (ped_fz ed_int) (ad_cons (ped_fz (ed_var (pv 18))) ad_nil))))))) (ed_bin op_repR c_rep (ed_lst (ad_cons (ped_fz (ed_str lit_30)) ad_nil)) ed_int) (nomark _)))))))))))), ?_⟩
    walk_at "kx"
    refine ⟨a, ns, rfl, ha, hn, fun r p H1 nr x1 hd1 => ?_⟩
    walk_at "kx"
    refine law_start (m := 17) hd1 rfl ?_ q
    walk_at "kd1"
    refine ⟨by omega, by omega, ?_⟩
    refine fd_list (fun i ρ τ => ∃ o : List (Option Sl), o.length = 17 ∧ ρ = none :: some (.d (.fn r)) :: o ∧ τ.r = r ∧ τ.n ≤ 200 * i) ⟨_, rfl, rfl, rfl, Nat.le_refl _⟩ ?_ ?_
    · rintro i x F ρ τ hx ⟨o, ho, rfl, hr0, hn0⟩ hF
      obtain ⟨hi, rfl⟩ := rangeD_get hx
      obtain ⟨o2, o3, o4, o5, o6, o7, o8, o9, o10, o11, o12, o13, o14, o15, o16, o17, o18, rfl⟩ : ∃ a2 a3 a4 a5 a6 a7 a8 a9 a10 a11 a12 a13 a14 a15 a16 a17 a18, o = [a2, a3, a4, a5, a6, a7, a8, a9, a10, a11, a12, a13, a14, a15, a16, a17, a18] := by
        match o, ho with
        | [a2, a3, a4, a5, a6, a7, a8, a9, a10, a11, a12, a13, a14, a15, a16, a17, a18], _ => exact ⟨_, _, _, _, _, _, _, _, _, _, _, _, _, _, _, _, _, rfl⟩
      walk_at "kd1"
      walk_at "kdh"
      refine take_ok (m := 4) hr0 (by decide) (by decide) (by omega) fun j hj => ?_
      walk_at "kd1"
      refine ⟨by omega, by omega, ?_⟩
      have ej : ((j : Nat) : Int).toNat = j := by omega
      rw [ej]
      refine fd_list (fun i' ρ τ' => ∃ (ps : List (En × M53.T)) (o : List (Option Sl)), ps.length = i' ∧ (∀ p ∈ ps, Ge p.1 p.2) ∧ o.length = 14 ∧ ρ = none :: some (.d (.fn r)) :: some (.d (.int (0 + (i : Nat)))) :: some (.own (ps.map fun p => entD CR p.1)) :: some (.d (.str (textOf ps))) :: o ∧ τ'.r = r ∧ τ'.n ≤ τ.n + 1 + 55 * i') ⟨[], _, rfl, by simp, rfl, rfl, hr0, by show τ.n + 1 ≤ _; omega⟩ ?_ ?_
      · rintro i' x F' ρ τ1 hx ⟨ps, o, rfl, hps, ho, rfl, hr1, hn1⟩ hF'
        obtain ⟨hi', rfl⟩ := rangeD_get hx
        obtain ⟨o5, o6, o7, o8, o9, o10, o11, o12, o13, o14, o15, o16, o17, o18, rfl⟩ : ∃ a5 a6 a7 a8 a9 a10 a11 a12 a13 a14 a15 a16 a17 a18, o = [a5, a6, a7, a8, a9, a10, a11, a12, a13, a14, a15, a16, a17, a18] := by
          match o, ho with
          | [a5, a6, a7, a8, a9, a10, a11, a12, a13, a14, a15, a16, a17, a18], _ => exact ⟨_, _, _, _, _, _, _, _, _, _, _, _, _, _, rfl⟩
        walk_at "kd1"
        refine ⟨by omega, take_ok (m := 4) hr1 (by decide) (by decide) (by omega) fun a ha => ?_⟩
        obtain ⟨va, ea, ma⟩ := three_get (xs := linesL) rfl ha
        walk_at "kd1"
        refine ⟨va, by rw [KD.atI_nat]; exact ea, by omega, take_ok (m := 3) hr1 (by decide) (by decide) (by show τ1.n + 1 ≤ 1000000; omega) fun b hb => ?_⟩
        obtain ⟨vb, eb, mb⟩ := three_get (xs := kindsL) rfl hb
        walk_at "kd1"
        refine ⟨vb, by rw [KD.atI_nat]; exact eb, by omega, take_ok (m := 3) hr1 (by decide) (by decide) (by show τ1.n + 1 + 1 ≤ 1000000; omega) fun c hc => ?_⟩
        obtain ⟨vc, ec, mc⟩ := three_get (xs := moresL) rfl hc
        walk_at "kd1"
        refine ⟨vc, by rw [KD.atI_nat]; exact ec, ?_⟩
        rw [up_up, up_up]
        walk_at "kdh"
        refine take_ok (m := 3) hr1 (by decide) (by decide) (by show τ1.n + (1 + 1 + 1) ≤ 1000000; omega) fun e he => ?_
        walk_at "kd1"
        refine ⟨by omega, by omega, ?_⟩
        have ee : ((e : Nat) : Int).toNat = e := by omega
        rw [ee, up_up]
        refine lc_list (fun i2 acc ρ τ2 => acc.length = i2 ∧ (∀ d ∈ acc, gdata 3 d) ∧ (∃ o12 : Option Sl, ρ = [none, some (.d (.fn r)), some (.d (.int (0 + (i : Nat)))), some (.own (ps.map fun p => entD CR p.1)), some (.d (.str (textOf ps))), some (.d (.int (0 + (ps.length : Nat)))), some (.d va), some (.d vb), some (.d vc), o9, o10, o11, o12, o13, o14, o15, o16, o17, o18]) ∧ τ2.r = r ∧ τ2.n ≤ τ1.n + 4 + 22 * i2) ⟨rfl, by simp, ⟨_, rfl⟩, hr1, by show τ1.n + (1 + 1 + 1 + 1) ≤ _; omega⟩ ?_ ?_
        · rintro i2 x F2 acc ρ τ2 hx ⟨rfl, hga, ⟨o12', rfl⟩, hr2, hn2⟩ hF2
          obtain ⟨hi2, rfl⟩ := rangeD_get hx
          walk_at "kd1"
          have c3 : costD 3 = 22 := rfl
          refine ⟨3, by decide, by rw [hr2]; rfl, by rw [c3]; omega, fun d j2 hd hj2 => ?_⟩
          refine hF2 _ _ _ ⟨by simp, fun y hy => ?_, ⟨_, rfl⟩, hr2, by show τ2.n + j2 ≤ _; rw [c3] at hj2; omega⟩
          rcases List.mem_append.mp hy with hy | hy
          · exact hga y hy
          · rw [List.mem_singleton.mp hy]; exact hd
        · rintro acc ρ τ2 ⟨hal, hga, ⟨o12', rfl⟩, hr2, hn2⟩
          rw [rangeD_len] at hal hn2
          obtain ⟨l, k, x, t, rfl, rfl, rfl, g⟩ := ge_made ma mb mc (ds := acc) (by omega) hga
          walk_at "kd1"
          walk_at "kdh"
          have hpl : ps.length < 4 := by omega
          refine ⟨⟨_, rfl⟩, rfl, by omega, by omega, ?_⟩
          have htl := textOf_len ps hps
          have hgl : k.length ≤ 5 ∧ x.length ≤ 4 ∧ l.length ≤ 6 := by
            obtain ⟨l', ds', e1, e2, _, z, _⟩ := g.ex
            cases e1
            exact ⟨g.kl, g.ml, z⟩
          have htt : t.length ≤ 109 := g.gd.ln
          walk_at "kdh"
          have htx : List.length (textOf ps) ≤ 600 := by have := htl.1; omega
          have sdl : ∀ a : List Nat, a.length ≤ 1000 → ∀ b : List Nat, b.length ≤ 200 → a.length + b.length ≤ sizeLine := fun a ha b hb => by omega
          refine ⟨by omega, ?_, ?_, ?_, ?_, ?_, ?_, .tup acc, rfl, g.gd.dt, g.gd.so, ?_, fun u hu => ?_, fun hno => ?_⟩
          · simp only [List.length_append, List.length_cons, List.length_nil]; omega
          · simp only [List.length_append, List.length_cons, List.length_nil]; omega
          · simp only [List.length_append, List.length_cons, List.length_nil]; omega
          · simp only [List.length_append, List.length_cons, List.length_nil]; omega
          · simp only [List.length_append, List.length_cons, List.length_nil]; omega
          · simp only [List.length_append, List.length_cons, List.length_nil]; omega
          · have : sz (py (.tup acc)) ≤ 76 := g.gd.sz_
            omega
          · have hw := g.gd.wr_ 1000 (by decide)
            have hw' : wr 1000 (py (.tup acc)) = some t := hw
            rw [hw'] at hu
            cases hu
            have htt' : List.length t ≤ 109 := htt
            refine ⟨by omega, ?_⟩
            walk_at "kd1"
            refine ⟨?_, ?_, hF' _ _ ⟨ps ++ [(⟨.str l, k, x, .tup acc⟩, t)], [some (.d (.int (0 + (ps.length : Nat)))), some (.d (.str l)), some (.d (.str k)), some (.d (.str x)), some (.d (.tup acc)), o10, o11, o12', o13, o14, o15, o16, o17, o18], ?_, ?_, ?_, ?_, hr2, ?_⟩⟩
            · simp only [List.length_append, List.length_cons, List.length_nil]; omega
            · simp only [List.length_append, List.length_cons, List.length_nil]; omega
            · simp
            · intro p hp
              rcases List.mem_append.mp hp with hp | hp
              · exact hps p hp
              · rw [List.mem_singleton.mp hp]; exact g
            · rfl
            · rw [textOf_snoc, List.map_append]
              unfold textE lineOf
              simp [entD, strD]
            · omega
          · have hw := g.gd.wr_ 1000 (by decide)
            have hw' : wr 1000 (py (.tup acc)) = some t := hw
            rw [hw'] at hno
            cases hno
      · rintro ρ τ1 ⟨ps, o, hpl, hps, ho, rfl, hr1, hn1⟩
        rw [rangeD_len] at hpl hn1
        obtain ⟨o5, o6, o7, o8, o9, o10, o11, o12, o13, o14, o15, o16, o17, o18, rfl⟩ : ∃ a5 a6 a7 a8 a9 a10 a11 a12 a13 a14 a15 a16 a17 a18, o = [a5, a6, a7, a8, a9, a10, a11, a12, a13, a14, a15, a16, a17, a18] := by
          match o, ho with
          | [a5, a6, a7, a8, a9, a10, a11, a12, a13, a14, a15, a16, a17, a18], _ => exact ⟨_, _, _, _, _, _, _, _, _, _, _, _, _, _, rfl⟩
        have htl := textOf_len ps hps
        have htx : List.length (textOf ps) ≤ 600 := by have := htl.1; omega
        have hct : List.count 91 (textOf ps) ≤ 60 := by have := htl.2; omega
        walk_at "kdh"
        refine ⟨by omega, ?_⟩
        walk_at "kdh"
        have htx' : (textOf ps).length ≤ 100000 := by
          have : List.length (textOf ps) ≤ 600 := htx
          show List.length (textOf ps) ≤ 100000
          omega
        have hct' : (textOf ps).count 91 ≤ 140 := Nat.le_trans hct (by decide)
        refine told_write hps (by omega) ?_
        walk_at "kd1"
        rw [if_neg (by simp)]
        refine told_read htx' (due_ok htx' (fits_ok htx' hct' fun b hb => ?_))
        subst hb
        walk_at "kd1"
        refine told_read htx' ?_
        have er : readT CR (textOf ps) = .lst (ps.map fun p => entD CR p.1) := by
          unfold readT
          rw [diary_text ps hps]
          show D.lst ((ps.map (·.1)).map (entD CR)) = _
          rw [List.map_map]
          rfl
        rw [er]
        walk_at "kd1"
        rw [if_neg (by simp)]
        refine ⟨fun d hd => ?_, ?_⟩
        · obtain ⟨p, hp, rfl⟩ := List.mem_map.mp hd
          obtain ⟨⟨⟨l, el⟩, hok⟩, _⟩ := ge_ok (hps p hp)
          exact ⟨l, _, by unfold entD; rw [el], hok⟩
        walk_at "kdh"
        refine ⟨by omega, by omega, ?_⟩
        generalize htt : textOf ps = tt at htx hct htx' hct'
        refine fd_list (fun i3 ρ τ3 => ∃ (o2 o3 : Option Sl) (o : List (Option Sl)), o.length = 14 ∧ ρ = none :: some (.d (.fn r)) :: o2 :: o3 :: some (.d (.str tt)) :: o ∧ τ3.r = r ∧ τ3.n ≤ 200 * i + 180 + 2 * i3) ⟨_, _, _, rfl, rfl, hr1, by omega⟩ ?_ ?_
        · rintro i3 x F3 ρ τ3 hx ⟨o2', o3', o, ho, rfl, hr3, hn3⟩ hF3
          obtain ⟨hi3, rfl⟩ := rangeD_get hx
          obtain ⟨o5, o6, o7, o8, o9, o10, o11, o12, o13, o14, o15, o16, o17, o18, rfl⟩ : ∃ a5 a6 a7 a8 a9 a10 a11 a12 a13 a14 a15 a16 a17 a18, o = [a5, a6, a7, a8, a9, a10, a11, a12, a13, a14, a15, a16, a17, a18] := by
            match o, ho with
            | [a5, a6, a7, a8, a9, a10, a11, a12, a13, a14, a15, a16, a17, a18], _ => exact ⟨_, _, _, _, _, _, _, _, _, _, _, _, _, _, rfl⟩
          have htx3 : tt.length ≤ 600 := htx
          walk_at "kd1"
          have em : ((tt.length : Nat) : Int) + 1 = ((tt.length + 1 : Nat) : Int) := by omega
          rw [em]
          refine ⟨by omega, take_ok (m := tt.length + 1) hr3 (by omega) (by omega) (by omega) fun ii hii => ?_⟩
          refine ⟨by omega, take_ok (m := 8) hr3 (by decide) (by decide) (by show τ3.n + 1 ≤ 1000000; omega) fun sg hsg => ?_⟩
          obtain ⟨vs, es, ms⟩ := three_get (xs := signsL) rfl hsg
          walk_at "kd1"
          refine ⟨vs, by rw [KD.atI_nat]; exact es, ?_⟩
          rw [up_up]
          obtain ⟨sc, rfl⟩ := signs_one ms
          unfold hold
          have eii : ((ii : Nat) : Int) + 1 = ((ii + 1 : Nat) : Int) := by omega
          have tkl : (tt.take ii).length ≤ 600 := by rw [List.length_take]; omega
          have tdl : (tt.drop ii).length ≤ 600 := by rw [List.length_drop]; omega
          have tdl' : (tt.drop (ii + 1)).length ≤ 600 := by rw [List.length_drop]; omega
          refine for_lst (dcons_ev (d := .str (tt.take ii ++ [sc] ++ tt.drop ii)) (fun Q' q' => ?_) (dcons_ev (d := .str (tt.take ii ++ tt.drop (ii + 1))) (fun Q' q' => ?_) (dcons_ev (d := .str (tt.take ii)) (fun Q' q' => ?_) (dcons_ev (d := .str (tt ++ [62, 32])) (fun Q' q' => ?_) (dcons_ev (d := .str (tt ++ [10])) (fun Q' q' => ?_) ?_)))))
          · walk_at "kd1"
            simp only [KD.cutL_to, KD.cutL_from]
            exact ⟨by omega, by omega, by omega, by rw [List.length_append, List.length_singleton]; omega, q'⟩
          · walk_at "kd1"
            simp only [eii, KD.cutL_to, KD.cutL_from]
            exact ⟨by omega, by omega, by omega, q'⟩
          · walk_at "kd1"
            simp only [KD.cutL_to, KD.cutL_from]
            exact ⟨by omega, q'⟩
          · walk_at "kd1"
            exact ⟨by omega, q'⟩
          · walk_at "kd1"
            exact ⟨by omega, q'⟩
          refine ⟨by show 5 ≤ sizeLine; omega, ?_⟩
          have hct3 : tt.count 91 ≤ 60 := hct
          have ctk : (tt.take ii).count 91 ≤ 60 := Nat.le_trans (List.Sublist.count_le 91 (List.take_sublist ii tt)) hct3
          have ctd : (tt.drop ii).count 91 ≤ 60 := Nat.le_trans (List.Sublist.count_le 91 (List.drop_sublist ii tt)) hct3
          have ctd' : (tt.drop (ii + 1)).count 91 ≤ 60 := Nat.le_trans (List.Sublist.count_le 91 (List.drop_sublist (ii + 1) tt)) hct3
          have csc : ([sc] : List Nat).count 91 ≤ 1 := by rw [List.count_singleton]; split <;> omega
          refine fd_list (fun _ ρ τ4 => ∃ o14 : Option Sl, ρ = [none, some (.d (.fn r)), o2', o3', some (.d (.str tt)), o5, o6, o7, o8, o9, o10, some (.d (.int (0 + (i3 : Nat)))), some (.d (.int (ii : Nat))), some (.d (.str [sc])), o14, o15, o16, o17, o18] ∧ τ4 = τ3.up (1 + 1)) ⟨_, rfl, rfl⟩ ?_ ?_
          · rintro i5 x F5 ρ τ4 hx ⟨o14', rfl, rfl⟩ hF5
            have hm := List.mem_of_getElem? hx
            have hot : ∃ ot : List Nat, x = .str ot ∧ ot.length ≤ 100000 ∧ ot.count 91 ≤ 140 := by
              simp only [List.mem_cons, List.not_mem_nil, or_false] at hm
              rcases hm with rfl | rfl | rfl | rfl | rfl
              · exact ⟨_, rfl, by simp only [List.length_append, List.length_singleton]; omega, by simp only [List.count_append]; omega⟩
              · exact ⟨_, rfl, by simp only [List.length_append]; omega, by simp only [List.count_append]; omega⟩
              · exact ⟨_, rfl, by omega, by omega⟩
              · exact ⟨_, rfl, by simp only [List.length_append, List.length_cons, List.length_nil]; omega, by rw [List.count_append, show ([62, 32] : List Nat).count 91 = 0 from rfl]; omega⟩
              · exact ⟨_, rfl, by simp only [List.length_append, List.length_cons, List.length_nil]; omega, by rw [List.count_append, show ([10] : List Nat).count 91 = 0 from rfl]; omega⟩
            obtain ⟨ot, rfl, hol, hoc⟩ := hot
            walk_at "kd1"
            refine told_read hol (due_ok hol (fits_ok hol hoc fun b hb => ?_))
            subst hb
            walk_at "kd1"
            exact hF5 _ _ ⟨_, rfl, rfl⟩
          · rintro ρ τ4 ⟨o14', rfl, rfl⟩
            exact hF3 _ _ ⟨o2', o3', [o5, o6, o7, o8, o9, o10, some (.d (.int (0 + (i3 : Nat)))), some (.d (.int (ii : Nat))), some (.d (.str [sc])), o14', o15, o16, o17, o18], rfl, rfl, hr3, by show τ3.n + (1 + 1) ≤ _; omega⟩
        · rintro ρ τ3 ⟨o2', o3', o, ho, rfl, hr3, hn3⟩
          rw [rangeD_len] at hn3
          exact hF _ _ ⟨o2' :: o3' :: some (.d (.str tt)) :: o, by simp only [List.length_cons, ho], rfl, hr3, by omega⟩
    · rintro ρ τ ⟨o, ho, rfl, hr0, hn0⟩
      obtain ⟨o2, o3, o4, o5, o6, o7, o8, o9, o10, o11, o12, o13, o14, o15, o16, o17, o18, rfl⟩ : ∃ a2 a3 a4 a5 a6 a7 a8 a9 a10 a11 a12 a13 a14 a15 a16 a17 a18, o = [a2, a3, a4, a5, a6, a7, a8, a9, a10, a11, a12, a13, a14, a15, a16, a17, a18] := by
        match o, ho with
        | [a2, a3, a4, a5, a6, a7, a8, a9, a10, a11, a12, a13, a14, a15, a16, a17, a18], _ => exact ⟨_, _, _, _, _, _, _, _, _, _, _, _, _, _, _, _, _, rfl⟩
      have mk1 : ∀ d, D.obj CR nsR ([d] ++ [.str [], .tup []]) = .obj CR nsR [d, .str [], .tup []] := fun _ => rfl
      walk_at "kdh"
      refine ⟨rfl, by omega, ?_⟩
      unfold hold
      simp only [sSeq_hold, sSet, dLst]
      have cj : ∀ {p q : Prop}, p → q → p ∧ q := fun a b => ⟨a, b⟩
      refine dcons_ev (d := .non) (fun Q' q' => ?_) (dcons_ev (d := .tup [.str []]) (fun Q' q' => ?_) (dcons_ev (d := .lst [.str [], repD CR [97]]) (fun Q' q' => ?_) (dcons_ev (d := .tup [.non, repD CR [97]]) (fun Q' q' => ?_) (dcons_ev (d := .tup [.str [97, 10], repD CR [97]]) (fun Q' q' => ?_) (dcons_ev (d := .tup [.str [], .tup [.str [97], .str [], .tup []]]) (fun Q' q' => ?_) (dcons_ev (d := .tup [.str [], repD CR [65]]) (fun Q' q' => ?_) ?_))))))
      · walk_at "kd1"; exact q'
      · walk_at "kd1"; exact ⟨by omega, q'⟩
      · walk_at "kd1"; exact ⟨rfl, by omega, q'⟩
      · walk_at "kd1"; exact ⟨rfl, by omega, q'⟩
      · walk_at "kd1"; exact ⟨rfl, by omega, q'⟩
      · walk_at "kd1"; exact ⟨by omega, by omega, q'⟩
      · walk_at "kd1"; exact ⟨rfl, by omega, q'⟩
      refine ⟨by show 7 ≤ sizeLine; omega, ?_⟩
      show hold _ _ _ _ _
      unfold hold
      simp only [sSeq_hold, sSet, dOp, dVar, dLst, List.set_cons_zero, List.set_cons_succ, List.getElem?_cons_zero, List.getElem?_cons_succ]
      refine dcons_ev (d := .tup [.str [], .obj CR nsR [.str [97], .non, .tup []]]) (fun Q' q' => ?_) (dcons_ev (d := .tup [.str [], .obj CR nsR [.str [97], .str [10], .tup []]]) (fun Q' q' => ?_) (dcons_ev (d := .tup [.str [], .obj CR nsR [.str [97], .str [], .lst []]]) (fun Q' q' => ?_) (dcons_ev (d := .tup [.str [], .obj CR nsR [.str [97], .str [], .tup [.non]]]) (fun Q' q' => ?_) ?_)))
      · walk_at "kd1"; exact ⟨rfl, by omega, q'⟩
      · walk_at "kd1"; exact ⟨rfl, by omega, q'⟩
      · walk_at "kd1"; exact ⟨rfl, by omega, q'⟩
      · walk_at "kd1"; exact ⟨by omega, rfl, by omega, q'⟩
      walk_at "kd1"
      refine ⟨by omega, by omega, ?_⟩
      walk_at "kdh"
      have t60 : ∀ m : M53.T, 60 :: (m ++ [62]) = [60] ++ m ++ [62] := fun m => by simp
      refine lc_list (fun i6 acc ρ τ6 => acc = List.replicate i6 (.bl false) ∧ ∃ o17 : Option Sl, ρ = [none, some (.d (.fn r)), o2, o3, o4, o5, o6, o7, o8, o9, o10, o11, o12, o13, o14, some (.d (goodD CR)), some (.d (.lst (badsA CR ++ badsB CR))), o17, o18]) ⟨rfl, _, rfl⟩ ?_ ?_
      · rintro i6 x F6 acc ρ τ6 hx ⟨rfl, o17', rfl⟩ hF6
        have hm : x ∈ badsA CR ++ badsB CR := List.mem_of_getElem? hx
        walk_at "kd1"
        refine ⟨by omega, told_bad hm fun m hm => ?_⟩
        unfold tells
        walk_at "kd1"
        have hml : (m ++ [62]).length + 1 ≤ sizeLine := by
          have : List.length m ≤ 100 := hm
          simp only [List.length_append, List.length_cons, List.length_nil]
          omega
        refine ⟨hml, hF6 _ _ _ ⟨?_, _, rfl⟩⟩
        have e60 : decide (List.take 1 (60 :: (m ++ [62])) = [60]) = true := decide_eq_true rfl
        rw [e60, List.replicate_succ']
        rfl
      · rintro acc ρ τ6 ⟨rfl, o17', rfl⟩
        have e3 : ∀ n, List.replicate n (D.bl false) = (List.replicate n false).map D.bl := fun n => by rw [List.map_replicate]
        rw [e3, blsD_map]
        walk_at "kd1"
        rw [if_neg (by simp)]
        refine ⟨by omega, ?_⟩
        refine lc_list (fun i7 acc ρ τ7 => acc = List.replicate i7 (.str [60]) ∧ ∃ o18 : Option Sl, ρ = [none, some (.d (.fn r)), o2, o3, o4, o5, o6, o7, o8, o9, o10, o11, o12, o13, o14, some (.d (goodD CR)), some (.d (.lst (badsA CR ++ badsB CR))), o17', o18]) ⟨rfl, _, rfl⟩ ?_ ?_
        · rintro i7 x F7 acc ρ τ7 hx ⟨rfl, o18', rfl⟩ hF7
          have hm := List.mem_of_getElem? hx
          have hnl : dat x = true ∧ ∀ es, x ≠ .lst es := by
            simp only [List.mem_cons, List.not_mem_nil, or_false] at hm
            rcases hm with rfl | rfl | rfl <;> exact ⟨rfl, fun es e => nomatch e⟩
          walk_at "kd1"
          refine told_nolist hnl.1 hnl.2 fun m hm => ?_
          unfold tells
          walk_at "kd1"
          have hml : (m ++ [62]).length + 1 ≤ sizeLine := by
            have : List.length m ≤ 100 := hm
            simp only [List.length_append, List.length_cons, List.length_nil]
            omega
          exact ⟨hml, hF7 _ _ _ ⟨by rw [List.replicate_succ']; rfl, _, rfl⟩⟩
        · rintro acc ρ τ7 ⟨rfl, o18', rfl⟩
          refine ⟨by omega, ⟨by decide, by omega⟩, ⟨by decide, by decide, by decide⟩, ?_⟩
          rw [if_neg (by decide)]
          walk_at "kdh"
          refine told_write (ps := []) (by simp) (by decide) ?_
          show dat (.str []) = true ∧ _
          refine ⟨rfl, ?_⟩
          rw [if_neg (by decide)]
          refine told_read (by decide) ?_
          have er0 : readT CR [] = .lst [] := by
            unfold readT
            have := diary_text [] (by simp)
            have e0 : textOf [] = [] := rfl
            rw [e0] at this
            rw [this]
            rfl
          rw [er0]
          refine ⟨⟨rfl, by decide⟩, ?_⟩
          rw [if_neg (by decide)]
          walk_at "kdh"
          refine ⟨by omega, by omega, ?_⟩
          refine lc_list (fun i8 acc ρ τ8 => acc = List.replicate i8 (.str [60, 110, 111, 32, 116, 101, 120, 116, 62]) ∧ ∃ o18 : Option Sl, ρ = [none, some (.d (.fn r)), o2, o3, o4, o5, o6, o7, o8, o9, o10, o11, o12, o13, o14, some (.d (goodD CR)), some (.d (.lst (badsA CR ++ badsB CR))), o17', o18]) ⟨rfl, _, rfl⟩ ?_ ?_
          · rintro i8 x F8 acc ρ τ8 hx ⟨rfl, o18'', rfl⟩ hF8
            have hm := List.mem_of_getElem? hx
            have hnt : dat x = true ∧ ∀ l, x ≠ .str l := by
              simp only [List.mem_cons, List.not_mem_nil, or_false] at hm
              rcases hm with rfl | rfl | rfl <;> exact ⟨rfl, fun es e => nomatch e⟩
            walk_at "kd1"
            refine told_notext hnt.1 hnt.2 ?_
            exact hF8 _ _ _ ⟨by rw [List.replicate_succ'], _, rfl⟩
          · rintro acc ρ τ8 ⟨rfl, o18'', rfl⟩
            exact ⟨by omega, ⟨by decide, by omega⟩, ⟨by decide, by decide, by decide⟩, rfl⟩
end
end K66

namespace K66
open PySem PySem.Spec PyProof.Rows L2 KX KD KM M53
/-- an entry of a dict, as a key and a value -/
def kvOf (e : DictEntry) : Option Str × Option V := ((match e.key with | .str x _ => some x | _ => none), match e.val with | .bool b => some (.bl b) | .str x _ => some (.str x) | _ => none)
theorem kvOf_key {e : DictEntry} {x : Str} {v : Option V} (h : kvOf e = (some x, v)) : ∃ t, e.key = .str x t := by
  unfold kvOf at h
  have h1 := congrArg Prod.fst h
  cases hk : e.key with
  | str y t =>
    rw [hk] at h1
    have : y = x := Option.some.inj h1
    exact ⟨t, by rw [this]⟩
  | _ => rw [hk] at h1; cases h1
theorem kvOf_val {e : DictEntry} {k : Option Str} {v : V} (h : kvOf e = (k, some v)) : RelV v e.val := by
  unfold kvOf at h
  have h1 := congrArg Prod.snd h
  cases hk : e.val with
  | str y t =>
    rw [hk] at h1
    have : V.str y = v := Option.some.inj h1
    subst this
    exact ⟨t, rfl⟩
  | bool b =>
    rw [hk] at h1
    have : V.bl b = v := Option.some.inj h1
    subst this
    rfl
  | _ => rw [hk] at h1; cases h1
theorem signs_mk {K : PySem.W.Frag} {w : World} {mg : Str → Option Value} {dS : Addr} {es : Array DictEntry} {n : Nat} (g : mg "SIGNS" = some (.ref dS)) (at_ : K.lookup dS = some ⟨.type "dict", none, .dict es n, #[]⟩) (lit : PySem.W.KeysLit w.params es.toList)
    (low : (dS == sysModules) = false) (kv : es.toList.map kvOf = [(some (tx [43]), some (.bl true)), (some (tx [45]), some (.bl false)), (some (tx [46]), some (.str (tx [])))]) : Signs K w mg dS := by
  obtain ⟨e1, e2, e3, el⟩ : ∃ e1 e2 e3, es.toList = [e1, e2, e3] := by
    match hl : es.toList with
    | [e1, e2, e3] => exact ⟨e1, e2, e3, rfl⟩
    | [] => rw [hl] at kv; cases kv
    | [_] => rw [hl] at kv; simp at kv
    | [_, _] => rw [hl] at kv; simp at kv
    | _ :: _ :: _ :: _ :: _ => rw [hl] at kv; simp at kv
  rw [el] at kv
  simp only [List.map_cons, List.map_nil, List.cons.injEq, and_true] at kv
  obtain ⟨k1, k2, k3⟩ := kv
  obtain ⟨t1, q1⟩ := kvOf_key k1
  obtain ⟨t2, q2⟩ := kvOf_key k2
  obtain ⟨t3, q3⟩ := kvOf_key k3
  have r1 := kvOf_val k1
  have r2 := kvOf_val k2
  have r3 := kvOf_val k3
  have is : ∀ {e : DictEntry} {a : List Nat} {t : Tok}, e.key = .str (tx a) t → ∀ l, e.key.isStr (tx l) = decide (a = l) := by
    intro e a t h l
    rw [h]
    show (tx a == tx l) = _
    by_cases z : a = l
    · subst z
      rw [beq_self_eq_true, decide_eq_true rfl]
    · rw [decide_eq_false z]
      exact beq_eq_false_iff_ne.mpr fun y => z (tx_inj y)
  have ns : ∀ l, PySem.W.nsIn K dS (tx l) = match [e1, e2, e3].find? (·.key.isStr (tx l)) with | some e => some (some e.val) | none => if [e1, e2, e3].any (·.refKey) then none else some none := by
    intro l
    unfold PySem.W.nsIn
    rw [at_]
    show (match es.toList.find? _ with | some e => some (some e.val) | none => if es.toList.any _ then none else some none) = _
    rw [el]
  have rk : ∀ {e : DictEntry} {a : Str} {t : Tok}, e.key = .str a t → e.refKey = false := by
    intro e a t h
    unfold DictEntry.refKey
    rw [h]
  have nr : [e1, e2, e3].any (·.refKey) = false := by
    simp only [List.any_cons, List.any_nil, rk q1, rk q2, rk q3, Bool.or_self]
  refine ⟨⟨_, g, rfl⟩, ⟨es, n, ⟨at_, lit, low⟩⟩, fun l h => ?_, fun l v h => ?_⟩
  · rw [ns, nr]
    unfold sgnV at h
    have n1 : ¬ [43] = l := fun z => by rw [if_pos z.symm] at h; cases h
    rw [if_neg (fun z => n1 z.symm)] at h
    have n2 : ¬ [45] = l := fun z => by rw [if_pos z.symm] at h; cases h
    rw [if_neg (fun z => n2 z.symm)] at h
    have n3 : ¬ [46] = l := fun z => by rw [if_pos z.symm] at h; cases h
    have : [e1, e2, e3].find? (·.key.isStr (tx l)) = none := by
      simp only [List.find?_cons, List.find?_nil, is q1, is q2, is q3, decide_eq_false n1, decide_eq_false n2, decide_eq_false n3]
    rw [this]
    rfl
  · rw [ns]
    unfold sgnV at h
    by_cases h1 : l = [43]
    · rw [if_pos h1] at h
      cases h
      have : [e1, e2, e3].find? (·.key.isStr (tx l)) = some e1 := by
        simp only [List.find?_cons, is q1, decide_eq_true h1.symm]
      rw [this]
      exact ⟨_, rfl, r1⟩
    · rw [if_neg h1] at h
      by_cases h2 : l = [45]
      · rw [if_pos h2] at h
        cases h
        have : [e1, e2, e3].find? (·.key.isStr (tx l)) = some e2 := by
          simp only [List.find?_cons, is q1, is q2, decide_eq_false (fun z => h1 z.symm : ¬ [43] = l), decide_eq_true h2.symm]
        rw [this]
        exact ⟨_, rfl, r2⟩
      · rw [if_neg h2] at h
        by_cases h3 : l = [46]
        · rw [if_pos h3] at h
          cases h
          have : [e1, e2, e3].find? (·.key.isStr (tx l)) = some e3 := by
            simp only [List.find?_cons, is q1, is q2, is q3, decide_eq_false (fun z => h1 z.symm : ¬ [43] = l), decide_eq_false (fun z => h2 z.symm : ¬ [45] = l), decide_eq_true h3.symm]
          rw [this]
          exact ⟨_, rfl, r3⟩
        · rw [if_neg h3] at h
          cases h

theorem all_mk {l : PySem.W.OpenLaw} {w : World} {K : PySem.W.Frag} {h : Heap} {mg : Str → Option Value} {fa C CM dS CR TD0 T0 fK f1 f2 f3 f4 f5 f6 f7 f8 f9 f10 f11 f12 f13 f14 f15 f16 f17 f18 f19 f20 f21 f22 f23 f24 f25 f26 f27 f28 f29 f30 f31 : Addr} (X : K.In h) (G : h.Ns mainGlobals mg) (hfa : mg "law" = some (.ref fa))
    {od1 an1 od2 an2 od3 an3 od4 an4 od5 an5 od6 an6 od7 an7 od8 an8 od9 an9 od10 an10 od11 an11 od12 an12 od13 an13 od14 an14 od15 an15 od16 an16 od17 an17 od18 an18 od19 an19 od20 an20 od21 an21 od22 an22 od23 an23 od24 an24 od25 an25 od26 an26 od27 an27 od28 an28 od29 an29 od30 an30 od31 an31 : Option Addr} {sl1 sl2 sl3 sl4 sl5 sl6 sl7 sl8 sl9 sl10 sl11 sl12 sl13 sl14 sl15 sl16 sl17 sl18 sl19 sl20 sl21 sl22 sl23 sl24 sl25 sl26 sl27 sl28 sl29 sl30 sl31 : Array (Option Value)} {oc1 kV1 dc1 pm1 cd1 ct1 oc2 kV2 dc2 pm2 cd2 ct2 oc3 kV3 dc3 pm3 cd3 ct3 oc4 kV4 dc4 pm4 cd4 ct4 oc5 kV5 dc5 pm5 cd5 ct5 oc6 kV6 dc6 pm6 cd6 ct6 oc7 kV7 dc7 pm7 cd7 ct7 oc8 kV8 dc8 pm8 cd8 ct8 oc9 kV9 dc9 pm9 cd9 ct9 oc10 kV10 dc10 pm10 cd10 ct10 oc11 kV11 dc11 pm11 cd11 ct11 oc12 kV12 dc12 pm12 cd12 ct12 oc13 kV13 dc13 pm13 cd13 ct13 oc14 kV14 dc14 pm14 cd14 ct14 oc15 kV15 dc15 pm15 cd15 ct15 oc16 kV16 dc16 pm16 cd16 ct16 oc17 kV17 dc17 pm17 cd17 ct17 oc18 kV18 dc18 pm18 cd18 ct18 oc19 kV19 dc19 pm19 cd19 ct19 oc20 kV20 dc20 pm20 cd20 ct20 oc21 kV21 dc21 pm21 cd21 ct21 oc22 kV22 dc22 pm22 cd22 ct22 oc23 kV23 dc23 pm23 cd23 ct23 oc24 kV24 dc24 pm24 cd24 ct24 oc25 kV25 dc25 pm25 cd25 ct25 oc26 kV26 dc26 pm26 cd26 ct26 oc27 kV27 dc27 pm27 cd27 ct27 oc28 kV28 dc28 pm28 cd28 ct28 oc29 kV29 dc29 pm29 cd29 ct29 oc30 kV30 dc30 pm30 cd30 ct30 oc31 kV31 dc31 pm31 cd31 ct31 : Value} {yMOST_WORD yMOST_DEPTH yMOST_DIGITS yLETTERS yDIGITS : Tok} {es : Array DictEntry} {n nT nZ nK : Nat} {ocT : Value} {odT odZ odK : Option Addr} {slT slZ slK : Array (Option Value)} {itsT itsZ itsK : Array Value} {tkT tk1 tk2 tk3 : Tok}
    (aC : PySem.W.nsIn K mainGlobals "DataReader" = some (some (.ref C)))
    (aM : PySem.W.nsIn K mainGlobals "Malformed" = some (some (.ref CM)))
    (aS : PySem.W.nsIn K mainGlobals "SIGNS" = some (some (.ref dS)))
    (a1 : PySem.W.nsIn K mainGlobals "is_whole" = some (some (.ref f1)))
    (l1 : K.lookup f1 = some ⟨oc1, od1, .func (PySem.W.fnOf "is_whole" "is_whole" (defArgs s_is_whole) (defBody s_is_whole) (defScope s_is_whole) .none kV1 dc1 pm1 an1 cd1 ct1), sl1⟩)
    (c1 : PySem.W.codeIn K cd1 "is_whole" = true)
    (k1 : PySem.W.keepIn K (.ref f1) = true)
    (a2 : PySem.W.nsIn K mainGlobals "is_word" = some (some (.ref f2)))
    (l2 : K.lookup f2 = some ⟨oc2, od2, .func (PySem.W.fnOf "is_word" "is_word" (defArgs s_is_word) (defBody s_is_word) (defScope s_is_word) .none kV2 dc2 pm2 an2 cd2 ct2), sl2⟩)
    (c2 : PySem.W.codeIn K cd2 "is_word" = true)
    (k2 : PySem.W.keepIn K (.ref f2) = true)
    (a3 : PySem.W.nsIn K mainGlobals "is_short" = some (some (.ref f3)))
    (l3 : K.lookup f3 = some ⟨oc3, od3, .func (PySem.W.fnOf "is_short" "is_short" (defArgs s_is_short) (defBody s_is_short) (defScope s_is_short) .none kV3 dc3 pm3 an3 cd3 ct3), sl3⟩)
    (c3 : PySem.W.codeIn K cd3 "is_short" = true)
    (k3 : PySem.W.keepIn K (.ref f3) = true)
    (a4 : PySem.W.nsIn K mainGlobals "atom_text" = some (some (.ref f4)))
    (l4 : K.lookup f4 = some ⟨oc4, od4, .func (PySem.W.fnOf "atom_text" "atom_text" (defArgs s_atom_text) (defBody s_atom_text) (defScope s_atom_text) .none kV4 dc4 pm4 an4 cd4 ct4), sl4⟩)
    (c4 : PySem.W.codeIn K cd4 "atom_text" = true)
    (k4 : PySem.W.keepIn K (.ref f4) = true)
    (a5 : PySem.W.nsIn K mainGlobals "write_data" = some (some (.ref f5)))
    (l5 : K.lookup f5 = some ⟨oc5, od5, .func (PySem.W.fnOf "write_data" "write_data" (defArgs s_write_data) (defBody s_write_data) (defScope s_write_data) .none kV5 dc5 pm5 an5 cd5 ct5), sl5⟩)
    (c5 : PySem.W.codeIn K cd5 "write_data" = true)
    (k5 : PySem.W.keepIn K (.ref f5) = true)
    (a6 : PySem.W.nsIn K mainGlobals "read_whole" = some (some (.ref f6)))
    (l6 : K.lookup f6 = some ⟨oc6, od6, .func (PySem.W.fnOf "read_whole" "read_whole" (defArgs s_read_whole) (defBody s_read_whole) (defScope s_read_whole) .none kV6 dc6 pm6 an6 cd6 ct6), sl6⟩)
    (c6 : PySem.W.codeIn K cd6 "read_whole" = true)
    (k6 : PySem.W.keepIn K (.ref f6) = true)
    (a7 : PySem.W.nsIn K mainGlobals "read_atom" = some (some (.ref f7)))
    (l7 : K.lookup f7 = some ⟨oc7, od7, .func (PySem.W.fnOf "read_atom" "read_atom" (defArgs s_read_atom) (defBody s_read_atom) (defScope s_read_atom) .none kV7 dc7 pm7 an7 cd7 ct7), sl7⟩)
    (c7 : PySem.W.codeIn K cd7 "read_atom" = true)
    (k7 : PySem.W.keepIn K (.ref f7) = true)
    (a8 : PySem.W.nsIn K mainGlobals "pieces_of" = some (some (.ref f8)))
    (l8 : K.lookup f8 = some ⟨oc8, od8, .func (PySem.W.fnOf "pieces_of" "pieces_of" (defArgs s_pieces_of) (defBody s_pieces_of) (defScope s_pieces_of) .none kV8 dc8 pm8 an8 cd8 ct8), sl8⟩)
    (c8 : PySem.W.codeIn K cd8 "pieces_of" = true)
    (k8 : PySem.W.keepIn K (.ref f8) = true)
    (a9 : PySem.W.nsIn K mainGlobals "read_data" = some (some (.ref f9)))
    (l9 : K.lookup f9 = some ⟨oc9, od9, .func (PySem.W.fnOf "read_data" "read_data" (defArgs s_read_data) (defBody s_read_data) (defScope s_read_data) .none kV9 dc9 pm9 an9 cd9 ct9), sl9⟩)
    (c9 : PySem.W.codeIn K cd9 "read_data" = true)
    (k9 : PySem.W.keepIn K (.ref f9) = true)
    (a10 : PySem.W.nsIn K mainGlobals "is_same" = some (some (.ref f10)))
    (l10 : K.lookup f10 = some ⟨oc10, od10, .func (PySem.W.fnOf "is_same" "is_same" (defArgs s_is_same) (defBody s_is_same) (defScope s_is_same) .none kV10 dc10 pm10 an10 cd10 ct10), sl10⟩)
    (c10 : PySem.W.codeIn K cd10 "is_same" = true)
    (k10 : PySem.W.keepIn K (.ref f10) = true)
    (a11 : PySem.W.nsIn K mainGlobals "is_text" = some (some (.ref f11)))
    (l11 : K.lookup f11 = some ⟨oc11, od11, .func (PySem.W.fnOf "is_text" "is_text" (defArgs s_is_text) (defBody s_is_text) (defScope s_is_text) .none kV11 dc11 pm11 an11 cd11 ct11), sl11⟩)
    (c11 : PySem.W.codeIn K cd11 "is_text" = true)
    (k11 : PySem.W.keepIn K (.ref f11) = true)
    (a12 : PySem.W.nsIn K mainGlobals "write_diary" = some (some (.ref f12)))
    (l12 : K.lookup f12 = some ⟨oc12, od12, .func (PySem.W.fnOf "write_diary" "write_diary" (defArgs s_write_diary) (defBody s_write_diary) (defScope s_write_diary) .none kV12 dc12 pm12 an12 cd12 ct12), sl12⟩)
    (c12 : PySem.W.codeIn K cd12 "write_diary" = true)
    (k12 : PySem.W.keepIn K (.ref f12) = true)
    (a13 : PySem.W.nsIn K mainGlobals "read_part" = some (some (.ref f13)))
    (l13 : K.lookup f13 = some ⟨oc13, od13, .func (PySem.W.fnOf "read_part" "read_part" (defArgs s_read_part) (defBody s_read_part) (defScope s_read_part) .none kV13 dc13 pm13 an13 cd13 ct13), sl13⟩)
    (c13 : PySem.W.codeIn K cd13 "read_part" = true)
    (k13 : PySem.W.keepIn K (.ref f13) = true)
    (a14 : PySem.W.nsIn K mainGlobals "read_diary" = some (some (.ref f14)))
    (l14 : K.lookup f14 = some ⟨oc14, od14, .func (PySem.W.fnOf "read_diary" "read_diary" (defArgs s_read_diary) (defBody s_read_diary) (defScope s_read_diary) .none kV14 dc14 pm14 an14 cd14 ct14), sl14⟩)
    (c14 : PySem.W.codeIn K cd14 "read_diary" = true)
    (k14 : PySem.W.keepIn K (.ref f14) = true)
    (a15 : PySem.W.nsIn K mainGlobals "_law_draw" = some (some (.ref f15)))
    (l15 : K.lookup f15 = some ⟨oc15, od15, .func (PySem.W.fnOf "_law_draw" "_law_draw" (defArgs s__law_draw) (defBody s__law_draw) (defScope s__law_draw) .none kV15 dc15 pm15 an15 cd15 ct15), sl15⟩)
    (c15 : PySem.W.codeIn K cd15 "_law_draw" = true)
    (k15 : PySem.W.keepIn K (.ref f15) = true)
    (a16 : PySem.W.nsIn K mainGlobals "_law_take" = some (some (.ref f16)))
    (l16 : K.lookup f16 = some ⟨oc16, od16, .func (PySem.W.fnOf "_law_take" "_law_take" (defArgs s__law_take) (defBody s__law_take) (defScope s__law_take) .none kV16 dc16 pm16 an16 cd16 ct16), sl16⟩)
    (c16 : PySem.W.codeIn K cd16 "_law_take" = true)
    (k16 : PySem.W.keepIn K (.ref f16) = true)
    (a17 : PySem.W.nsIn K mainGlobals "_law_data" = some (some (.ref f17)))
    (l17 : K.lookup f17 = some ⟨oc17, od17, .func (PySem.W.fnOf "_law_data" "_law_data" (defArgs s__law_data) (defBody s__law_data) (defScope s__law_data) .none kV17 dc17 pm17 an17 cd17 ct17), sl17⟩)
    (c17 : PySem.W.codeIn K cd17 "_law_data" = true)
    (k17 : PySem.W.keepIn K (.ref f17) = true)
    (a18 : PySem.W.nsIn K mainGlobals "_law_is_word" = some (some (.ref f18)))
    (l18 : K.lookup f18 = some ⟨oc18, od18, .func (PySem.W.fnOf "_law_is_word" "_law_is_word" (defArgs s__law_is_word) (defBody s__law_is_word) (defScope s__law_is_word) .none kV18 dc18 pm18 an18 cd18 ct18), sl18⟩)
    (c18 : PySem.W.codeIn K cd18 "_law_is_word" = true)
    (k18 : PySem.W.keepIn K (.ref f18) = true)
    (a19 : PySem.W.nsIn K mainGlobals "_law_read" = some (some (.ref f19)))
    (l19 : K.lookup f19 = some ⟨oc19, od19, .func (PySem.W.fnOf "_law_read" "_law_read" (defArgs s__law_read) (defBody s__law_read) (defScope s__law_read) .none kV19 dc19 pm19 an19 cd19 ct19), sl19⟩)
    (c19 : PySem.W.codeIn K cd19 "_law_read" = true)
    (k19 : PySem.W.keepIn K (.ref f19) = true)
    (a20 : PySem.W.nsIn K mainGlobals "_law_due" = some (some (.ref f20)))
    (l20 : K.lookup f20 = some ⟨oc20, od20, .func (PySem.W.fnOf "_law_due" "_law_due" (defArgs s__law_due) (defBody s__law_due) (defScope s__law_due) .none kV20 dc20 pm20 an20 cd20 ct20), sl20⟩)
    (c20 : PySem.W.codeIn K cd20 "_law_due" = true)
    (k20 : PySem.W.keepIn K (.ref f20) = true)
    (a21 : PySem.W.nsIn K mainGlobals "_law_told" = some (some (.ref f21)))
    (l21 : K.lookup f21 = some ⟨oc21, od21, .func (PySem.W.fnOf "_law_told" "_law_told" (defArgs s__law_told) (defBody s__law_told) (defScope s__law_told) .none kV21 dc21 pm21 an21 cd21 ct21), sl21⟩)
    (c21 : PySem.W.codeIn K cd21 "_law_told" = true)
    (k21 : PySem.W.keepIn K (.ref f21) = true)
    (a22 : PySem.W.nsIn K mainGlobals "_law_fits" = some (some (.ref f22)))
    (l22 : K.lookup f22 = some ⟨oc22, od22, .func (PySem.W.fnOf "_law_fits" "_law_fits" (defArgs s__law_fits) (defBody s__law_fits) (defScope s__law_fits) .none kV22 dc22 pm22 an22 cd22 ct22), sl22⟩)
    (c22 : PySem.W.codeIn K cd22 "_law_fits" = true)
    (k22 : PySem.W.keepIn K (.ref f22) = true)
    (a23 : PySem.W.nsIn K mainGlobals "law" = some (some (.ref f23)))
    (l23 : K.lookup f23 = some ⟨oc23, od23, .func (PySem.W.fnOf "law" "law" (defArgs s_law) (defBody s_law) (defScope s_law) .none kV23 dc23 pm23 an23 cd23 ct23), sl23⟩)
    (c23 : PySem.W.codeIn K cd23 "law" = true)
    (k23 : PySem.W.keepIn K (.ref f23) = true)
    (a24 : PySem.W.findIn K (.ref C) "__init__" = some (some (.ref f24)))
    (i24 : PySem.W.isFn K (.ref f24) = true)
    (l24 : K.lookup f24 = some ⟨oc24, od24, .func (PySem.W.fnOf "__init__" "DataReader.__init__" (defArgs s_DataReader___init__) (defBody s_DataReader___init__) (defScope s_DataReader___init__) .none kV24 dc24 pm24 an24 cd24 ct24), sl24⟩)
    (c24 : PySem.W.codeIn K cd24 "DataReader.__init__" = true)
    (k24 : PySem.W.keepIn K (.ref f24) = true)
    (a25 : PySem.W.findIn K (.ref C) "item" = some (some (.ref f25)))
    (i25 : PySem.W.isFn K (.ref f25) = true)
    (l25 : K.lookup f25 = some ⟨oc25, od25, .func (PySem.W.fnOf "item" "DataReader.item" (defArgs s_DataReader_item) (defBody s_DataReader_item) (defScope s_DataReader_item) .none kV25 dc25 pm25 an25 cd25 ct25), sl25⟩)
    (c25 : PySem.W.codeIn K cd25 "DataReader.item" = true)
    (k25 : PySem.W.keepIn K (.ref f25) = true)
    (a26 : PySem.W.findIn K (.ref C) "open_one" = some (some (.ref f26)))
    (i26 : PySem.W.isFn K (.ref f26) = true)
    (l26 : K.lookup f26 = some ⟨oc26, od26, .func (PySem.W.fnOf "open_one" "DataReader.open_one" (defArgs s_DataReader_open_one) (defBody s_DataReader_open_one) (defScope s_DataReader_open_one) .none kV26 dc26 pm26 an26 cd26 ct26), sl26⟩)
    (c26 : PySem.W.codeIn K cd26 "DataReader.open_one" = true)
    (k26 : PySem.W.keepIn K (.ref f26) = true)
    (a27 : PySem.W.findIn K (.ref C) "close_one" = some (some (.ref f27)))
    (i27 : PySem.W.isFn K (.ref f27) = true)
    (l27 : K.lookup f27 = some ⟨oc27, od27, .func (PySem.W.fnOf "close_one" "DataReader.close_one" (defArgs s_DataReader_close_one) (defBody s_DataReader_close_one) (defScope s_DataReader_close_one) .none kV27 dc27 pm27 an27 cd27 ct27), sl27⟩)
    (c27 : PySem.W.codeIn K cd27 "DataReader.close_one" = true)
    (k27 : PySem.W.keepIn K (.ref f27) = true)
    (a28 : PySem.W.findIn K (.ref C) "comma" = some (some (.ref f28)))
    (i28 : PySem.W.isFn K (.ref f28) = true)
    (l28 : K.lookup f28 = some ⟨oc28, od28, .func (PySem.W.fnOf "comma" "DataReader.comma" (defArgs s_DataReader_comma) (defBody s_DataReader_comma) (defScope s_DataReader_comma) .none kV28 dc28 pm28 an28 cd28 ct28), sl28⟩)
    (c28 : PySem.W.codeIn K cd28 "DataReader.comma" = true)
    (k28 : PySem.W.keepIn K (.ref f28) = true)
    (a29 : PySem.W.findIn K (.ref C) "take" = some (some (.ref f29)))
    (i29 : PySem.W.isFn K (.ref f29) = true)
    (l29 : K.lookup f29 = some ⟨oc29, od29, .func (PySem.W.fnOf "take" "DataReader.take" (defArgs s_DataReader_take) (defBody s_DataReader_take) (defScope s_DataReader_take) .none kV29 dc29 pm29 an29 cd29 ct29), sl29⟩)
    (c29 : PySem.W.codeIn K cd29 "DataReader.take" = true)
    (k29 : PySem.W.keepIn K (.ref f29) = true)
    (pgC : PySem.W.plainGet K C Str.empty = true)
    (hdC : PySem.W.hasDictIn K C = true)
    (poC : PySem.W.plainOver K C = true)
    (saC : PySem.W.findIn K (.ref C) "__setattr__" = some (some (.builtin "object.__setattr__")))
    (mkC : PySem.W.makesIn K C = true)
    (kcC : PySem.W.keepIn K (.ref C) = true)
    (n1 : PySem.W.findIn K (.ref C) "tuples" = some none)
    (n2 : PySem.W.findIn K (.ref C) "ready" = some none)
    (n3 : PySem.W.findIn K (.ref C) "told" = some none)
    (aR : PySem.W.nsIn K mainGlobals "Reply" = some (some (.ref CR)))
    (a30 : PySem.W.findIn K (.ref CR) "__init__" = some (some (.ref f30)))
    (i30 : PySem.W.isFn K (.ref f30) = true)
    (l30 : K.lookup f30 = some ⟨oc30, od30, .func (PySem.W.fnOf "__init__" "Reply.__init__" (defArgs s_Reply___init__) (defBody s_Reply___init__) (defScope s_Reply___init__) (.ref TD0) kV30 dc30 pm30 an30 cd30 ct30), sl30⟩)
    (c30 : PySem.W.codeIn K cd30 "Reply.__init__" = true)
    (k30 : PySem.W.keepIn K (.ref f30) = true)
    (a31 : PySem.W.findIn K (.ref CR) "__eq__" = some (some (.ref f31)))
    (i31 : PySem.W.isFn K (.ref f31) = true)
    (l31 : K.lookup f31 = some ⟨oc31, od31, .func (PySem.W.fnOf "__eq__" "Reply.__eq__" (defArgs s_Reply___eq__) (defBody s_Reply___eq__) (defScope s_Reply___eq__) .none kV31 dc31 pm31 an31 cd31 ct31), sl31⟩)
    (c31 : PySem.W.codeIn K cd31 "Reply.__eq__" = true)
    (k31 : PySem.W.keepIn K (.ref f31) = true)
    (pgR : PySem.W.plainGet K CR Str.empty = true)
    (hdR : PySem.W.hasDictIn K CR = true)
    (poR : PySem.W.plainOver K CR = true)
    (saR : PySem.W.findIn K (.ref CR) "__setattr__" = some (some (.builtin "object.__setattr__")))
    (mkR : PySem.W.makesIn K CR = true)
    (kcR : PySem.W.keepIn K (.ref CR) = true)
    (nR1 : PySem.W.findIn K (.ref CR) "kind" = some none)
    (nR2 : PySem.W.findIn K (.ref CR) "text" = some none)
    (nR3 : PySem.W.findIn K (.ref CR) "data" = some none)
    (haR : PySem.W.findIn K (.ref CR) "__class__" = some (some (.builtin "object.__class__")))
    (hnR : PySem.W.specialIn K (.builtin "object.__class__") "__get__" = some (some (.builtin "getset_descriptor.__get__")))
    (htkR : PySem.W.takesIn K (.builtin "object.__class__") = some true)
    (hmR : PySem.W.mroIn K CR (.type "object") = some true)
    (meR : PySem.W.kitOne K (.ref CR) (.ref CR) = some true)
    (no_NoneType : PySem.W.kitOne K (.type "NoneType") (.ref CR) = some false)
    (no_bool : PySem.W.kitOne K (.type "bool") (.ref CR) = some false)
    (no_int : PySem.W.kitOne K (.type "int") (.ref CR) = some false)
    (no_str : PySem.W.kitOne K (.type "str") (.ref CR) = some false)
    (no_list : PySem.W.kitOne K (.type "list") (.ref CR) = some false)
    (no_tuple : PySem.W.kitOne K (.type "tuple") (.ref CR) = some false)
    (strM : PySem.W.findIn K (.ref CM) "__str__" = some (some (.builtin "BaseException.__str__")))
    (tAt : K.lookup TD0 = some ⟨ocT, odT, .seq itsT nT, slT⟩)
    (tIt : itsT.toList = [.str (tx []) tkT, .ref T0])
    (zAt : K.lookup T0 = some ⟨.type "tuple", odZ, .seq itsZ nZ, slZ⟩)
    (zIt : itsZ.toList = [])
    (aK : PySem.W.nsIn K mainGlobals "MARKS" = some (some (.ref fK)))
    (mAt : K.lookup fK = some ⟨.type "tuple", odK, .seq itsK nK, slK⟩)
    (mIt : itsK.toList = [.str (tx [62, 32]) tk1, .str (tx [61, 32]) tk2, .str (tx [35, 32]) tk3])
    (z_zip : PySem.W.nsIn K mainGlobals "zip" = some none)
    (xM : PySem.W.excIn K CM [.type "ValueError", .type "Exception", .type "BaseException", .type "object"] "ValueError.__new__" = true)
    (kM : PySem.W.keepIn K (.ref CM) = true)
    (bM : PySem.W.subIn K (.ref CM) (.type "BaseException") = some true)
    (tM : PySem.W.typeIn K (.ref CM) = some (.type "type"))
    (hM : PySem.W.hasDictIn K CM = true)
    (sM : PySem.W.subIn K (.ref CM) (.ref CM) = some true)
    (z_isinstance : PySem.W.nsIn K mainGlobals "isinstance" = some none)
    (z_int : PySem.W.nsIn K mainGlobals "int" = some none)
    (z_bool : PySem.W.nsIn K mainGlobals "bool" = some none)
    (z_str : PySem.W.nsIn K mainGlobals "str" = some none)
    (z_tuple : PySem.W.nsIn K mainGlobals "tuple" = some none)
    (z_len : PySem.W.nsIn K mainGlobals "len" = some none)
    (z_all : PySem.W.nsIn K mainGlobals "all" = some none)
    (z_any : PySem.W.nsIn K mainGlobals "any" = some none)
    (z_abs : PySem.W.nsIn K mainGlobals "abs" = some none)
    (z_range : PySem.W.nsIn K mainGlobals "range" = some none)
    (z_list : PySem.W.nsIn K mainGlobals "list" = some none)
    (z_enumerate : PySem.W.nsIn K mainGlobals "enumerate" = some none)
    (y_MOST_WORD : PySem.W.nsIn K mainGlobals "MOST_WORD" = some (some (.int 12 yMOST_WORD)))
    (y_MOST_DEPTH : PySem.W.nsIn K mainGlobals "MOST_DEPTH" = some (some (.int 1000 yMOST_DEPTH)))
    (y_MOST_DIGITS : PySem.W.nsIn K mainGlobals "MOST_DIGITS" = some (some (.int 4000 yMOST_DIGITS)))
    (y_LETTERS : PySem.W.nsIn K mainGlobals "LETTERS" = some (some (.str "abcdefghijklmnopqrstuvwxyz" yLETTERS)))
    (y_DIGITS : PySem.W.nsIn K mainGlobals "DIGITS" = some (some (.str "0123456789" yDIGITS)))
    (dAt : K.lookup dS = some ⟨.type "dict", none, .dict es n, #[]⟩)
    (dLit : PySem.W.KeysLit w.params es.toList)
    (dLow : (dS == sysModules) = false)
    (dKV : es.toList.map kvOf = [(some (tx [43]), some (.bl true)), (some (tx [45]), some (.bl false)), (some (tx [46]), some (.str (tx [])))]) :
    ∃ fd : FuncData, (∀ (s : Shared) (v : Value), BindsTo s fd ⟨[v], []⟩ [("script", v)]) ∧ ∀ base : Heap, K.In base → base.Ns mainGlobals mg → base.NoDigits → RunG l.prog w K mg base CX0 21 fa fd ["script"] (spLaw K) := by
  have e := hfa.symm.trans (PySem.W.mg_of X G a23)
  cases e
  have xm : ExcAt K mg "Malformed" CM := ⟨xM, PySem.W.mg_of X G aM, kM, bM, tM, PySem.W.exm_ref bM hM tM sM⟩
  have T : Txt K mg CM := { x_Malformed := xm, b_isinstance := PySem.W.mg_none_of X G z_isinstance, b_int := PySem.W.mg_none_of X G z_int, b_bool := PySem.W.mg_none_of X G z_bool, b_str := PySem.W.mg_none_of X G z_str, b_tuple := PySem.W.mg_none_of X G z_tuple, b_len := PySem.W.mg_none_of X G z_len, b_all := PySem.W.mg_none_of X G z_all, b_any := PySem.W.mg_none_of X G z_any, b_abs := PySem.W.mg_none_of X G z_abs, b_range := PySem.W.mg_none_of X G z_range, b_list := PySem.W.mg_none_of X G z_list, b_enumerate := PySem.W.mg_none_of X G z_enumerate, g_MOST_WORD := ⟨_, PySem.W.mg_of X G y_MOST_WORD, ⟨_, rfl⟩⟩, g_MOST_DEPTH := ⟨_, PySem.W.mg_of X G y_MOST_DEPTH, ⟨_, rfl⟩⟩, g_MOST_DIGITS := ⟨_, PySem.W.mg_of X G y_MOST_DIGITS, ⟨_, rfl⟩⟩, g_LETTERS := ⟨_, PySem.W.mg_of X G y_LETTERS, ⟨_, rfl⟩⟩, g_DIGITS := ⟨_, PySem.W.mg_of X G y_DIGITS, ⟨_, rfl⟩⟩ }
  have S : Signs K w mg dS := signs_mk (PySem.W.mg_of X G aS) dAt dLit dLow dKV
  have RT : RdT K C := ⟨⟨pgC, hdC, poC, saC⟩, n1, n2, n3⟩
  have F1 := fun_mk (st := s_is_whole) l1 c1 k1
  have b1 := F1.binds (ps := ["value"]) fun _ _ _ _ _ _ us hl => match us, hl with | [_], _ => rfl
  have D_is_whole : DefAt K mg "is_whole" s_is_whole f1 _ ["value"] := ⟨F1, PySem.W.mg_of X G a1, b1⟩
  have F2 := fun_mk (st := s_is_word) l2 c2 k2
  have b2 := F2.binds (ps := ["value"]) fun _ _ _ _ _ _ us hl => match us, hl with | [_], _ => rfl
  have D_is_word : DefAt K mg "is_word" s_is_word f2 _ ["value"] := ⟨F2, PySem.W.mg_of X G a2, b2⟩
  have F3 := fun_mk (st := s_is_short) l3 c3 k3
  have b3 := F3.binds (ps := ["value"]) fun _ _ _ _ _ _ us hl => match us, hl with | [_], _ => rfl
  have D_is_short : DefAt K mg "is_short" s_is_short f3 _ ["value"] := ⟨F3, PySem.W.mg_of X G a3, b3⟩
  have F4 := fun_mk (st := s_atom_text) l4 c4 k4
  have b4 := F4.binds (ps := ["value"]) fun _ _ _ _ _ _ us hl => match us, hl with | [_], _ => rfl
  have D_atom_text : DefAt K mg "atom_text" s_atom_text f4 _ ["value"] := ⟨F4, PySem.W.mg_of X G a4, b4⟩
  have F5 := fun_mk (st := s_write_data) l5 c5 k5
  have b5 := F5.binds (ps := ["data"]) fun _ _ _ _ _ _ us hl => match us, hl with | [_], _ => rfl
  have D_write_data : DefAt K mg "write_data" s_write_data f5 _ ["data"] := ⟨F5, PySem.W.mg_of X G a5, b5⟩
  have F6 := fun_mk (st := s_read_whole) l6 c6 k6
  have b6 := F6.binds (ps := ["text"]) fun _ _ _ _ _ _ us hl => match us, hl with | [_], _ => rfl
  have D_read_whole : DefAt K mg "read_whole" s_read_whole f6 _ ["text"] := ⟨F6, PySem.W.mg_of X G a6, b6⟩
  have F7 := fun_mk (st := s_read_atom) l7 c7 k7
  have b7 := F7.binds (ps := ["piece"]) fun _ _ _ _ _ _ us hl => match us, hl with | [_], _ => rfl
  have D_read_atom : DefAt K mg "read_atom" s_read_atom f7 _ ["piece"] := ⟨F7, PySem.W.mg_of X G a7, b7⟩
  have F8 := fun_mk (st := s_pieces_of) l8 c8 k8
  have b8 := F8.binds (ps := ["text"]) fun _ _ _ _ _ _ us hl => match us, hl with | [_], _ => rfl
  have D_pieces_of : DefAt K mg "pieces_of" s_pieces_of f8 _ ["text"] := ⟨F8, PySem.W.mg_of X G a8, b8⟩
  have F9 := fun_mk (st := s_read_data) l9 c9 k9
  have b9 := F9.binds (ps := ["text"]) fun _ _ _ _ _ _ us hl => match us, hl with | [_], _ => rfl
  have D_read_data : DefAt K mg "read_data" s_read_data f9 _ ["text"] := ⟨F9, PySem.W.mg_of X G a9, b9⟩
  have F10 := fun_mk (st := s_is_same) l10 c10 k10
  have b10 := F10.binds (ps := ["one", "two"]) fun _ _ _ _ _ _ us hl => match us, hl with | [_, _], _ => rfl
  have D_is_same : DefAt K mg "is_same" s_is_same f10 _ ["one", "two"] := ⟨F10, PySem.W.mg_of X G a10, b10⟩
  have F11 := fun_mk (st := s_is_text) l11 c11 k11
  have b11 := F11.binds (ps := ["value"]) fun _ _ _ _ _ _ us hl => match us, hl with | [_], _ => rfl
  have D_is_text : DefAt K mg "is_text" s_is_text f11 _ ["value"] := ⟨F11, PySem.W.mg_of X G a11, b11⟩
  have F12 := fun_mk (st := s_write_diary) l12 c12 k12
  have b12 := F12.binds (ps := ["entries"]) fun _ _ _ _ _ _ us hl => match us, hl with | [_], _ => rfl
  have D_write_diary : DefAt K mg "write_diary" s_write_diary f12 _ ["entries"] := ⟨F12, PySem.W.mg_of X G a12, b12⟩
  have F13 := fun_mk (st := s_read_part) l13 c13 k13
  have b13 := F13.binds (ps := ["line", "k"]) fun _ _ _ _ _ _ us hl => match us, hl with | [_, _], _ => rfl
  have D_read_part : DefAt K mg "read_part" s_read_part f13 _ ["line", "k"] := ⟨F13, PySem.W.mg_of X G a13, b13⟩
  have F14 := fun_mk (st := s_read_diary) l14 c14 k14
  have b14 := F14.binds (ps := ["text"]) fun _ _ _ _ _ _ us hl => match us, hl with | [_], _ => rfl
  have D_read_diary : DefAt K mg "read_diary" s_read_diary f14 _ ["text"] := ⟨F14, PySem.W.mg_of X G a14, b14⟩
  have F15 := fun_mk (st := s__law_draw) l15 c15 k15
  have b15 := F15.binds (ps := ["script"]) fun _ _ _ _ _ _ us hl => match us, hl with | [_], _ => rfl
  have D__law_draw : DefAt K mg "_law_draw" s__law_draw f15 _ ["script"] := ⟨F15, PySem.W.mg_of X G a15, b15⟩
  have F16 := fun_mk (st := s__law_take) l16 c16 k16
  have b16 := F16.binds (ps := ["draw", "many"]) fun _ _ _ _ _ _ us hl => match us, hl with | [_, _], _ => rfl
  have D__law_take : DefAt K mg "_law_take" s__law_take f16 _ ["draw", "many"] := ⟨F16, PySem.W.mg_of X G a16, b16⟩
  have F17 := fun_mk (st := s__law_data) l17 c17 k17
  have b17 := F17.binds (ps := ["draw", "deep"]) fun _ _ _ _ _ _ us hl => match us, hl with | [_, _], _ => rfl
  have D__law_data : DefAt K mg "_law_data" s__law_data f17 _ ["draw", "deep"] := ⟨F17, PySem.W.mg_of X G a17, b17⟩
  have F18 := fun_mk (st := s__law_is_word) l18 c18 k18
  have b18 := F18.binds (ps := ["value"]) fun _ _ _ _ _ _ us hl => match us, hl with | [_], _ => rfl
  have D__law_is_word : DefAt K mg "_law_is_word" s__law_is_word f18 _ ["value"] := ⟨F18, PySem.W.mg_of X G a18, b18⟩
  have F19 := fun_mk (st := s__law_read) l19 c19 k19
  have b19 := F19.binds (ps := ["text"]) fun _ _ _ _ _ _ us hl => match us, hl with | [_], _ => rfl
  have D__law_read : DefAt K mg "_law_read" s__law_read f19 _ ["text"] := ⟨F19, PySem.W.mg_of X G a19, b19⟩
  have F20 := fun_mk (st := s__law_due) l20 c20 k20
  have b20 := F20.binds (ps := ["text"]) fun _ _ _ _ _ _ us hl => match us, hl with | [_], _ => rfl
  have D__law_due : DefAt K mg "_law_due" s__law_due f20 _ ["text"] := ⟨F20, PySem.W.mg_of X G a20, b20⟩
  have F21 := fun_mk (st := s__law_told) l21 c21 k21
  have b21 := F21.binds (ps := ["which", "value"]) fun _ _ _ _ _ _ us hl => match us, hl with | [_, _], _ => rfl
  have D__law_told : DefAt K mg "_law_told" s__law_told f21 _ ["which", "value"] := ⟨F21, PySem.W.mg_of X G a21, b21⟩
  have F22 := fun_mk (st := s__law_fits) l22 c22 k22
  have b22 := F22.binds (ps := ["told", "due"]) fun _ _ _ _ _ _ us hl => match us, hl with | [_, _], _ => rfl
  have D__law_fits : DefAt K mg "_law_fits" s__law_fits f22 _ ["told", "due"] := ⟨F22, PySem.W.mg_of X G a22, b22⟩
  have F23 := fun_mk (st := s_law) l23 c23 k23
  have F24 := fun_mk (st := s_DataReader___init__) l24 c24 k24
  have b24 := F24.binds (ps := ["self"]) fun _ _ _ _ _ _ us hl => match us, hl with | [_], _ => rfl
  have D_DataReader : ClassAt K mg "DataReader" "DataReader.__init__" C s_DataReader___init__ f24 _ ["self"] := ⟨F24, ⟨mkC, a24, i24, kcC⟩, PySem.W.mg_of X G aC, b24⟩
  have F25 := fun_mk (st := s_DataReader_item) l25 c25 k25
  have b25 := F25.binds (ps := ["self", "value"]) fun _ _ _ _ _ _ us hl => match us, hl with | [_, _], _ => rfl
  have D_DataReader_item : MethAt K C "item" "DataReader.item" s_DataReader_item f25 _ ["self", "value"] := ⟨F25, ⟨a25, i25, k25⟩, b25⟩
  have F26 := fun_mk (st := s_DataReader_open_one) l26 c26 k26
  have b26 := F26.binds (ps := ["self"]) fun _ _ _ _ _ _ us hl => match us, hl with | [_], _ => rfl
  have D_DataReader_open_one : MethAt K C "open_one" "DataReader.open_one" s_DataReader_open_one f26 _ ["self"] := ⟨F26, ⟨a26, i26, k26⟩, b26⟩
  have F27 := fun_mk (st := s_DataReader_close_one) l27 c27 k27
  have b27 := F27.binds (ps := ["self"]) fun _ _ _ _ _ _ us hl => match us, hl with | [_], _ => rfl
  have D_DataReader_close_one : MethAt K C "close_one" "DataReader.close_one" s_DataReader_close_one f27 _ ["self"] := ⟨F27, ⟨a27, i27, k27⟩, b27⟩
  have F28 := fun_mk (st := s_DataReader_comma) l28 c28 k28
  have b28 := F28.binds (ps := ["self"]) fun _ _ _ _ _ _ us hl => match us, hl with | [_], _ => rfl
  have D_DataReader_comma : MethAt K C "comma" "DataReader.comma" s_DataReader_comma f28 _ ["self"] := ⟨F28, ⟨a28, i28, k28⟩, b28⟩
  have F29 := fun_mk (st := s_DataReader_take) l29 c29 k29
  have b29 := F29.binds (ps := ["self", "piece"]) fun _ _ _ _ _ _ us hl => match us, hl with | [_, _], _ => rfl
  have D_DataReader_take : MethAt K C "take" "DataReader.take" s_DataReader_take f29 _ ["self", "piece"] := ⟨F29, ⟨a29, i29, k29⟩, b29⟩
  refine ⟨PySem.W.fnOf "law" "law" (defArgs s_law) (defBody s_law) (defScope s_law) .none kV23 dc23 pm23 an23 cd23 ct23, fun s v => .of_eq rfl, fun base _ _ nd => ?_⟩
  have SZ : ∀ (H : Hp), SqT K H T0 [] := fun H => .inr ⟨_, _, _, zAt, rfl, rfl, by rw [← Array.length_toList, zIt]; exact (by decide : 0 ≤ sizeLine), by rw [zIt]; exact .nil⟩
  have SK : ∀ (H : Hp), SqT K H fK [.str (tx [62, 32]), .str (tx [61, 32]), .str (tx [35, 32])] := fun H => .inr ⟨_, _, _, mAt, rfl, rfl, by rw [← Array.length_toList, mIt]; exact (by decide : 3 ≤ sizeLine), by rw [mIt]; exact .cons ⟨_, rfl⟩ (.cons ⟨_, rfl⟩ (.cons ⟨_, rfl⟩ .nil))⟩
  have OC : OwnC K CR := ⟨⟨pgR, hdR, poR, saR⟩, haR, hnR, htkR, hmR, meR, fun k hk => by rcases hk with rfl | rfl | rfl | rfl | rfl | rfl <;> assumption⟩
  have T2 : TD K mg CM CR := { T with g_MARKS := ⟨_, .ref fK, PySem.W.mg_of X G aK, rfl, fun fo H => .tup (SK H) (.cons (.str _) (.cons (.str _) (.cons (.str _) .nil)))⟩, gC_Reply := PySem.W.mg_of X G aR, b_zip := PySem.W.mg_none_of X G z_zip, o_Reply := OC, n_kind := nR1, n_text := nR2, n_data := nR3, s_str := strM }
  have Fe := fun_mk (st := s_Reply___eq__) l31 c31 k31
  have be := Fe.binds (ps := ["self", "other"]) fun _ _ _ _ _ _ us hl => match us, hl with | [_, _], _ => rfl
  have T3 : TE66 K mg CM CR f31 _ := ⟨T2, ⟨a31, i31, be⟩⟩
  have Vd : Vals [.str (tx []), .ref T0] [.str (tx []) tkT, .ref T0] := .cons ⟨_, rfl⟩ (.cons rfl .nil)
  have Fi : FunD K "__init__" "Reply.__init__" (defArgs s_Reply___init__) (defBody s_Reply___init__) (defScope s_Reply___init__) [.str (tx []), .ref T0] [] f30 _ :=
    ⟨⟨_, _, _, _, _, _, _, _, _, _, rfl, l30, c30, .inr ⟨by simp, TD0, _, itsT.toList, nT, rfl, tAt, rfl, by rw [tIt]; exact Vd⟩, .inl rfl⟩, k30⟩
  obtain ⟨e1, v1, B1⟩ := Fi.binds1 (ps := ["self", "kind", "text", "data"]) 2 0 (by simp) rfl fun _ _ _ _ _ _ _ us its hl hi => match us, its, hl, hi with | [_, _], [_, _], _, _ => ⟨_, rfl, rfl⟩
  obtain ⟨e2, v2, B2⟩ := Fi.binds1 (ps := ["self", "kind", "text", "data"]) 3 1 (by simp) rfl fun _ _ _ _ _ _ _ us its hl hi => match us, its, hl, hi with | [_, _, _], [_, _], _, _ => ⟨_, rfl, rfl⟩
  obtain ⟨e3, v3, B3⟩ := Fi.binds1 (ps := ["self", "kind", "text", "data"]) 4 2 (by simp) rfl fun _ _ _ _ _ _ _ us its hl hi => match us, its, hl, hi with | [_, _, _, _], [_, _], _, _ => ⟨_, rfl, rfl⟩
  cases (show Vals [] e3 from v3)
  have RA : RepAt K mg CR f30 _ e1 e2 T0 := ⟨⟨mkR, a30, i30, kcR⟩, PySem.W.mg_of X G aR, B3, B2, B1, .nil, v2, v1, fun _ _ => .nil, fun _ H => .cons (.tup (SZ H) .nil) .nil, fun _ H => .cons (.str _) (.cons (.tup (SZ H) .nil) .nil)⟩
  have W_write_data := ok_write_data (P := l.prog) (w := w) D_write_data T nd D_atom_text D_is_whole D_is_word D_is_short
  have W_read_atom := ok_read_atom (P := l.prog) (w := w) D_read_atom T S nd D_is_word D_read_whole
  have W_read_data := ok_read_data (P := l.prog) (w := w) D_read_data T RT D_DataReader_item D_DataReader_open_one D_DataReader_close_one D_DataReader_comma D_read_atom W_read_atom D_DataReader_take D_pieces_of D_DataReader
  have G_is_word := (ok_is_word (P := l.prog) (w := w) (base := base) D_is_word T).imp is_word_of
  have G_write_data := W_write_data.imp write_data_of
  have G_read_data := W_read_data.imp read_data_of
  have G_draw := ok_law_draw (P := l.prog) (w := w) D__law_draw T nd
  have G_take := (ok_law_take (P := l.prog) (w := w) D__law_take T nd).imp (take_of (K := K))
  have G_is_text := ok_is_text (P := l.prog) (w := w) (base := base) D_is_text T
  have G_read_part := ok_read_part (P := l.prog) (w := w) (base := base) D_read_part T2 D_is_word (G_is_word.mono (by decide)) D_read_data G_read_data
  have G_Reply := ok_reply_init (P := l.prog) (w := w) (base := base) Fi T2
  have G_read_diary := ok_read_diary (P := l.prog) (w := w) D_read_diary T2 nd D_read_part G_read_part RA G_Reply
  have G_write_diary := ok_write_diary (P := l.prog) (w := w) (base := base) D_write_diary T2 D_is_text G_is_text D_is_word G_is_word D_write_data G_write_data
  have G_is_same := ok_is_same (P := l.prog) (w := w) (base := base) D_is_same T2
  have G_eq := (ok_reply_eq (P := l.prog) (w := w) (base := base) Fe T2 D_is_same G_is_same).imp (spEq_of (P := okR) fun ds Q p q => ⟨ds, rfl, p, q⟩)
  have G_lword := ok_lword (P := l.prog) (w := w) (base := base) D__law_is_word T2
  have G_lread := ok_lread (P := l.prog) (w := w) (base := base) D__law_read T2 D_read_data G_read_data
  have G_told := ok_told (P := l.prog) (w := w) (base := base) D__law_told T2 D_write_diary G_write_diary D_read_diary G_read_diary
  have G_fits := ok_fits (P := l.prog) (w := w) D__law_fits T3 nd G_eq RA G_Reply
  have G_due := ok_due (P := l.prog) (w := w) D__law_due T2 nd D__law_is_word G_lword D__law_read G_lread
  have G_data := ok_data (P := l.prog) (w := w) (base := base) D__law_data T2 D__law_take G_take 4
  exact run_law F23 T3 nd D__law_draw G_draw D__law_take G_take D__law_data G_data D__law_told G_told D__law_fits G_fits D__law_due G_due D_write_data G_write_data RA G_Reply G_eq
end K66

open PySem PySem.W PyProof.Rows
set_option maxRecDepth 100000 in
set_option maxHeartbeats 0 in
theorem PySem.Challenge.cw_forksalike_k66_whole_texts_of_diaries_holds : PySem.Challenge.rw_forksalike_k66_whole_texts_of_diaries.Holds := by
  w_on; o_law; k_head; (case hw => w_witness2)
  k_fill
  refine KX.walkG (l := PySem.Challenge.rw_forksalike_k66_whole_texts_of_diaries) (n := 63) (k := 21) (x := "script") (sp := fun w => K66.spLaw (_)) rfl (by decide) rfl ⟨rfl, by decide, by decide⟩ (fun w h Y => PySem.W.kIn_of Y) ?F (fun _ _ a ns hl _ hS => ⟨a, ns, rfl, hS, hl, fun _ => rfl⟩)
  case F =>
    intro w mg fa h KX G hmg
    refine' K66.all_mk KX G hmg ?aC ?aM ?aS ?a1 ?l1 ?c1 ?k1 ?a2 ?l2 ?c2 ?k2 ?a3 ?l3 ?c3 ?k3 ?a4 ?l4 ?c4 ?k4 ?a5 ?l5 ?c5 ?k5 ?a6 ?l6 ?c6 ?k6 ?a7 ?l7 ?c7 ?k7 ?a8 ?l8 ?c8 ?k8 ?a9 ?l9 ?c9 ?k9 ?a10 ?l10 ?c10 ?k10 ?a11 ?l11 ?c11 ?k11 ?a12 ?l12 ?c12 ?k12 ?a13 ?l13 ?c13 ?k13 ?a14 ?l14 ?c14 ?k14 ?a15 ?l15 ?c15 ?k15 ?a16 ?l16 ?c16 ?k16 ?a17 ?l17 ?c17 ?k17 ?a18 ?l18 ?c18 ?k18 ?a19 ?l19 ?c19 ?k19 ?a20 ?l20 ?c20 ?k20 ?a21 ?l21 ?c21 ?k21 ?a22 ?l22 ?c22 ?k22 ?a23 ?l23 ?c23 ?k23 ?a24 ?i24 ?l24 ?c24 ?k24 ?a25 ?i25 ?l25 ?c25 ?k25 ?a26 ?i26 ?l26 ?c26 ?k26 ?a27 ?i27 ?l27 ?c27 ?k27 ?a28 ?i28 ?l28 ?c28 ?k28 ?a29 ?i29 ?l29 ?c29 ?k29 ?pgC ?hdC ?poC ?saC ?mkC ?kcC ?n1 ?n2 ?n3 ?aR ?a30 ?i30 ?l30 ?c30 ?k30 ?a31 ?i31 ?l31 ?c31 ?k31 ?pgR ?hdR ?poR ?saR ?mkR ?kcR ?nR1 ?nR2 ?nR3 ?haR ?hnR ?htkR ?hmR ?meR ?no_NoneType ?no_bool ?no_int ?no_str ?no_list ?no_tuple ?strM ?tAt ?tIt ?zAt ?zIt ?aK ?mAt ?mIt ?z_zip ?xM ?kM ?bM ?tM ?hM ?sM ?z_isinstance ?z_int ?z_bool ?z_str ?z_tuple ?z_len ?z_all ?z_any ?z_abs ?z_range ?z_list ?z_enumerate ?y_MOST_WORD ?y_MOST_DEPTH ?y_MOST_DIGITS ?y_LETTERS ?y_DIGITS ?dAt ?dLit ?dLow ?dKV
    (case aC => k_is)
    (case aM => k_is)
    (case aS => k_is)
    (case a1 => k_is)
    (case l1 => k_is)
    (case c1 => k_is)
    (case k1 => k_is)
    (case a2 => k_is)
    (case l2 => k_is)
    (case c2 => k_is)
    (case k2 => k_is)
    (case a3 => k_is)
    (case l3 => k_is)
    (case c3 => k_is)
    (case k3 => k_is)
    (case a4 => k_is)
    (case l4 => k_is)
    (case c4 => k_is)
    (case k4 => k_is)
    (case a5 => k_is)
    (case l5 => k_is)
    (case c5 => k_is)
    (case k5 => k_is)
    (case a6 => k_is)
    (case l6 => k_is)
    (case c6 => k_is)
    (case k6 => k_is)
    (case a7 => k_is)
    (case l7 => k_is)
    (case c7 => k_is)
    (case k7 => k_is)
    (case a8 => k_is)
    (case l8 => k_is)
    (case c8 => k_is)
    (case k8 => k_is)
    (case a9 => k_is)
    (case l9 => k_is)
    (case c9 => k_is)
    (case k9 => k_is)
    (case a10 => k_is)
    (case l10 => k_is)
    (case c10 => k_is)
    (case k10 => k_is)
    (case a11 => k_is)
    (case l11 => k_is)
    (case c11 => k_is)
    (case k11 => k_is)
    (case a12 => k_is)
    (case l12 => k_is)
    (case c12 => k_is)
    (case k12 => k_is)
    (case a13 => k_is)
    (case l13 => k_is)
    (case c13 => k_is)
    (case k13 => k_is)
    (case a14 => k_is)
    (case l14 => k_is)
    (case c14 => k_is)
    (case k14 => k_is)
    (case a15 => k_is)
    (case l15 => k_is)
    (case c15 => k_is)
    (case k15 => k_is)
    (case a16 => k_is)
    (case l16 => k_is)
    (case c16 => k_is)
    (case k16 => k_is)
    (case a17 => k_is)
    (case l17 => k_is)
    (case c17 => k_is)
    (case k17 => k_is)
    (case a18 => k_is)
    (case l18 => k_is)
    (case c18 => k_is)
    (case k18 => k_is)
    (case a19 => k_is)
    (case l19 => k_is)
    (case c19 => k_is)
    (case k19 => k_is)
    (case a20 => k_is)
    (case l20 => k_is)
    (case c20 => k_is)
    (case k20 => k_is)
    (case a21 => k_is)
    (case l21 => k_is)
    (case c21 => k_is)
    (case k21 => k_is)
    (case a22 => k_is)
    (case l22 => k_is)
    (case c22 => k_is)
    (case k22 => k_is)
    (case a23 => k_is)
    (case l23 => k_is)
    (case c23 => k_is)
    (case k23 => k_is)
    (case a24 => k_is)
    (case i24 => k_is)
    (case l24 => k_is)
    (case c24 => k_is)
    (case k24 => k_is)
    (case a25 => k_is)
    (case i25 => k_is)
    (case l25 => k_is)
    (case c25 => k_is)
    (case k25 => k_is)
    (case a26 => k_is)
    (case i26 => k_is)
    (case l26 => k_is)
    (case c26 => k_is)
    (case k26 => k_is)
    (case a27 => k_is)
    (case i27 => k_is)
    (case l27 => k_is)
    (case c27 => k_is)
    (case k27 => k_is)
    (case a28 => k_is)
    (case i28 => k_is)
    (case l28 => k_is)
    (case c28 => k_is)
    (case k28 => k_is)
    (case a29 => k_is)
    (case i29 => k_is)
    (case l29 => k_is)
    (case c29 => k_is)
    (case k29 => k_is)
    (case pgC => k_is)
    (case hdC => k_is)
    (case poC => k_is)
    (case saC => k_is)
    (case mkC => k_is)
    (case kcC => k_is)
    (case n1 => k_is)
    (case n2 => k_is)
    (case n3 => k_is)
    (case aR => k_is)
    (case a30 => k_is)
    (case i30 => k_is)
    (case l30 => k_is)
    (case c30 => k_is)
    (case k30 => k_is)
    (case a31 => k_is)
    (case i31 => k_is)
    (case l31 => k_is)
    (case c31 => k_is)
    (case k31 => k_is)
    (case pgR => k_is)
    (case hdR => k_is)
    (case poR => k_is)
    (case saR => k_is)
    (case mkR => k_is)
    (case kcR => k_is)
    (case nR1 => k_is)
    (case nR2 => k_is)
    (case nR3 => k_is)
    (case haR => k_is)
    (case hnR => k_is)
    (case htkR => k_is)
    (case hmR => k_is)
    (case meR => kit_is)
    (case no_NoneType => kit_is)
    (case no_bool => kit_is)
    (case no_int => kit_is)
    (case no_str => kit_is)
    (case no_list => kit_is)
    (case no_tuple => kit_is)
    (case strM => k_is)
    (case tAt => k_is)
    (case tIt => rfl)
    (case zAt => k_is)
    (case zIt => rfl)
    (case aK => k_is)
    (case mAt => k_is)
    (case mIt => rfl)
    (case z_zip => k_is)
    (case xM => k_exc)
    (case kM => k_is)
    (case bM => k_is)
    (case tM => k_is)
    (case hM => k_is)
    (case sM => k_is)
    (case z_isinstance => k_is)
    (case z_int => k_is)
    (case z_bool => k_is)
    (case z_str => k_is)
    (case z_tuple => k_is)
    (case z_len => k_is)
    (case z_all => k_is)
    (case z_any => k_is)
    (case z_abs => k_is)
    (case z_range => k_is)
    (case z_list => k_is)
    (case z_enumerate => k_is)
    (case y_MOST_WORD => k_is)
    (case y_MOST_DEPTH => k_is)
    (case y_MOST_DIGITS => k_is)
    (case y_LETTERS => k_is)
    (case y_DIGITS => k_is)
    (case dAt => k_is)
    (case dLit => k_keys)
    (case dLow => rfl)
    (case dKV => rfl)

