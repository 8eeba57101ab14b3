import PyProof.Rows.All
import Wide.All
import OpenK.AllK
import Wide.FinOn
import HandS.ForMost
import HandS.Wide
import HandS.IsInst
import HandS.Property
import HandS.ClsMeth
import HandS.Defaults
import HandS.MakeKw
import HandS.MakeKwOnly
import HandS.FStr
import HandS.Lambda
import HandS.SlotsOwn
import HandS.Evl
import HandS.Walk
import KE.KStateDown
import Lean
import HandS.Text
import PyProof.StrBlock2
import OpenK.KDescr
import KE.GoesEnum
import HandS.Ends
import HandS.Words
import HandS.Head0
import HandS.Head1
import HandS.Head2
import HandS.HeadEnd
import HandS.HeadHook1
import HandS.HeadHook2
import HandS.HeadNt
import HandS.HeadHook4
import KE.KNestM
import HandS.ExcIs
import KE.KOpsOwn
import KE.KExcIs
import HandS.ExcInit
import HandS.ExcOwn
import HandS.ExcField
import HandS.RaiseMore
import HandS.Set
import HandS.SetFor
import HandS.Strs
import HandS.Conv
import HandS.DictComp
import HandS.Star
import HandS.More
import KE.KDictSum
import KE.KSortTupG
import HandS.EndTab
import PyProof.ReprLen
import PyProof.StrLawsRepr
import KE.LtData
import KE.DataCmp
import KE.KCallOwn
import KE.KDictPairs
import HandS.TupLen
import HandS.Flow
import HandS.Style
import HandS.ReplaceLit
import HandS.DictEq
import HandS.ExcValue
import HandS.ListEq
import KE.KSuper
import HandS.HeadHook3
import PyProof.MeetsStr3
import PyProof.WalkInts
import PySem.Challenge.RW_soundtill_k12_rows_refused
set_option Elab.async false
set_option linter.all false
set_option maxRecDepth 100000
set_option maxHeartbeats 4000000
/-! Own layer: defs called where the guards are known, repr of data, own comparisons. -/
namespace Q
open PySem PySem.Spec PyProof.Rows L2
/-- nothing is being shown -/
abbrev G0 (A : Around) : Prop := A.guards = some []
theorem g0_deeper {A : Around} {e : Env} (h : G0 A) : G0 (A.deeper e) := h
theorem g0_caller : G0 callerA := rfl
/-- a def's promise where nothing is being shown around it -/
structure FnA (P : Program) (w : World) (K : PySem.W.Frag) (mg : Str → Option Value) (base : Heap) (CX : CXT) (k : Nat) (f : Addr) (fd : FuncData) (ps : List Str) (sp : Sp) : Prop where
  len : ∀ vs H Q E, sp vs H Q E → vs.length = ps.length
  run : ∀ (A : Around) (outer : List Env) (s : Shared) (H : Hp) (args : Args) (us : List Value) (vs : List V) (Q : VK) (E : XK), G0 A → Room k A → Env0 P w K mg base A outer s H →
    BindsTo s fd args (ps.zip us) → Vals vs us → sp vs H Q E → codeAny (model P w) A (.call (.ref f) args) (CR CX outer P w H s Q E) s
theorem fun_okA {P : Program} {w : World} {K : PySem.W.Frag} {mg : Str → Option Value} {base : Heap} {x qual : Str} {st : Stmt} {f : Addr} {fd : FuncData} {N ps : List Str} {k : Nat} {sp : Sp} (F : Fun K x qual st f fd) (S : FnScope N ps (defScope st))
    (len : ∀ vs H Q E, sp vs H Q E → vs.length = ps.length)
    (body : ∀ (cdv : Value) (A : Around) (outer : List Env) (s : Shared) (H : Hp) (vs : List V) (Q : VK) (E : XK), G0 (A.deeper (envOfC qual (defScope st) s.heap.objs.size f cdv)) → Room k (A.deeper (envOfC qual (defScope st) s.heap.objs.size f cdv)) → sp vs H Q E →
      ∃ t, PSs (cxOf CX0 P w K mg base N qual (defScope st) f cdv A outer s H E).nox (defBody st) t ∧ t { nx := fun _ H' => Q .non H', rt := Q } (start N vs) H) :
    FnA P w K mg base CX0 (k + 1) f fd ps sp := by
  obtain ⟨oc, od, kV, doc, pm, an, cdv, ct, osl, rfl, lk, hcd⟩ := F.ex
  refine ⟨len, fun A outer s H args us vs Q E g hr e0 hb r h => ?_⟩
  refine LamX.run_ofS lk hcd S hr e0 hb r (len _ _ _ _ h) fun hr2 => ?_
  obtain ⟨t, h1, q⟩ := body cdv A outer s H vs Q E (g0_deeper g) hr2 h
  exact ⟨t, h1.nox, q⟩
section
variable {X : Cx} {CX : CXT} {k : Nat} {f : Addr} {fd : FuncData} {ps : List Str} {sp : Sp} {dvs : List V} {ds : List Value} {E : XK} {x : Str} {e : Expr} {es : List Expr} {t : TA} {pos p : Pos}
theorem pe_callA (F : FnA X.prog X.w X.K X.mg X.base CX k f fd ps sp) (g : G0 X.A) (hr : Room k X.A) (hg : Gl X x) (hm : X.mg x = some (.ref f)) (hk : PySem.W.keepIn X.K (.ref f) = true) (hb : Binds X.K fd ps ds) (hd : Vals dvs ds) (hx : Passes CX X E)
    (ha : PA X (e :: es) t) (hdb : (x == ("__debug__" : Str)) = false := by decide) (he : starEach (e :: es) X.env = (false, eval e X.env) :: starEach es X.env := by rfl) (hpl : (backTo pos (starEach es X.env)).any (·.1) = false := by rfl) :
    PE X (.Call (.Name x p) (e :: es) [] pos) (tCall sp dvs E t) := by
  refine ⟨fun pins s σ H Q I h => wpAny_Call_Name_kw (ld_glob I hg hm ?_ hdb)⟩
  refine PySem.W.callWith_K (h₀ := X.base) I.ok.mod.kin hk (thn (ha.run pos pins s σ H _ I h) fun us s1 hh => ?_) he hpl
  obtain ⟨vs, H1, I1, r, q⟩ := hh
  have r2 := r.append hd
  have hl : (us ++ ds).length = ps.length := by
    rw [← r2.length]
    exact F.len _ _ _ _ q
  refine ⟨I1.kIn, wpAny_call (codeAny_mono (F.run X.A X.stack s1 H1 ⟨us, []⟩ _ _ Q E g hr I1.env0 (hb s1 us I1.kIn hl) r2 q) fun o s2 z => ?_)⟩
  match o, z with
  | .error er, z => exact hx pins σ H1 s1 er s2 I1 z
  | .ok (.ret u), z => exact I1.after z
  | .ok .next, z => exact z.elim
  | .ok .brk, z => exact z.elim
  | .ok .cont, z => exact z.elim
end
/-! ### repr of data -/
section
variable {X : Cx}
def rRepr (K : PySem.W.Frag) : List V → Hp → VK → Prop := fun xs H Q => ∃ (x : V) (d : PyData), xs = [x] ∧ Dp K H x d ∧ d.showable = true ∧ d.depth ≤ 60 ∧ d.shown.length ≤ sizeLine ∧ Q (.str d.shown) H
theorem dp_noDict {K : PySem.W.Frag} {H : Hp} : ∀ (d : PyData) (x : V), Dp K H x d → d.hasDict = false := by
  have key : ∀ (n : Nat) (d : PyData) (x : V), sizeOf d ≤ n → Dp K H x d → d.hasDict = false := by
    intro n
    induction n with
    | zero => intro d x hn h; cases d <;> simp at hn
    | succ n ih =>
      have all : ∀ (ds : List PyData) (vs : List V), sizeOf ds ≤ n → DpAll K H vs ds → PyData.hasDictAll ds = false := by
        intro ds
        induction ds with
        | nil => intro vs _ _; simp only [PyData.hasDictAll]
        | cons d ds ihd =>
          intro vs hs h
          cases h with
          | cons h1 h2 =>
            have s1 : sizeOf d ≤ n := by simp at hs; omega
            have s2 : sizeOf ds ≤ n := by simp at hs; omega
            simp only [PyData.hasDictAll, ih d _ s1 h1, ihd _ s2 h2, Bool.or_self]
      intro d x hn h
      cases h with
      | non => simp only [PyData.hasDict]
      | bl b => simp only [PyData.hasDict]
      | int i => simp only [PyData.hasDict]
      | str x => simp only [PyData.hasDict]
      | lst hs ha => simp only [PyData.hasDict]; exact all _ _ (by simp at hn; omega) ha
      | tup hs ha => simp only [PyData.hasDict]; exact all _ _ (by simp at hn; omega) ha
  exact fun d x h => key (sizeOf d) d x (Nat.le_refl _) h
theorem call_repr (g : G0 X.A) (hu : X.A.units + 64 < cLine) : CallR X (.builtin "repr") (rRepr X.K) := by
  intro pins s σ H xs us Q I r h
  obtain ⟨x, d, rfl, hd, hs, hdp, hz, q⟩ := h
  obtain ⟨u, rfl, ru⟩ := r.one
  have nd := dp_noDict d x hd
  obtain ⟨as, hr⟩ := Dp.reads I d x u hd ru
  cases hd with
  | non =>
    cases (show u = Value.none from ru)
    exact PySem.P.repr_of_none ⟨.str "None", H, I.tok _, ⟨_, rfl⟩, by simpa only [PyData.shown] using q⟩
  | bl b =>
    cases (show u = Value.bool b from ru)
    exact PySem.P.repr_of_bool ⟨.str (if b then "True" else "False"), H, I.tok _, ⟨_, rfl⟩, by simpa only [PyData.shown] using q⟩
  | int i =>
    obtain ⟨t, e⟩ := (show ∃ t, u = Value.int i t from ru)
    cases e
    exact PySem.P.repr_of_int (by simpa [PyData.showable] using hs) ⟨.str (toString i), H, I.tok _, ⟨_, rfl⟩, by simpa only [PyData.shown] using q⟩
  | str z =>
    obtain ⟨t, e⟩ := (show ∃ t, u = Value.str z t from ru)
    cases e
    exact PySem.P.repr_of_str ⟨.str (reprText z), H, I.tok _, ⟨_, rfl⟩, by simpa only [PyData.shown] using q⟩ (by simpa only [PyData.shown] using hz)
  | lst h1 h2 =>
    cases (show u = Value.ref _ from ru)
    exact repr_of_reads' hr hs (PyData.noDict_hsm nd) g (by omega) (fun _ _ e => e) (fun h' u tk hk => ⟨.str _, H, I.kept (t' := tk) hk, ⟨_, rfl⟩, q⟩) hz
  | tup h1 h2 =>
    cases (show u = Value.ref _ from ru)
    exact repr_of_reads' hr hs (PyData.noDict_hsm nd) g (by omega) (fun _ _ e => e) (fun h' u tk hk => ⟨.str _, H, I.kept (t' := tk) hk, ⟨_, rfl⟩, q⟩) hz
end
end Q
namespace Q
open PySem PySem.Spec PyProof.Rows L2
/-! ### a def's run: what is told once and stays (the ghost G), what changes (M) -/
/-- no table of code objects -/
abbrev NoT (o : HO) : Prop := ∀ ps, o ≠ .tbl ps
/-- neither a table nor a thing by its heap -/
def plainB : HO → Bool
  | .tbl _ => false
  | .ext _ => false
  | _ => true
/-- told: as it is, and no table -/
def Gh (G H : Hp) : Prop := Same G H ∧ ∀ a o, G a = some o → NoT o
/-- all but p is as it was -/
def But (p : Addr) (H H' : Hp) : Prop := ∀ b o, b ≠ p → H b = some o → H' b = some o
/-- the entry: the heap, the ghost, the objects of the caller that the def may change -/
structure En where
  H0 : Hp
  G0 : Hp
  P0 : List Addr
  T : List (Addr × Str)
structure Wd (e : En) (G H : Hp) (M : List Addr) : Prop where
  le : Same G H
  mu : ∀ a ∈ M, G a = none ∧ (∃ o, H a = some o) ∧ (e.H0 a = none ∨ a ∈ e.P0)
  nd : M.Nodup
  dom : ∀ a, e.H0 a ≠ none → H a ≠ none
  gr : Same e.G0 G
  fr : ∀ a, e.H0 a ≠ none → G a = e.G0 a
  kp : ∀ a o, a ∉ e.P0 → e.H0 a = some o → H a = some o
  nt : ∀ a o, G a = some o → NoT o
  mt : ∀ a ∈ M, ∀ o, H a = some o → plainB o = true
  tb : LamX.Tabs e.T H
theorem pl_nt {o : HO} (h : plainB o = true) : NoT o := fun ps z => by
  rw [z] at h
  cases h
theorem tabs_but {T : List (Addr × Str)} {H H' : Hp} {p : Addr} {o : HO} (t : LamX.Tabs T H) (b : But p H H') (hp : H p = some o) (pl : plainB o = true) : LamX.Tabs T H' := fun q hq => by
  obtain ⟨ps, h1, h2, h3⟩ := t q hq
  refine ⟨ps, b _ _ (fun z => ?_) h1, h2, fun pos cv hc => ?_⟩
  · rw [z, hp] at h1
    rw [Option.some.inj h1] at pl
    cases pl
  · obtain ⟨c, e1, e2⟩ := h3 pos cv hc
    refine ⟨c, e1, b _ _ (fun z => ?_) e2⟩
    rw [z, hp] at e2
    rw [Option.some.inj e2] at pl
    cases pl
theorem tabs_nil {H : Hp} : LamX.Tabs [] H := fun p hp => by cases hp
theorem Wd.gh {e : En} {G H : Hp} {M : List Addr} (w : Wd e G H M) : Gh G H := ⟨w.le, w.nt⟩
section
variable {e : En} {G H H' : Hp} {M : List Addr} {q p : Addr} {o u : HO}
theorem same_upd (h : H q = none) : Same H (upd H q o) := fun a u e => by
  rw [upd_ne (ne_of_none e h)]
  exact e
theorem some_ne {α : Type} {x : Option α} {y : α} (h : x = some y) : x ≠ none := by rw [h]; exact Option.some_ne_none y
theorem wd_startT {H G : Hp} {P : List Addr} {T : List (Addr × Str)} {M : List Addr} (s : Gh G H) (hp : ∀ a ∈ M, G a = none ∧ ∃ o, H a = some o ∧ plainB o = true) (nd : M.Nodup) (sub : ∀ a ∈ M, a ∈ P) (t : LamX.Tabs T H) : Wd ⟨H, G, P, T⟩ G H M :=
  ⟨s.1, fun a ha => ⟨(hp a ha).1, (hp a ha).2.elim fun o z => ⟨o, z.1⟩, .inr (sub a ha)⟩, nd, fun _ h => h, Same.refl _, fun _ _ => rfl, fun _ _ _ h => h, s.2, fun a ha o h => by
    obtain ⟨_, u, h1, h2⟩ := hp a ha
    rw [h1] at h
    rw [← Option.some.inj h]
    exact h2, t⟩
theorem wd_start {H G : Hp} {P : List Addr} (s : Gh G H) (hp : ∀ a ∈ P, G a = none ∧ ∃ o, H a = some o ∧ plainB o = true) (nd : P.Nodup) : Wd ⟨H, G, P, []⟩ G H P := wd_startT s hp nd (fun _ h => h) tabs_nil
theorem wd_pure {H G : Hp} (s : Gh G H) : Wd ⟨H, G, [], []⟩ G H [] := wd_start s (fun a h => by simp at h) List.nodup_nil
theorem Wd.g (w : Wd e G H M) (h : H q = none) : G q = none := by
  cases z : G q with
  | none => rfl
  | some o => rw [w.le _ _ z] at h; cases h
theorem Wd.nm (w : Wd e G H M) (h : H q = none) {m : Addr} (hm : m ∈ M) : q ≠ m := fun z => by
  obtain ⟨_, ⟨o, ho⟩, _⟩ := w.mu m hm
  rw [← z, h] at ho
  cases ho
theorem Wd.n0 (w : Wd e G H M) (h : H q = none) : e.H0 q = none := by
  cases z : e.H0 q with
  | none => rfl
  | some o => exact absurd h (w.dom q (some_ne z))
/-- a new object, told -/
theorem wd_lay (w : Wd e G H M) (h : H q = none) (no : NoT o := by intro ps z; cases z) : Wd e (upd G q o) (upd H q o) M where
  le := fun a u z => by
    by_cases x : a = q
    · subst x; rw [upd_same] at z ⊢; exact z
    · rw [upd_ne x] at z ⊢; exact w.le _ _ z
  mu := fun a ha => by
    obtain ⟨h1, h2, h3⟩ := w.mu a ha
    have x : a ≠ q := (w.nm h ha).symm
    rw [upd_ne x, upd_ne x]
    exact ⟨h1, h2, h3⟩
  nd := w.nd
  dom := fun a ha => by
    by_cases x : a = q
    · rw [x, upd_same]; simp
    · rw [upd_ne x]; exact w.dom a ha
  gr := fun a u z => same_upd (w.g h) _ _ (w.gr _ _ z)
  fr := fun a ha => by
    have x : a ≠ q := fun z => by rw [z, w.n0 h] at ha; exact ha rfl
    rw [upd_ne x]
    exact w.fr a ha
  kp := fun a u hp z => same_upd h _ _ (w.kp a u hp z)
  nt := fun a u z => by
    by_cases x : a = q
    · rw [x, upd_same] at z
      rw [← Option.some.inj z]
      exact no
    · rw [upd_ne x] at z
      exact w.nt a u z
  mt := fun a ha u z => by
    rw [upd_ne (w.nm h ha).symm] at z
    exact w.mt a ha u z
  tb := w.tb.ext (same_upd h)
/-- a new object, to be changed -/
theorem wd_layM (w : Wd e G H M) (h : H q = none) (no : plainB o = true := by rfl) : Wd e G (upd H q o) (q :: M) where
  le := fun a u z => same_upd h _ _ (w.le _ _ z)
  mu := fun a ha => by
    rcases List.mem_cons.mp ha with x | ha
    · subst x
      exact ⟨w.g h, ⟨o, upd_same⟩, .inl (w.n0 h)⟩
    · obtain ⟨h1, h2, h3⟩ := w.mu a ha
      rw [upd_ne (w.nm h ha).symm]
      exact ⟨h1, h2, h3⟩
  nd := List.nodup_cons.mpr ⟨fun z => w.nm h z rfl, w.nd⟩
  dom := fun a ha => by
    by_cases x : a = q
    · rw [x, upd_same]; simp
    · rw [upd_ne x]; exact w.dom a ha
  gr := w.gr
  fr := w.fr
  kp := fun a u hp z => same_upd h _ _ (w.kp a u hp z)
  nt := w.nt
  mt := fun a ha u z => by
    rcases List.mem_cons.mp ha with x | ha
    · rw [x, upd_same] at z
      rw [← Option.some.inj z]
      exact no
    · rw [upd_ne (w.nm h ha).symm] at z
      exact w.mt a ha u z
  tb := w.tb.ext (same_upd h)
/-- a changed object -/
theorem wd_but (w : Wd e G H M) (hq : q ∈ M) (b : But q H H') (ho : H' q = some o) (no : plainB o = true := by rfl) : Wd e G H' M where
  le := fun a u z => b a u (fun x => by rw [x, (w.mu q hq).1] at z; cases z) (w.le _ _ z)
  mu := fun a ha => by
    obtain ⟨h1, ⟨o1, h2⟩, h3⟩ := w.mu a ha
    refine ⟨h1, ?_, h3⟩
    by_cases x : a = q
    · subst x; exact ⟨_, ho⟩
    · exact ⟨_, b a _ x h2⟩
  nd := w.nd
  dom := fun a ha => by
    by_cases x : a = q
    · rw [x, ho]; simp
    · cases z : H a with
      | none => exact absurd z (w.dom a ha)
      | some u => rw [b a u x z]; simp
  gr := w.gr
  fr := w.fr
  kp := fun a u hp z => by
    have h1 := w.kp a u hp z
    refine b a u (fun x => ?_) h1
    subst x
    rcases (w.mu a hq).2.2 with y | y
    · rw [y] at z; cases z
    · exact hp y
  nt := w.nt
  mt := fun a ha u z => by
    by_cases x : a = q
    · rw [x, ho] at z
      rw [← Option.some.inj z]
      exact no
    · obtain ⟨_, ⟨v, hv⟩, _⟩ := w.mu a ha
      rw [b a v x hv] at z
      rw [← Option.some.inj z]
      exact w.mt a ha v hv
  tb := by
    obtain ⟨_, ⟨v, hv⟩, _⟩ := w.mu q hq
    exact tabs_but w.tb b hv (w.mt q hq v hv)
theorem but_upd : But q H (upd H q o) := fun b u hb h => by rw [upd_ne hb]; exact h
theorem wd_mut (w : Wd e G H M) (hq : q ∈ M) (no : plainB o = true := by rfl) : Wd e G (upd H q o) M := wd_but w hq but_upd upd_same no
theorem wd_same (w : Wd e G H M) (s : Same H H') : Wd e G H' M where
  le := fun a u z => s _ _ (w.le _ _ z)
  mu := fun a ha => by
    obtain ⟨h1, ⟨o1, h2⟩, h3⟩ := w.mu a ha
    exact ⟨h1, ⟨o1, s _ _ h2⟩, h3⟩
  nd := w.nd
  dom := fun a ha => by
    cases z : H a with
    | none => exact absurd z (w.dom a ha)
    | some u => rw [s a u z]; simp
  gr := w.gr
  fr := w.fr
  kp := fun a u hp z => s _ _ (w.kp a u hp z)
  nt := w.nt
  mt := fun a ha u z => by
    obtain ⟨_, ⟨v, hv⟩, _⟩ := w.mu a ha
    rw [s _ _ hv] at z
    rw [← Option.some.inj z]
    exact w.mt a ha v hv
  tb := w.tb.ext s
/-- what is changed no more is told -/
theorem wd_freeze (w : Wd e G H (q :: M)) (h : H q = some o) (h0 : e.H0 q = none) : Wd e (upd G q o) H M ∧ Same G (upd G q o) := by
  have gq := (w.mu q (List.mem_cons_self)).1
  have nq := List.nodup_cons.mp w.nd
  refine ⟨⟨fun a u z => ?_, fun a ha => ?_, nq.2, w.dom, fun a u z => same_upd gq _ _ (w.gr _ _ z), fun a ha => ?_, w.kp, fun a u z => ?_, fun a ha => w.mt a (List.mem_cons_of_mem _ ha), w.tb⟩, same_upd gq⟩
  · by_cases x : a = q
    · subst x; rw [upd_same] at z; rw [← z]; exact h
    · rw [upd_ne x] at z; exact w.le _ _ z
  · obtain ⟨h1, h2, h3⟩ := w.mu a (List.mem_cons_of_mem _ ha)
    rw [upd_ne (show a ≠ q from fun x => nq.1 (by rw [← x]; exact ha))]
    exact ⟨h1, h2, h3⟩
  · have x : a ≠ q := fun z => by rw [z, h0] at ha; exact ha rfl
    rw [upd_ne x]
    exact w.fr a ha
  · by_cases x : a = q
    · rw [x, upd_same] at z
      rw [← Option.some.inj z]
      exact pl_nt (w.mt q List.mem_cons_self o h)
    · rw [upd_ne x] at z
      exact w.nt a u z
theorem wd_perm {M' : List Addr} (w : Wd e G H M) (h : M.Perm M') : Wd e G H M' := ⟨w.le, fun a ha => w.mu a (h.mem_iff.mpr ha), h.nodup_iff.mp w.nd, w.dom, w.gr, w.fr, w.kp, w.nt, fun a ha => w.mt a (h.mem_iff.mpr ha), w.tb⟩
theorem wd_drop {M' : List Addr} (w : Wd e G H M) (h : M'.Sublist M) : Wd e G H M' := ⟨w.le, fun a ha => w.mu a (h.subset ha), w.nd.sublist h, w.dom, w.gr, w.fr, w.kp, w.nt, fun a ha => w.mt a (h.subset ha), w.tb⟩
theorem Wd.ne (w : Wd e G H M) (hq : q ∈ M) (h : G p = some o) : p ≠ q := fun z => by rw [z, (w.mu q hq).1] at h; cases h
end
/-- a def that changes nothing hands back what P tells: P of the value and the ghost -/
def Ret (G H : Hp) (P : V → Hp → Prop) (Q : VK) : Prop := ∀ v H' G', Same H H' → Gh G' H' → Same G G' → (∀ a, H a ≠ none → G' a = G a) → P v G' → Q v H'
theorem ret_of {G H G' H' : Hp} {M : List Addr} {P : V → Hp → Prop} {Q : VK} {v : V} (k : Ret G H P Q) (w : Wd ⟨H, G, [], []⟩ G' H' M) (p : P v G') : Q v H' :=
  k v H' G' (fun a o h => w.kp a o (by simp) h) w.gh w.gr w.fr p
/-- a call of such a def -/
theorem ret_use {e : En} {G H : Hp} {M : List Addr} {P : V → Hp → Prop} {Q : VK} (w : Wd e G H M) (k : ∀ v G' H', Wd e G' H' M → Same G G' → Same H H' → P v G' → Q v H') : Ret G H P Q := by
  intro v H' G' s1 s2 s3 fr p
  refine k v G' H' ?_ s3 s1 p
  have w1 := wd_same w s1
  refine ⟨s2.1, fun a ha => ?_, w.nd, w1.dom, fun a o h => s3 _ _ (w.gr _ _ h), fun a ha => by rw [fr a (w.dom a ha)]; exact w.fr a ha, w1.kp, s2.2, w1.mt, w1.tb⟩
  obtain ⟨h1, ⟨o, h2⟩, h3⟩ := w.mu a ha
  obtain ⟨_, h4, _⟩ := w1.mu a ha
  exact ⟨by rw [fr a (some_ne h2)]; exact h1, h4, h3⟩
/-! ### the pen -/
/-- the pen at p, its cells at c, at most n of them begun -/
def PenAt (p c : Addr) (n : Nat) (H : Hp) : Prop := ∃ (at_ : Nat) (g : Int), H p = some (.lst [.ref c, .int at_, .int g]) ∧ at_ ≤ n ∧ 0 ≤ g
theorem PenAt.more {p c : Addr} {n m : Nat} {H : Hp} (P : PenAt p c n H) (h : n ≤ m) : PenAt p c m H := by
  obtain ⟨a, g, h1, h2, h3⟩ := P
  exact ⟨a, g, h1, Nat.le_trans h2 h, h3⟩
theorem PenAt.same {p c : Addr} {n : Nat} {H H' : Hp} (P : PenAt p c n H) (s : Same H H') : PenAt p c n H' := by
  obtain ⟨a, g, h1, h2⟩ := P
  exact ⟨a, g, s _ _ h1, h2⟩
theorem PenAt.but {p c q : Addr} {n : Nat} {H H' : Hp} (P : PenAt p c n H) (b : But q H H') (h : p ≠ q) : PenAt p c n H' := by
  obtain ⟨a, g, h1, h2⟩ := P
  exact ⟨a, g, b _ _ h h1, h2⟩
def Cells (c : Addr) (G : Hp) : Prop := ∃ ns : List Int, G c = some (.lst (ns.map V.int)) ∧ ns.length ≤ 63
theorem Cells.same {c : Addr} {G G' : Hp} (h : Cells c G) (s : Same G G') : Cells c G' := by
  obtain ⟨ns, h1, h2⟩ := h
  exact ⟨ns, s _ _ h1, h2⟩
/-- a def that takes from the pen alone -/
def RetP (p c : Addr) (n : Nat) (G H : Hp) (P : V → Hp → Prop) (Q : VK) : Prop := ∀ v H' G', But p H H' → PenAt p c n H' → Gh G' H' → Same G G' → (∀ a, H a ≠ none → G' a = G a) → P v G' → Q v H'
theorem retP_of {p c : Addr} {n : Nat} {G H G' H' : Hp} {M : List Addr} {P : V → Hp → Prop} {Q : VK} {v : V} (k : RetP p c n G H P Q) (w : Wd ⟨H, G, [p], []⟩ G' H' M) (hp : PenAt p c n H') (h : P v G') : Q v H' :=
  k v H' G' (fun a o hn h => w.kp a o (by simpa using hn) h) hp w.gh w.gr w.fr h
theorem retP_use {p c : Addr} {n : Nat} {e : En} {G H : Hp} {M : List Addr} {P : V → Hp → Prop} {Q : VK} (w : Wd e G H M) (hp : p ∈ M) (k : ∀ v G' H', Wd e G' H' M → Same G G' → But p H H' → PenAt p c n H' → P v G' → Q v H') : RetP p c n G H P Q := by
  intro v H' G' b P' s2 s3 fr p'
  obtain ⟨a, g, h1, h2⟩ := id P'
  have w1 := wd_but w hp b h1
  refine k v G' H' ⟨s2.1, fun a ha => ?_, w.nd, w1.dom, fun a o h => s3 _ _ (w.gr _ _ h), fun a ha => by rw [fr a (w.dom a ha)]; exact w.fr a ha, w1.kp, s2.2, w1.mt, w1.tb⟩ s3 b P' p'
  obtain ⟨h1, ⟨o, h2⟩, h3⟩ := w.mu a ha
  obtain ⟨_, h4, _⟩ := w1.mu a ha
  exact ⟨by rw [fr a (some_ne h2)]; exact h1, h4, h3⟩
/-! ### facts that last -/
theorem same_at {H H' : Hp} {p : Addr} {o : HO} (s : Same H H') (h : H p = some o) : H' p = some o := s _ _ h
theorem but_at {H H' : Hp} {p q : Addr} {o : HO} (s : But q H H') (n : p ≠ q) (h : H p = some o) : H' p = some o := s _ _ n h
theorem wd_at {e : En} {G H : Hp} {M : List Addr} {p : Addr} {o : HO} (w : Wd e G H M) (h : G p = some o) : H p = some o := w.le _ _ h
theorem same_sqL {K : PySem.W.Frag} {H H' : Hp} {p : Addr} {xs : List V} (s : Same H H') (h : SqL K H p xs) : SqL K H' p xs := s.seq h
theorem wd_sqL {e : En} {G H : Hp} {M : List Addr} {K : PySem.W.Frag} {p : Addr} {xs : List V} (w : Wd e G H M) (h : SqL K G p xs) : SqL K H p xs := w.le.seq h
theorem same_sqT {K : PySem.W.Frag} {H H' : Hp} {p : Addr} {xs : List V} (s : Same H H') (h : SqT K H p xs) : SqT K H' p xs := by
  rcases h with (h | ⟨o, h⟩) | h
  · exact .inl (.inl (s _ _ h))
  · exact .inl (.inr ⟨o, s _ _ h⟩)
  · exact .inr h
theorem wd_sqT {e : En} {G H : Hp} {M : List Addr} {K : PySem.W.Frag} {p : Addr} {xs : List V} (w : Wd e G H M) (h : SqT K G p xs) : SqT K H p xs := same_sqT w.le h
theorem same_dpAll {K : PySem.W.Frag} {H H' : Hp} (s : Same H H') : ∀ (n : Nat), (∀ d x, sizeOf d ≤ n → Dp K H x d → Dp K H' x d) ∧ (∀ ds vs, sizeOf ds ≤ n → DpAll K H vs ds → DpAll K H' vs ds) := by
  intro n
  induction n with
  | zero => exact ⟨fun d x hn h => (by cases d <;> simp at hn), fun ds vs hn h => (by cases ds <;> simp at hn)⟩
  | succ n ih =>
    have h1 : ∀ d x, sizeOf d ≤ n + 1 → Dp K H x d → Dp K H' x d := by
      intro d x hn h
      cases h with
      | non => exact .non
      | bl b => exact .bl b
      | int i => exact .int i
      | str x => exact .str x
      | lst hs ha => exact .lst (s.seq hs) (ih.2 _ _ (by simp at hn; omega) ha)
      | tup hs ha => exact .tup (same_sqT s hs) (ih.2 _ _ (by simp at hn; omega) ha)
    refine ⟨h1, fun ds vs hn h => ?_⟩
    cases h with
    | nil => exact .nil
    | cons a b => exact .cons (h1 _ _ (by simp at hn; omega) a) (ih.2 _ _ (by simp at hn; omega) b)
theorem same_dp {K : PySem.W.Frag} {H H' : Hp} (s : Same H H') {x : V} {d : PyData} (h : Dp K H x d) : Dp K H' x d := (same_dpAll s (sizeOf d)).1 d x (Nat.le_refl _) h
theorem same_dpa {K : PySem.W.Frag} {H H' : Hp} (s : Same H H') {xs : List V} {ds : List PyData} (h : DpAll K H xs ds) : DpAll K H' xs ds := (same_dpAll s (sizeOf ds)).2 ds xs (Nat.le_refl _) h
theorem wd_dp {e : En} {G H : Hp} {M : List Addr} {K : PySem.W.Frag} {x : V} {d : PyData} (w : Wd e G H M) (h : Dp K G x d) : Dp K H x d := same_dp w.le h
/-! ### readings, step by step -/
section
variable {σ : L2.St} {H : Hp} {i : Nat} {v x y z : V} {ta tb tc te : TE} {t u : TT} {ts tl : TA} {D : Ends} {sa sb : TS} {g : TG} {Qv : VK} {Qa : List V → Hp → Prop} {Qb : Bool → Hp → Prop} {r r' : R2} {K : PySem.W.Frag}
theorem r_var (h : σ[i]? = some (some v)) (q : Qv v H) : tVar i σ H Qv := ⟨v, h, q⟩
theorem r_c (q : Qv v H) : tC v σ H Qv := q
theorem r_op (q : ta σ H fun x H1 => tb σ H1 fun y H2 => r x y H2 Qv) : tOp r ta tb σ H Qv := q
theorem r_un {r : V → Hp → VK → Prop} (q : ta σ H fun x H1 => r x H1 Qv) : tUn r ta σ H Qv := q
theorem r_cb {r : List V → Hp → VK → Prop} (q : ts σ H fun vs H1 => r vs H1 Qv) : tCB r ts σ H Qv := q
theorem r_call {sp : Sp} {dvs : List V} {E : XK} (q : ts σ H fun vs H1 => sp (vs ++ dvs) H1 Qv E) : tCall sp dvs E ts σ H Qv := q
theorem r_call0 {sp : Sp} {E : XK} (q : ts σ H fun vs H1 => sp vs H1 Qv E) : tCall sp [] E ts σ H Qv := by
  unfold tCall
  simp only [List.append_nil]
  exact q
theorem r_nil (q : Qa [] H) : tNil σ H Qa := q
theorem r_cons (q : ta σ H fun x H1 => ts σ H1 fun xs H2 => Qa (x :: xs) H2) : tCons ta ts σ H Qa := q
theorem r_seq (q : sa { D with nx := sb D } σ H) : tSeq sa sb D σ H := q
theorem r_asg (q : te σ H fun x H1 => g x σ H1 D.nx) : tAsg te g D σ H := q
theorem r_name {Q : L2.St → Hp → Prop} (q : Q (σ.set i (some v)) H) : gName i v σ H Q := q
theorem r_ret (q : te σ H D.rt) : tRet te D σ H := q
theorem r_next (q : D.nx σ H) : tNext D σ H := q
theorem r_drop (q : te σ H fun _ H1 => D.nx σ H1) : tDrop te D σ H := q
theorem r_ifS (q : t σ H fun b H1 => if b = true then sa D σ H1 else sb D σ H1) : tIfS t sa sb D σ H := q
theorem r_test (q : te σ H fun x H' => ∃ k, x = .bl k ∧ Qb k H') : tTest te σ H Qb := q
theorem r_tB (q : te σ H fun x H' => ∃ k, x = .bl k ∧ Qb k H') : tB te σ H Qb := q
theorem r_exb {P : Bool → Prop} {b : Bool} (q : P b) : ∃ k, V.bl b = .bl k ∧ P k := ⟨b, rfl, q⟩
theorem r_and (q : t σ H fun c H1 => if c = true then u σ H1 Qb else Qb false H1) : tAnd t u σ H Qb := q
theorem r_or (q : t σ H fun c H1 => if c = true then Qb true H1 else u σ H1 Qb) : tOr t u σ H Qb := q
theorem r_not (q : t σ H fun c H1 => Qb (!c) H1) : tNot t σ H Qb := q
theorem r_andV (q : ta σ H fun x H1 => ∃ c, x = .bl c ∧ if c = true then tb σ H1 Qv else Qv (.bl false) H1) : tAndV ta tb σ H Qv := q
theorem r_orV (q : ta σ H fun x H1 => ∃ c, x = .bl c ∧ if c = true then Qv (.bl true) H1 else tb σ H1 Qv) : tOrV ta tb σ H Qv := q
theorem r_notV (q : ta σ H fun x H1 => ∃ c, x = .bl c ∧ Qv (.bl (!c)) H1) : tNotV ta σ H Qv := q
theorem r_ifE (q : t σ H fun c H1 => if c = true then ta σ H1 Qv else tb σ H1 Qv) : tIf t ta tb σ H Qv := q
theorem r_chain (q : ta σ H fun x H1 => tb σ H1 fun y H2 => r x y H2 fun z H3 => ∃ k, z = .bl k ∧ (if k = true then tc σ H3 fun w' H4 => r' y w' H4 Qv else Qv (.bl false) H3)) : tChain r r' ta tb tc σ H Qv := q
theorem r_I0 {f : Int → Int → V} {a b : Int} (q : Qv (f a b) H) : rI0 f (.int a) (.int b) H Qv := ⟨a, b, rfl, rfl, q⟩
theorem r_I {C : Int → Int → Prop} {f : Int → Int → V} {a b : Int} (c : C a b) (q : Qv (f a b) H) : rI C f (.int a) (.int b) H Qv := ⟨a, b, rfl, rfl, c, q⟩
theorem r_eq (h : scal x y = true) (q : Qv (.bl (decide (x = y))) H) : rEq x y H Qv := ⟨h, q⟩
theorem r_ne (h : scal x y = true) (q : Qv (.bl (!decide (x = y))) H) : rNe x y H Qv := ⟨h, q⟩
theorem r_ixL0 {p : Addr} {xs : List V} {k : Int} (h : SqL K H p xs) (e : atI xs k = some v) (q : Qv v H) : rIxL K (.ref p) (.int k) H Qv := ⟨p, xs, k, v, rfl, rfl, h, e, q⟩
theorem r_ixT0 {p : Addr} {xs : List V} {k : Int} (h : SqT K H p xs) (e : atI xs k = some v) (q : Qv v H) : rIxT K (.ref p) (.int k) H Qv := ⟨p, xs, k, v, rfl, rfl, h, e, q⟩
theorem r_gSub {to ti : TE} {s : TSet} {Q : L2.St → Hp → Prop} (q : to σ H fun o H1 => ti σ H1 fun i H2 => s o i v H2 fun H3 => Q σ H3) : gSub to ti s v σ H Q := q
/-- a new object is laid, then R of its address -/
def Lay (n : Nat) (o : HO) (R : VK) (H : Hp) : Prop := n ≤ sizeLine ∧ ∀ p, H p = none → R (.ref p) (upd H p o)
theorem r_lay {e : En} {G : Hp} {M : List Addr} {n : Nat} {o : HO} {R : VK} (w : Wd e G H M) (hl : n ≤ sizeLine) (no : NoT o) (k : ∀ p G' H', H p = none → Wd e G' H' M → Same G G' → G' p = some o → Same H H' → R (.ref p) H') : Lay n o R H :=
  ⟨hl, fun p hp => k p _ _ hp (wd_lay w hp no) (same_upd (w.g hp)) upd_same (same_upd hp)⟩
def LayM (n : Nat) (o : HO) (R : VK) (H : Hp) : Prop := Lay n o R H
theorem r_layM {e : En} {G : Hp} {M : List Addr} {n : Nat} {o : HO} {R : VK} (w : Wd e G H M) (hl : n ≤ sizeLine) (no : plainB o = true) (k : ∀ p H', H p = none → Wd e G H' (p :: M) → H' p = some o → Same H H' → (∀ m ∈ M, p ≠ m) → R (.ref p) H') : LayM n o R H :=
  ⟨hl, fun p hp => k p _ hp (wd_layM w hp no) upd_same (same_upd hp) fun m hm => w.nm hp hm⟩
/-- a list that will be changed -/
def tLstM (ts : TA) : TE := tLst ts
theorem pe_lstM {X : Cx} {es : List Expr} {pos : Pos} (h : PA X es ts) : PE X (.List es pos) (tLstM ts) := pe_lst h
theorem r_lstM (q : ts σ H fun xs H1 => LayM xs.length (.lst xs) Qv H1) : tLstM ts σ H Qv := q
theorem r_tup (q : ts σ H fun xs H1 => Lay xs.length (.tup xs) Qv H1) : tTup ts σ H Qv := q
theorem r_lst (q : ts σ H fun xs H1 => Lay xs.length (.lst xs) Qv H1) : tLst ts σ H Qv := q
/-! ### operations on several kinds -/
theorem opr_or {X : Cx} {f : Value → Value → Sem Value} {r1 r2 : R2} (h1 : OpR X f r1) (h2 : OpR X f r2) : OpR X f (fun x y H Q => r1 x y H Q ∨ r2 x y H Q) := fun pins s σ H x y v u Q I rx ry h =>
  h.elim (fun h => h1 pins s σ H x y v u Q I rx ry h) fun h => h2 pins s σ H x y v u Q I rx ry h
theorem cr_or {X : Cx} {f : Value} {r1 r2 : List V → Hp → VK → Prop} (h1 : CallR X f r1) (h2 : CallR X f r2) : CallR X f (fun xs H Q => r1 xs H Q ∨ r2 xs H Q) := fun pins s σ H xs us Q I r h =>
  h.elim (fun h => h1 pins s σ H xs us Q I r h) fun h => h2 pins s σ H xs us Q I r h
def rStr2 (f : Str → Str → V) : R2 := fun x y H Q => ∃ a b, x = .str a ∧ y = .str b ∧ Q (f a b) H
def rAddS : R2 := fun x y H Q => ∃ i j, x = .str i ∧ y = .str j ∧ i.length + j.length ≤ sizeLine ∧ Q (.str (i ++ j)) H
/-- + : ints, texts, lists -/
def rAdd : R2 := fun x y H Q => rI0 (fun i j => .int (i + j)) x y H Q ∨ (rAddS x y H Q ∨ rCat x y H Q)
theorem q_add {X : Cx} : OpR X (binaryOp .Add) rAdd := opr_or op_add (opr_or op_add_str op_cat)
theorem r_addI {a b : Int} (q : Qv (.int (a + b)) H) : rAdd (.int a) (.int b) H Qv := .inl ⟨a, b, rfl, rfl, q⟩
theorem r_addS {a b : Str} (h : a.length + b.length ≤ sizeLine) (q : Qv (.str (a ++ b)) H) : rAdd (.str a) (.str b) H Qv := .inr (.inl ⟨a, b, rfl, rfl, h, q⟩)
theorem r_addL {a b : Addr} {xs zs : List V} (h1 : H a = some (.lst xs)) (h2 : H b = some (.lst zs)) (q : Lay (xs.length + zs.length) (.lst (xs ++ zs)) Qv H) : rAdd (.ref a) (.ref b) H Qv := .inr (.inr ⟨a, b, xs, zs, rfl, rfl, h1, h2, q⟩)
def rSub : R2 := rI0 fun i j => .int (i - j)
theorem q_sub {X : Cx} : OpR X (binaryOp .Sub) rSub := op_sub
theorem r_sub {a b : Int} (q : Qv (.int (a - b)) H) : rSub (.int a) (.int b) H Qv := ⟨a, b, rfl, rfl, q⟩
def rMul : R2 := rI CMul fun i j => .int (i * j)
theorem q_mul {X : Cx} : OpR X (binaryOp .Mult) rMul := op_mul
theorem r_mul {a b : Int} (c : CMul a b) (q : Qv (.int (a * b)) H) : rMul (.int a) (.int b) H Qv := ⟨a, b, rfl, rfl, c, q⟩
def rFdiv : R2 := rI CDivW fun i j => .int (i / j)
theorem q_fdiv {X : Cx} : OpR X (binaryOp .FloorDiv) rFdiv := op_fdivW
theorem r_fdiv {a b : Int} (c : CDivW a b) (q : Qv (.int (a / b)) H) : rFdiv (.int a) (.int b) H Qv := ⟨a, b, rfl, rfl, c, q⟩
def rMod : R2 := rI (fun _ j => 0 < j) fun i j => .int (i % j)
theorem q_mod {X : Cx} : OpR X (binaryOp .Mod) rMod := op_mod
theorem r_mod {a b : Int} (c : 0 < b) (q : Qv (.int (a % b)) H) : rMod (.int a) (.int b) H Qv := ⟨a, b, rfl, rfl, c, q⟩
def rPow : R2 := rI CPow fun i j => .int (i ^ j.toNat)
theorem q_pow {X : Cx} : OpR X (binaryOp .Pow) rPow := op_pow
theorem r_pow {a b : Int} (c : CPow a b) (q : Qv (.int (a ^ b.toNat)) H) : rPow (.int a) (.int b) H Qv := ⟨a, b, rfl, rfl, c, q⟩
/-- comparisons of ints | of texts -/
def rLtX : R2 := fun x y H Q => rI0 (fun i j => .bl (decide (i < j))) x y H Q ∨ rStr2 (fun a b => .bl (decide (a.cps.toList < b.cps.toList))) x y H Q
theorem q_lt {X : Cx} : OpR X (compareOp .Lt) rLtX := opr_or op_lt op_lt_str
theorem r_lt {a b : Int} (q : Qv (.bl (decide (a < b))) H) : rLtX (.int a) (.int b) H Qv := .inl ⟨a, b, rfl, rfl, q⟩
theorem r_ltS {a b : Str} (q : Qv (.bl (decide (a.cps.toList < b.cps.toList))) H) : rLtX (.str a) (.str b) H Qv := .inr ⟨a, b, rfl, rfl, q⟩
def rLeX : R2 := rI0 fun i j => .bl (decide (i ≤ j))
theorem q_le {X : Cx} : OpR X (compareOp .LtE) rLeX := op_le
theorem r_le {a b : Int} (q : Qv (.bl (decide (a ≤ b))) H) : rLeX (.int a) (.int b) H Qv := ⟨a, b, rfl, rfl, q⟩
def rGtX : R2 := rI0 fun i j => .bl (decide (j < i))
theorem q_gt {X : Cx} : OpR X (compareOp .Gt) rGtX := op_gt
theorem r_gt {a b : Int} (q : Qv (.bl (decide (b < a))) H) : rGtX (.int a) (.int b) H Qv := ⟨a, b, rfl, rfl, q⟩
def rGeX : R2 := rI0 fun i j => .bl (decide (j ≤ i))
theorem q_ge {X : Cx} : OpR X (compareOp .GtE) rGeX := op_ge
theorem r_ge {a b : Int} (q : Qv (.bl (decide (b ≤ a))) H) : rGeX (.int a) (.int b) H Qv := ⟨a, b, rfl, rfl, q⟩
/-- == : scalars, data -/
def rEqX (K : PySem.W.Frag) : R2 := fun x y H Q => rEq x y H Q ∨ rEqD K x y H Q
theorem q_eq {X : Cx} (hu : X.A.units + 64 < cLine) : OpR X (compareOp .Eq) (rEqX X.K) := opr_or op_eq (op_eqD hu)
theorem r_eqS (h : scal x y = true) (q : Qv (.bl (decide (x = y))) H) : rEqX K x y H Qv := .inl ⟨h, q⟩
theorem r_eqD {d e : PyData} (h1 : Dp K H x d) (h2 : Dp K H y e) (s1 : SeqAt.shaped d = true) (s2 : SeqAt.shaped e = true) (q : Qv (.bl (PyData.eqv d e)) H) : rEqX K x y H Qv := .inr ⟨d, e, h1, h2, s1, s2, q⟩
def rNeX (K : PySem.W.Frag) : R2 := fun x y H Q => rNe x y H Q ∨ rNeD K x y H Q
theorem q_ne {X : Cx} (hu : X.A.units + 64 < cLine) : OpR X (compareOp .NotEq) (rNeX X.K) := opr_or op_ne (op_neD hu)
theorem r_neS (h : scal x y = true) (q : Qv (.bl (!decide (x = y))) H) : rNeX K x y H Qv := .inl ⟨h, q⟩
theorem r_neD {d e : PyData} (h1 : Dp K H x d) (h2 : Dp K H y e) (s1 : SeqAt.shaped d = true) (s2 : SeqAt.shaped e = true) (q : Qv (.bl (!PyData.eqv d e)) H) : rNeX K x y H Qv := .inr ⟨d, e, h1, h2, s1, s2, q⟩
theorem r_inL {p : Addr} {xs : List V} (h : SqL K H p xs) (f1 : flatV x = true) (f2 : xs.all flatV = true) (q : Qv (.bl (inV x xs)) H) : rIn K false x (.ref p) H Qv := ⟨p, xs, rfl, .inl h, f1, f2, q⟩
theorem r_inT {p : Addr} {xs : List V} (h : SqT K H p xs) (f1 : flatV x = true) (f2 : xs.all flatV = true) (q : Qv (.bl (inV x xs)) H) : rIn K false x (.ref p) H Qv := ⟨p, xs, rfl, .inr h, f1, f2, q⟩
theorem r_ninL {p : Addr} {xs : List V} (h : SqL K H p xs) (f1 : flatV x = true) (f2 : xs.all flatV = true) (q : Qv (.bl (!inV x xs)) H) : rIn K true x (.ref p) H Qv := ⟨p, xs, rfl, .inl h, f1, f2, q⟩
theorem r_ninT {p : Addr} {xs : List V} (h : SqT K H p xs) (f1 : flatV x = true) (f2 : xs.all flatV = true) (q : Qv (.bl (!inV x xs)) H) : rIn K true x (.ref p) H Qv := ⟨p, xs, rfl, .inr h, f1, f2, q⟩
def rIsN : R2 := fun x y H Q => y = .non ∧ Q (.bl (decide (x = .non))) H
theorem q_isN {X : Cx} : OpR X (compareOp .Is) rIsN := op_isN
theorem r_isN (q : Qv (.bl (decide (x = .non))) H) : rIsN x .non H Qv := ⟨rfl, q⟩
def rNotN : R2 := fun x y H Q => y = .non ∧ Q (.bl (!decide (x = .non))) H
theorem q_notN {X : Cx} : OpR X (compareOp .IsNot) rNotN := op_notN
theorem r_notN (q : Qv (.bl (!decide (x = .non))) H) : rNotN x .non H Qv := ⟨rfl, q⟩
/-! ### an index: a list, a tuple, a text -/
theorem q_ix {X : Cx} : IxR X (rIx X.K) := ix_seq
theorem r_ixL {p : Addr} {xs : List V} {k : Int} (h : SqL K H p xs) (e : atI xs k = some v) (q : Qv v H) : rIx K (.ref p) (.int k) H Qv := .inl ⟨p, xs, k, v, rfl, rfl, h, e, q⟩
theorem r_ixT {p : Addr} {xs : List V} {k : Int} (h : SqT K H p xs) (e : atI xs k = some v) (q : Qv v H) : rIx K (.ref p) (.int k) H Qv := .inr (.inl ⟨p, xs, k, v, rfl, rfl, h, e, q⟩)
theorem r_ixS {z : Str} {k : Int} {c : Nat} (h : z.length ≤ sizeLine) (e : atI z.cps.toList k = some c) (q : Qv (.str ⟨#[c]⟩) H) : rIx K (.str z) (.int k) H Qv := .inr (.inr ⟨z, k, c, rfl, rfl, h, e, q⟩)
theorem r_setL {p : Addr} {xs : List V} {k : Int} {j : Nat} {Q : Hp → Prop} (h : H p = some (.lst xs)) (e : ixN xs.length k = some j) (q : Q (upd H p (.lst (xs.set j v)))) : rSetL (.ref p) (.int k) v H Q := ⟨p, xs, k, j, rfl, rfl, h, e, q⟩
theorem r_setM {e : En} {G : Hp} {M : List Addr} {p : Addr} {xs : List V} {k : Int} {j : Nat} {Q : Hp → Prop} (w : Wd e G H M) (hm : p ∈ M) (h : H p = some (.lst xs)) (e' : ixN xs.length k = some j)
    (q : ∀ H', Wd e G H' M → H' p = some (.lst (xs.set j v)) → But p H H' → Q H') : rSetL (.ref p) (.int k) v H Q := ⟨p, xs, k, j, rfl, rfl, h, e', q _ (wd_mut w hm) upd_same but_upd⟩
/-! ### built-ins -/
def rInt1 : List V → Hp → VK → Prop := fun xs H Q => (∃ i, xs = [.int i] ∧ Q (.int i) H) ∨ ∃ k, xs = [.bl k] ∧ Q (.int (if k then 1 else 0)) H
theorem q_int {X : Cx} : CallR X (.type "int") rInt1 := call_int1
theorem r_int {a : Int} (q : Qv (.int a) H) : rInt1 [.int a] H Qv := .inl ⟨a, rfl, q⟩
theorem r_intB {b : Bool} (q : Qv (.int (if b then 1 else 0)) H) : rInt1 [.bl b] H Qv := .inr ⟨b, rfl, q⟩
def rAbs : List V → Hp → VK → Prop := fun xs H Q => ∃ i, xs = [.int i] ∧ Q (.int (if i < 0 then -i else i)) H
theorem q_abs {X : Cx} : CallR X (.builtin "abs") rAbs := call_abs
theorem r_abs {a : Int} (q : Qv (.int (if a < 0 then -a else a)) H) : rAbs [.int a] H Qv := ⟨a, rfl, q⟩
def rLenX (K : PySem.W.Frag) : List V → Hp → VK → Prop := fun xs H Q => ∃ x n, xs = [x] ∧ LenV K x H n ∧ Q (.int n) H
theorem q_len {X : Cx} : CallR X (.builtin "len") (rLenX X.K) := call_len
theorem r_lenL {p : Addr} {xs : List V} (h : SqL K H p xs) (q : Qv (.int (xs.length : Nat)) H) : rLenX K [.ref p] H Qv := ⟨_, _, rfl, .inl ⟨xs, h, rfl⟩, q⟩
theorem r_lenT {p : Addr} {xs : List V} (h : SqT K H p xs) (q : Qv (.int (xs.length : Nat)) H) : rLenX K [.ref p] H Qv := ⟨_, _, rfl, .inr ⟨xs, h, rfl⟩, q⟩
theorem r_lenS {z : Str} (h : z.length ≤ sizeLine) (q : Qv (.int (z.length : Nat)) H) : rLenX K [.str z] H Qv := ⟨_, _, rfl, ⟨h, rfl⟩, q⟩
def rListOf (K : PySem.W.Frag) : List V → Hp → VK → Prop := fun xs H Q => ∃ p ys, xs = [.ref p] ∧ (SqL K H p ys ∨ SqT K H p ys) ∧ ∀ l, H l = none → Q (.ref l) (upd H l (.lst ys))
theorem q_list {X : Cx} : CallR X (.type "list") (rListOf X.K) := call_list_of
theorem r_listL {p : Addr} {ys : List V} (h : SqL K H p ys) (q : Lay 0 (.lst ys) Qv H) : rListOf K [.ref p] H Qv := ⟨p, ys, rfl, .inl h, q.2⟩
theorem r_listT {p : Addr} {ys : List V} (h : SqT K H p ys) (q : Lay 0 (.lst ys) Qv H) : rListOf K [.ref p] H Qv := ⟨p, ys, rfl, .inr h, q.2⟩
theorem r_sl {r : V → Option Int → Option Int → Hp → VK → Prop} {t1 t2 : TO} (q : te σ H fun x H1 => t1 σ H1 fun l H2 => t2 σ H2 fun u H3 => r x l u H3 Qv) : tSl r te t1 t2 σ H Qv := q
theorem r_noPart {Q : Option Int → Hp → Prop} (q : Q none H) : tNoPart σ H Q := q
theorem r_part {Q : Option Int → Hp → Prop} (q : te σ H fun x H1 => ∃ i, x = .int i ∧ Q (some i) H1) : tPart te σ H Q := q
theorem r_exi {P : Int → Prop} {a : Int} (q : P a) : ∃ i, V.int a = .int i ∧ P i := ⟨a, rfl, q⟩
theorem r_slL {p : Addr} {xs : List V} {lo hi : Option Int} (h : SqL K H p xs) (q : Lay 0 (.lst (cutV xs lo hi)) Qv H) : rSlL K (.ref p) lo hi H Qv := ⟨p, xs, rfl, h, q.2⟩
theorem r_repr {d : PyData} (h : Dp K H x d) (s : d.showable = true) (dp : d.depth ≤ 60) (sz : d.shown.length ≤ sizeLine) (q : Qv (.str d.shown) H) : rRepr K [x] H Qv := ⟨x, d, rfl, h, s, dp, sz, q⟩
end
theorem dpa_ints {K : PySem.W.Frag} {H : Hp} : ∀ ns : List Int, DpAll K H (ns.map V.int) (ns.map PyData.int)
  | [] => .nil
  | n :: r => .cons (.int n) (dpa_ints r)
theorem canLay_ints : ∀ ns : List Int, PyData.canLayAll0 (ns.map PyData.int) = true
  | [] => by simp [PyData.canLayAll0]
  | n :: r => by simp [PyData.canLayAll0, PyData.canLay0, canLay_ints r]
theorem depth_ints : ∀ ns : List Int, PyData.depthAll (ns.map PyData.int) = 0
  | [] => by simp [PyData.depthAll]
  | n :: r => by simp [PyData.depthAll, PyData.depth, depth_ints r]
theorem shaped_ints (ns : List Int) : SeqAt.shaped (.list (ns.map PyData.int)) = true := by
  simp [SeqAt.shaped, PyData.canLay0, PyData.depth, canLay_ints, depth_ints]
theorem shaped_nil : SeqAt.shaped (.list []) = true := shaped_ints []
theorem eqv_nil (ds : List PyData) : PyData.eqv (.list ds) (.list []) = ds.isEmpty := by
  cases ds <;> simp [PyData.eqv, PyData.eqvAll]
theorem sq_bound {a c : Int} (h0 : 0 ≤ a) (h1 : a ≤ 1048576) (c0 : 0 ≤ c) (c1 : c ≤ 1048576) : 0 ≤ c * a * a ∧ c * a * a ≤ 1152921504606846976 := by
  have e1 : c * a ≤ 1048576 * 1048576 := Int.mul_le_mul c1 h1 h0 (by decide)
  have e0 : 0 ≤ c * a := Int.mul_nonneg c0 h0
  refine ⟨Int.mul_nonneg e0 h0, ?_⟩
  exact Int.le_trans (Int.mul_le_mul e1 h1 h0 (by decide)) (by decide)
theorem mul_bound {m k : Int} (h0 : 0 ≤ m) (h1 : m ≤ 4294967296) (k0 : 0 ≤ k) (k1 : k ≤ 134217728) : 0 ≤ m * k ∧ m * k ≤ 576460752303423488 :=
  ⟨Int.mul_nonneg h0 k0, Int.le_trans (Int.mul_le_mul h1 k1 k0 (by decide)) (by decide)⟩
theorem at_mod {α : Type} {xs : List α} (a : Int) (h : xs ≠ []) : ∃ j v, (a % (xs.length : Int)) = (j : Nat) ∧ xs[j]? = some v ∧ atI xs (a % (xs.length : Int)) = some v := by
  have h0 : 0 < xs.length := by cases xs with
    | nil => exact absurd rfl h
    | cons _ _ => simp
  have h1 := Int.emod_nonneg a (show (xs.length : Int) ≠ 0 by omega)
  have h2 := Int.emod_lt_of_pos a (show (0 : Int) < xs.length by omega)
  obtain ⟨j, e⟩ := Int.eq_ofNat_of_zero_le h1
  have hj : j < xs.length := by omega
  refine ⟨j, xs[j], e, List.getElem?_eq_getElem hj, ?_⟩
  rw [e]
  exact atI_nat (List.getElem?_eq_getElem hj)
theorem at_mod_ints {ns : List Int} (a : Int) (h : ns ≠ []) : ∃ z, atI (ns.map V.int) (a % ((ns.map V.int).length : Int)) = some (V.int z) := by
  obtain ⟨j, v, _, h2, h3⟩ := at_mod (xs := ns.map V.int) a (by simpa using h)
  rw [List.getElem?_map] at h2
  cases e : ns[j]? with
  | none => rw [e] at h2; cases h2
  | some z =>
    rw [e] at h2
    exact ⟨z, by rw [h3]; exact h2.symm⟩
theorem pow_small {m k c a e : Int} (m0 : 0 ≤ m) (m1 : m ≤ 4294967296) (k0 : 0 ≤ k) (k1 : k ≤ 134217728) (c0 : 0 ≤ c) (c1 : c ≤ 1048576) (a0 : 0 ≤ a) (a1 : a ≤ 1048576) (e0 : 0 ≤ e) (e1 : e ≤ 4294967296) : (m * k + c * a * a + e).natAbs < 2 ^ 64 := by
  have h1 := mul_bound m0 m1 k0 k1
  have h2 := sq_bound a0 a1 c0 c1
  omega
theorem cdiv_lit {i j : Int} (h : 0 < j) (h2 : j < 1073741824) : CDivW i j := wide_div (b := 30) h (by omega) (by decide) (by decide)
/-! ### what a law's draws promise -/
def spDraw : Sp := fun vs H Q _ => ∃ (G : Hp) (p c : Addr) (n : Nat) (many : Int), vs = [.ref p, .int many] ∧ Gh G H ∧ G p = none ∧ Cells c G ∧ PenAt p c n H ∧ n ≤ 1048576 ∧ 0 < many ∧ many ≤ 10000000000000000000000000000000000000000000000000000000000000000000000 ∧
  RetP p c (n + 1) G H (fun v _ => ∃ d : Int, v = .int d ∧ 0 ≤ d ∧ d < many) Q
theorem u_draw {e : En} {G H : Hp} {M : List Addr} {p c : Addr} {n : Nat} {many : Int} {Q : VK} {E : XK} (w : Wd e G H M) (hm : p ∈ M) (hc : Cells c G) (P : PenAt p c n H) (hn : n ≤ 1048576) (h0 : 0 < many)
    (hb : many ≤ 10000000000000000000000000000000000000000000000000000000000000000000000) (k : ∀ (d : Int) (G' H' : Hp), Wd e G' H' M → Same G G' → But p H H' → PenAt p c (n + 1) H' → 0 ≤ d → d < many → Q (.int d) H') : spDraw [.ref p, .int many] H Q E :=
  ⟨G, p, c, n, many, rfl, w.gh, (w.mu p hm).1, hc, P, hn, h0, hb, retP_use w hm fun v G' H' w' s b P' ⟨d, e, h1, h2⟩ => by subst e; exact k d G' H' w' s b P' h1 h2⟩
theorem cutV_ints (ns : List Int) (lo hi : Option Int) : ∃ ms : List Int, cutV (ns.map V.int) lo hi = ms.map V.int := by
  unfold cutV
  exact ⟨_, by rw [← List.map_drop, ← List.map_take]⟩
/-- the pen is made -/
def spPen (K : PySem.W.Frag) : Sp := fun vs H Q _ => ∃ (G : Hp) (a : Addr) (ns : List Int), vs = [.ref a] ∧ Gh G H ∧ SqL K G a (ns.map V.int) ∧ ns.length ≤ 63 ∧
  ∀ (p c : Addr) (G' H' : Hp), Same H H' → Gh G' H' → Same G G' → (∀ a, H a ≠ none → G' a = G a) → G' p = none → H p = none → Cells c G' → PenAt p c 0 H' → Q (.ref p) H'
theorem wd_grow {e : En} {G H G' H' : Hp} {M : List Addr} {p : Addr} {o : HO} (w : Wd e G H M) (s1 : Same H H') (s2 : Gh G' H') (s3 : Same G G') (fr : ∀ a, H a ≠ none → G' a = G a) (gp : G' p = none) (hp : H p = none) (ho : H' p = some o)
    (no : plainB o = true := by rfl) : Wd e G' H' (p :: M) := by
  have w1 := wd_same w s1
  refine ⟨s2.1, fun a ha => ?_, List.nodup_cons.mpr ⟨fun z => w.nm hp z rfl, w.nd⟩, w1.dom, fun a o h => s3 _ _ (w.gr _ _ h), fun a ha => by rw [fr a (w.dom a ha)]; exact w.fr a ha, w1.kp, s2.2, fun a ha u z => ?_, w1.tb⟩
  · rcases List.mem_cons.mp ha with x | ha
    · subst x
      exact ⟨gp, ⟨o, ho⟩, .inl (w.n0 hp)⟩
    · obtain ⟨h1, ⟨o, h2⟩, h3⟩ := w.mu a ha
      obtain ⟨_, h4, _⟩ := w1.mu a ha
      exact ⟨by rw [fr a (some_ne h2)]; exact h1, h4, h3⟩
  · rcases List.mem_cons.mp ha with x | ha
    · rw [x, ho] at z
      rw [← Option.some.inj z]
      exact no
    · exact w1.mt a ha u z
theorem u_pen {K : PySem.W.Frag} {e : En} {G H : Hp} {M : List Addr} {a : Addr} {ns : List Int} {Q : VK} {E : XK} (w : Wd e G H M) (h : SqL K G a (ns.map V.int)) (hl : ns.length ≤ 63)
    (k : ∀ (p c : Addr) (G' H' : Hp), Wd e G' H' (p :: M) → Same G G' → Same H H' → Cells c G' → PenAt p c 0 H' → Q (.ref p) H') : spPen K [.ref a] H Q E :=
  ⟨G, a, ns, rfl, w.gh, h, hl, fun p c G' H' s1 s2 s3 fr gp hp hc P => by
    obtain ⟨_, _, h1, _⟩ := id P
    exact k p c G' H' (wd_grow w s1 s2 s3 fr gp hp h1) s3 s1 hc P⟩
/-- what can be picked from -/
def IsSq (K : PySem.W.Frag) (G : Hp) (s : V) (xs : List V) : Prop := (∃ l, s = .ref l ∧ (SqL K G l xs ∨ SqT K G l xs)) ∨ ∃ z : Str, s = .str z ∧ z.length ≤ 1000 ∧ xs = z.cps.toList.map fun c => V.str ⟨#[c]⟩
def spPick (K : PySem.W.Frag) : Sp := fun vs H Q _ => ∃ (G : Hp) (p c : Addr) (n : Nat) (s : V) (xs : List V), vs = [.ref p, s] ∧ Gh G H ∧ G p = none ∧ Cells c G ∧ PenAt p c n H ∧ n ≤ 1048576 ∧ IsSq K G s xs ∧ xs ≠ [] ∧ xs.length ≤ 1000000 ∧
  RetP p c (n + 1) G H (fun v _ => v ∈ xs) Q
theorem u_pick {K : PySem.W.Frag} {e : En} {G H : Hp} {M : List Addr} {p c : Addr} {n : Nat} {s : V} {xs : List V} {Q : VK} {E : XK} (w : Wd e G H M) (hm : p ∈ M) (hc : Cells c G) (P : PenAt p c n H) (hn : n ≤ 1048576) (hs : IsSq K G s xs) (h0 : xs ≠ []) (hb : xs.length ≤ 1000000)
    (k : ∀ (v : V) (G' H' : Hp), Wd e G' H' M → Same G G' → But p H H' → PenAt p c (n + 1) H' → v ∈ xs → Q v H') : spPick K [.ref p, s] H Q E :=
  ⟨G, p, c, n, s, xs, rfl, w.gh, (w.mu p hm).1, hc, P, hn, hs, h0, hb, retP_use w hm fun v G' H' w' s b P' h => k v G' H' w' s b P' h⟩
/-! ### kinds -/
theorem same_ty {K : PySem.W.Frag} {H H' : Hp} {x : V} {t : Value} (s : Same H H') (h : TyX K H x t) : TyX K H' x t := by
  cases h with
  | base b =>
    cases b with
    | non => exact .base .non
    | bl y => exact .base (.bl y)
    | int i => exact .base (.int i)
    | str y => exact .base (.str y)
    | flt y => exact .base (.flt y)
    | lst e => exact .base (.lst (s _ _ e))
    | frz e => exact .base (.frz (s _ _ e))
    | tup e => exact .base (.tup (s _ _ e))
    | dK e => exact .base (.dK (s _ _ e))
    | dT e => exact .base (.dT (s _ _ e))
    | ins e cl ha hn htk hm => exact .base (.ins (s _ _ e) cl ha hn htk hm)
  | byt y => exact .byt y
  | set e => exact .set (s _ _ e)
  | kList e c => exact .kList e c
  | kTuple e c => exact .kTuple e c
  | kDict e c => exact .kDict e c
  | fTuple e => exact .fTuple (s _ _ e)
  | fDict e => exact .fDict (s _ _ e)
theorem r_isi {K : PySem.W.Frag} {H : Hp} {x : V} {n : String} {t : Value} {b : Bool} {Qv : VK} (h : TyX K H x t) (e : PySem.W.kitOne K t (.type n) = some b) (q : Qv (.bl b) H) : rIsi K [x, .ty n] H Qv := ⟨x, .ty n, t, .type n, b, rfl, .ty n, h, e, q⟩
theorem r_isiC {K : PySem.W.Frag} {H : Hp} {x : V} {C : Addr} {t : Value} {b : Bool} {Qv : VK} (h : TyX K H x t) (e : PySem.W.kitOne K t (.ref C) = some b) (q : Qv (.bl b) H) : rIsi K [x, .ref C] H Qv := ⟨x, .ref C, t, .ref C, b, rfl, .own C, h, e, q⟩
end Q
namespace Q
open PySem PySem.Spec PyProof.Rows L2
/-! ### a def as it stands, ready to be called -/
abbrev FnP (K : PySem.W.Frag) (x qual : Str) (st : Stmt) (dvs : List V) (f : Addr) (fd : FuncData) : Prop := FunD K x qual (defArgs st) (defBody st) (defScope st) dvs [] f fd
structure Df (P : Program) (w : World) (K : PySem.W.Frag) (mg : Str → Option Value) (base : Heap) (CX : CXT) (k : Nat) (x : Str) (dvs : List V) (sp : Sp) : Prop where
  ex : ∃ (f : Addr) (fd : FuncData) (ps : List Str) (ds : List Value), mg x = some (.ref f) ∧ PySem.W.keepIn K (.ref f) = true ∧ Binds K fd ps ds ∧ Vals dvs ds ∧ FnOk P w K mg base CX k f fd ps sp
structure DfA (P : Program) (w : World) (K : PySem.W.Frag) (mg : Str → Option Value) (base : Heap) (CX : CXT) (k : Nat) (x : Str) (dvs : List V) (sp : Sp) : Prop where
  ex : ∃ (f : Addr) (fd : FuncData) (ps : List Str) (ds : List Value), mg x = some (.ref f) ∧ PySem.W.keepIn K (.ref f) = true ∧ Binds K fd ps ds ∧ Vals dvs ds ∧ FnA P w K mg base CX k f fd ps sp
section
variable {X : Cx} {CX : CXT} {k j : Nat} {sp : Sp} {dvs : List V} {E : XK} {x : Str} {e : Expr} {es : List Expr} {t : TA} {pos p : Pos}
theorem pe_callD (D : Df X.prog X.w X.K X.mg X.base CX k x dvs sp) (hr : Room j X.A) (hx : Passes CX X E) (ha : PA X (e :: es) t) (hj : k ≤ j := by decide) (hg : Gl X x := by rfl)
    (hdb : (x == ("__debug__" : Str)) = false := by decide) (he : starEach (e :: es) X.env = (false, eval e X.env) :: starEach es X.env := by rfl) (hpl : (backTo pos (starEach es X.env)).any (·.1) = false := by rfl) :
    PE X (.Call (.Name x p) (e :: es) [] pos) (tCall sp dvs E t) := by
  obtain ⟨f, fd, ps, ds, h1, h2, h3, h4, h5⟩ := D.ex
  exact pe_call h5 (hr.mono hj) hg h1 h2 h3 h4 hx ha hdb he hpl
theorem pe_callD0 (D : Df X.prog X.w X.K X.mg X.base CX k x dvs sp) (hr : Room j X.A) (hx : Passes CX X E) (hj : k ≤ j := by decide) (hg : Gl X x := by rfl)
    (hdb : (x == ("__debug__" : Str)) = false := by decide) : PE X (.Call (.Name x p) [] [] pos) (tCall sp dvs E tNil) := by
  obtain ⟨f, fd, ps, ds, h1, h2, h3, h4, h5⟩ := D.ex
  exact pe_call0 h5 (hr.mono hj) hg h1 h2 h3 h4 hx hdb
theorem pe_callDA (D : DfA X.prog X.w X.K X.mg X.base CX k x dvs sp) (g : G0 X.A) (hr : Room j X.A) (hx : Passes CX X E) (ha : PA X (e :: es) t) (hj : k ≤ j := by decide) (hg : Gl X x := by rfl)
    (hdb : (x == ("__debug__" : Str)) = false := by decide) (he : starEach (e :: es) X.env = (false, eval e X.env) :: starEach es X.env := by rfl) (hpl : (backTo pos (starEach es X.env)).any (·.1) = false := by rfl) :
    PE X (.Call (.Name x p) (e :: es) [] pos) (tCall sp dvs E t) := by
  obtain ⟨f, fd, ps, ds, h1, h2, h3, h4, h5⟩ := D.ex
  exact pe_callA h5 g (hr.mono hj) hg h1 h2 h3 h4 hx ha hdb he hpl
end
section
variable {P : Program} {w : World} {K : PySem.W.Frag} {mg : Str → Option Value} {base : Heap} {x qual : Str} {st : Stmt} {f : Addr} {fd : FuncData} {N ps : List Str} {k : Nat} {sp : Sp} {dvs : List V}
/-- a def from which nothing is raised -/
theorem fnP_ok (F : FnP K x qual st dvs f fd) (S : FnScope N ps (defScope st)) (len : ∀ vs H Q E, sp vs H Q E → vs.length = ps.length)
    (body : ∀ (cdv : Value) (A : Around) (outer : List Env) (s : Shared) (H : Hp) (vs : List V) (Q : VK) (E : XK), Room k (A.deeper (envOfC qual (defScope st) s.heap.objs.size f cdv)) → sp vs H Q E →
      ∃ t, PSs (cxOf CX0 P w K mg base N qual (defScope st) f cdv A outer s H E).nox (defBody st) t ∧ t { nx := fun _ H' => Q .non H', rt := Q } (start N vs) H) :
    FnOk P w K mg base CX0 (k + 1) f fd ps sp := FunD.ok F S len fun cdv A outer s H vs Q E hr h => by
  obtain ⟨t, h1, q⟩ := body cdv A outer s H vs Q E hr h
  exact ⟨t, h1.nox, q⟩
theorem fnP_okA (F : FnP K x qual st dvs f fd) (S : FnScope N ps (defScope st)) (len : ∀ vs H Q E, sp vs H Q E → vs.length = ps.length)
    (body : ∀ (cdv : Value) (A : Around) (outer : List Env) (s : Shared) (H : Hp) (vs : List V) (Q : VK) (E : XK), G0 (A.deeper (envOfC qual (defScope st) s.heap.objs.size f cdv)) → Room k (A.deeper (envOfC qual (defScope st) s.heap.objs.size f cdv)) → sp vs H Q E →
      ∃ t, PSs (cxOf CX0 P w K mg base N qual (defScope st) f cdv A outer s H E).nox (defBody st) t ∧ t { nx := fun _ H' => Q .non H', rt := Q } (start N vs) H) :
    FnA P w K mg base CX0 (k + 1) f fd ps sp := by
  obtain ⟨oc, od, dV, kV, doc, pm, an, cdv, ct, osl, rfl, lk, hcd, _, _⟩ := F.ex
  refine ⟨len, fun A outer s H args us vs Q E g hr e0 hb r h => ?_⟩
  refine LamX.run_ofS lk hcd S hr e0 hb r (len _ _ _ _ h) fun hr2 => ?_
  obtain ⟨t, h1, q⟩ := body cdv A outer s H vs Q E (g0_deeper g) hr2 h
  exact ⟨t, h1.nox, q⟩
theorem df_of {CX : CXT} (F : FnP K x qual st [] f fd) (hm : mg x = some (.ref f)) (G : FnOk P w K mg base CX k f fd ps sp)
    (b : ∀ (kV doc pm : Value) (an : Option Addr) (cdv ct : Value) (us : List Value), us.length = ps.length → bindArgs (PySem.W.fnOf x qual (defArgs st) (defBody st) (defScope st) .none kV doc pm an cdv ct) ⟨us, []⟩ = pure (ps.zip us)) :
    Df P w K mg base CX k x [] sp := ⟨f, fd, ps, [], hm, F.kp, F.bindsN b, .nil, G⟩
theorem dfA_of {CX : CXT} (F : FnP K x qual st [] f fd) (hm : mg x = some (.ref f)) (G : FnA P w K mg base CX k f fd ps sp)
    (b : ∀ (kV doc pm : Value) (an : Option Addr) (cdv ct : Value) (us : List Value), us.length = ps.length → bindArgs (PySem.W.fnOf x qual (defArgs st) (defBody st) (defScope st) .none kV doc pm an cdv ct) ⟨us, []⟩ = pure (ps.zip us)) :
    DfA P w K mg base CX k x [] sp := ⟨f, fd, ps, [], hm, F.kp, F.bindsN b, .nil, G⟩
end
end Q
namespace Q
open PySem PySem.Spec PyProof.Rows L2
/-! ### loops and comprehensions by their walk -/
def ForGo (J : It) (g : TG) (tb : TS) (D : Ends) (σ : L2.St) (H : Hp) : Prop := ∃ W : Nat → Nat → L2.St → Hp → Prop, (∃ m, W 0 m σ H) ∧ ∀ i m σ H, W i m σ H →
  (J.stop i H ∧ D.nx σ H) ∨ (J.go i H ∧ ∃ N : L2.St → Hp → Prop, (∀ σ' H', N σ' H' → ∃ m', m' < m ∧ W (i + 1) m' σ' H') ∧ ∀ x H', J.yld i H x H' → g x σ H' fun σ2 H2 => tb { D with nx := N, ct := N, bk := D.nx } σ2 H2)
theorem r_for {wi : TI} {g : TG} {tb : TS} {D : Ends} {σ : L2.St} {H : Hp} (q : wi σ H fun J H1 => ForGo J g tb D σ H1) : tFor wi g tb D σ H := q
theorem for_go {J : It} {n : Nat} {G : Hp → Prop} {Y : Nat → Hp → V → Hp → Prop} {g : TG} {tb : TS} {D : Ends} {σ : L2.St} {H : Hp} (w : Walk J n G Y) (Pv : Nat → L2.St → Hp → Prop) (h0 : Pv 0 σ H) (hG : ∀ i σ H, i ≤ n → Pv i σ H → G H)
    (hs : ∀ i x σ H H', i < n → Pv i σ H → Y i H x H' → g x σ H' fun σ2 H2 => tb { D with nx := Pv (i + 1), ct := Pv (i + 1), bk := D.nx } σ2 H2) (hd : ∀ σ H, Pv n σ H → D.nx σ H) : ForGo J g tb D σ H := for_it w Pv h0 hG hs hd
def LcGo (J : It) (g : TG) (tt : TT) (te : TE) (vs : List Nat) (σ : L2.St) (Q : VK) (H1 : Hp) : Prop := ∀ D, H1 D = none → ∃ W : Nat → Nat → Hp → Prop, (∃ m, W 0 m (upd H1 D (.lst []))) ∧ ∀ i m H, W i m H →
  (J.stop i H ∧ Q (.ref D) H) ∨ (J.go i H ∧ ∃ Nx : Hp → Prop, (∀ H', Nx H' → ∃ m', m' < m ∧ W (i + 1) m' H') ∧ ∀ x H', J.yld i H x H' → g x (wipe σ vs) H' fun σ2 H2 => wipe σ2 vs = wipe σ vs ∧ tt σ2 H2 fun b H3 =>
    if b = true then te σ2 H3 fun y H4 => ∃ acc, H4 D = some (.lst acc) ∧ acc.length < sizeLine ∧ Nx (upd H4 D (.lst (acc ++ [y]))) else Nx H3)
theorem r_lc {wi : TI} {g : TG} {tt : TT} {te : TE} {vs : List Nat} {σ : L2.St} {H : Hp} {Q : VK} (q : wi σ H fun J H1 => LcGo J g tt te vs σ Q H1) : tLc wi g tt te vs σ H Q := q
/-- a comprehension on its way: D the new list's place, acc what it holds, Gi the ghost -/
def LcP (e : En) (G : Hp) (M : List Addr) (R : Nat → List V → Hp → Hp → Prop) (Dd : Addr) (i : Nat) (H : Hp) : Prop := ∃ acc Gi, Wd e Gi H (Dd :: M) ∧ Same G Gi ∧ H Dd = some (.lst acc) ∧ acc.length ≤ i ∧ R i acc Gi H
def LcAdd (Dd : Addr) (P : Hp → Prop) : VK := fun y H4 => ∃ acc, H4 Dd = some (.lst acc) ∧ acc.length < sizeLine ∧ P (upd H4 Dd (.lst (acc ++ [y])))
def LcT (Dd : Addr) (P : Hp → Prop) (tt : TT) (te : TE) (vs : List Nat) (σ : L2.St) : L2.St → Hp → Prop := fun σ2 H2 => wipe σ2 vs = wipe σ vs ∧ tt σ2 H2 fun b H3 => if b = true then te σ2 H3 (LcAdd Dd P) else P H3
theorem r_lcT {Dd : Addr} {P : Hp → Prop} {tt : TT} {te : TE} {vs : List Nat} {σ σ2 : L2.St} {H : Hp} (h : wipe σ2 vs = wipe σ vs) (q : tt σ2 H fun b H3 => if b = true then te σ2 H3 (LcAdd Dd P) else P H3) : LcT Dd P tt te vs σ σ2 H := ⟨h, q⟩
theorem r_yes {σ : L2.St} {H : Hp} {Q : Bool → Hp → Prop} (q : Q true H) : tYes σ H Q := q
theorem r_lcAdd {e : En} {G Gy H4 : Hp} {M : List Addr} {R : Nat → List V → Hp → Hp → Prop} {Dd : Addr} {i : Nat} {acc : List V} {y : V} (w : Wd e Gy H4 (Dd :: M)) (s : Same G Gy) (h : H4 Dd = some (.lst acc)) (hl : acc.length ≤ i) (hi : i ≤ 1000000)
    (k : ∀ H5, Wd e Gy H5 (Dd :: M) → But Dd H4 H5 → R (i + 1) (acc ++ [y]) Gy H5) : LcAdd Dd (LcP e G M R Dd (i + 1)) y H4 := by
  have w5 := wd_mut (o := .lst (acc ++ [y])) w List.mem_cons_self
  refine ⟨acc, h, Nat.lt_of_le_of_lt (Nat.le_trans hl hi) (by decide), _, Gy, w5, s, upd_same, ?_, k _ w5 but_upd⟩
  rw [List.length_append]
  exact Nat.add_le_add_right hl 1
theorem lc_go {e : En} {G H1 : Hp} {M : List Addr} {J : It} {n : Nat} {Gd : Hp → Prop} {Y : Nat → Hp → V → Hp → Prop} {g : TG} {tt : TT} {te : TE} {vs : List Nat} {σ : L2.St} {Q : VK} (w : Wd e G H1 M) (hw : Walk J n Gd Y) (R : Nat → List V → Hp → Hp → Prop)
    (h0 : ∀ (Dd : Addr) (H : Hp), Wd e G H (Dd :: M) → Same H1 H → (∀ m ∈ M, Dd ≠ m) → R 0 [] G H)
    (hG : ∀ i acc Gi H, Wd e Gi H M → Same G Gi → R i acc Gi H → Gd H)
    (hs : ∀ (Dd : Addr) i acc Gi H x H', i < n → acc.length ≤ i → Wd e Gi H (Dd :: M) → Same G Gi → H Dd = some (.lst acc) → (∀ m ∈ M, Dd ≠ m) → R i acc Gi H → Y i H x H' → g x (wipe σ vs) H' (LcT Dd (LcP e G M R Dd (i + 1)) tt te vs σ))
    (hd : ∀ (p : Addr) acc Gi Gp H, acc.length ≤ n → Wd e Gp H M → Same G Gp → Same Gi Gp → Gp p = some (.lst acc) → R n acc Gi H → Q (.ref p) H) : LcGo J g tt te vs σ Q H1 := by
  intro Dd hD
  have w1 := wd_layM (o := .lst []) w hD
  have nm : ∀ m ∈ M, Dd ≠ m := fun m hm => w.nm hD hm
  refine lc_it hw (LcP e G M R Dd) ⟨[], G, w1, Same.refl _, upd_same, Nat.le_refl _, h0 Dd _ w1 (same_upd hD) nm⟩ (fun i H _ ⟨acc, Gi, w2, s2, _, _, r⟩ => hG i acc Gi H (wd_drop w2 (List.sublist_cons_self _ _)) s2 r) (fun i x H H' hi ⟨acc, Gi, w2, s2, h2, l2, r⟩ y => hs Dd i acc Gi H x H' hi l2 w2 s2 h2 nm r y) fun H ⟨acc, Gi, w2, s2, h2, l2, r⟩ => ?_
  obtain ⟨w3, s3⟩ := wd_freeze w2 h2 (w.n0 hD)
  exact hd Dd acc Gi _ H l2 w3 (s2.trans s3) s3 upd_same r
/-! ### what is walked -/
theorem r_iList {K : PySem.W.Frag} {tl : TE} {σ : L2.St} {H : Hp} {R : It → Hp → Prop} (q : tl σ H fun x H1 => ∃ a, x = .ref a ∧ (∃ xs, SqL K H1 a xs) ∧ R (Itl K a) H1) : iList K tl σ H R := q
theorem r_iTup {K : PySem.W.Frag} {tl : TE} {σ : L2.St} {H : Hp} {R : It → Hp → Prop} (q : tl σ H fun x H1 => ∃ a, x = .ref a ∧ (∃ xs, SqT K H1 a xs) ∧ R (Itt K a) H1) : iTup K tl σ H R := q
theorem r_iListR {K : PySem.W.Frag} {H : Hp} {R : Addr → Prop} {a : Addr} {xs : List V} (h : SqL K H a xs) (q : R a) : ∃ b, V.ref a = .ref b ∧ (∃ xs, SqL K H b xs) ∧ R b := ⟨a, rfl, ⟨xs, h⟩, q⟩
theorem r_iTupR {K : PySem.W.Frag} {H : Hp} {R : Addr → Prop} {a : Addr} {xs : List V} (h : SqT K H a xs) (q : R a) : ∃ b, V.ref a = .ref b ∧ (∃ xs, SqT K H b xs) ∧ R b := ⟨a, rfl, ⟨xs, h⟩, q⟩
theorem r_iStr {te : TE} {σ : L2.St} {H : Hp} {R : It → Hp → Prop} (q : te σ H fun v H1 => ∃ x, v = .str x ∧ R (Its x) H1) : iStr te σ H R := q
theorem r_exs {P : Str → Prop} {a : Str} (q : P a) : ∃ x, V.str a = .str x ∧ P x := ⟨a, rfl, q⟩
theorem r_rng1 {ta : TA} {σ : L2.St} {H : Hp} {R : It → Hp → Prop} (q : ta σ H fun vs H1 => ∃ j : Int, vs = [.int j] ∧ -(2 ^ 62) ≤ j ∧ j < 2 ^ 62 ∧ R (Itr 0 j.toNat) H1) : iRng1 ta σ H R := q
theorem r_rng1R {P : Int → Prop} {j : Int} (h1 : -(2 ^ 62) ≤ j) (h2 : j < 2 ^ 62) (q : P j) : ∃ i : Int, [V.int j] = [.int i] ∧ -(2 ^ 62) ≤ i ∧ i < 2 ^ 62 ∧ P i := ⟨j, rfl, h1, h2, q⟩
theorem r_rng2 {ta : TA} {σ : L2.St} {H : Hp} {R : It → Hp → Prop} (q : ta σ H fun vs H1 => ∃ i j : Int, vs = [.int i, .int j] ∧ (-(2 ^ 62) ≤ i ∧ i < 2 ^ 62 ∧ -(2 ^ 62) ≤ j ∧ j < 2 ^ 62) ∧ R (Itr i (j - i).toNat) H1) : iRng2 ta σ H R := q
theorem r_rng2R {P : Int → Int → Prop} {i j : Int} (h : -(2 ^ 62) ≤ i ∧ i < 2 ^ 62 ∧ -(2 ^ 62) ≤ j ∧ j < 2 ^ 62) (q : P i j) : ∃ a b : Int, [V.int i, V.int j] = [.int a, .int b] ∧ (-(2 ^ 62) ≤ a ∧ a < 2 ^ 62 ∧ -(2 ^ 62) ≤ b ∧ b < 2 ^ 62) ∧ P a b := ⟨i, j, rfl, h, q⟩
theorem r_iEnum {K : PySem.W.Frag} {ta : TA} {σ : L2.St} {H : Hp} {R : It → Hp → Prop} (q : ta σ H fun vs H1 => ∃ a xs, vs = [.ref a] ∧ SqL K H1 a xs ∧ R (Ite K a) H1) : iEnum K ta σ H R := q
theorem r_iEnumR {K : PySem.W.Frag} {H : Hp} {R : Addr → Prop} {a : Addr} {xs : List V} (h : SqL K H a xs) (q : R a) : ∃ b xs, [V.ref a] = [.ref b] ∧ SqL K H b xs ∧ R b := ⟨a, xs, rfl, h, q⟩
def rInSign : R2 := fun x y H Q => ∃ (c : Nat) (z : Str), x = .str ⟨#[c]⟩ ∧ y = .str z ∧ Q (.bl (decide (c ∈ z.cps.toList))) H
theorem q_inSign {X : Cx} : OpR X (compareOp .In) rInSign := op_in_sign
theorem r_inSign {c : Nat} {z : Str} {H : Hp} {Qv : VK} (q : Qv (.bl (decide (c ∈ z.cps.toList))) H) : rInSign (.str ⟨#[c]⟩) (.str z) H Qv := ⟨c, z, rfl, rfl, q⟩
theorem r_all {K : PySem.W.Frag} {H : Hp} {a : Addr} {bs : List Bool} {Qv : VK} (h : SqL K H a (bs.map V.bl)) (q : Qv (.bl (bs.all id)) H) : rAll K [.ref a] H Qv := ⟨a, bs, rfl, h, q⟩
/-- a name of the module -/
def Gc (mg : Str → Option Value) (x : Str) (v : V) : Prop := ∃ u, mg x = some u ∧ RelV v u
theorem pe_gc {X : Cx} {x : Str} {v : V} {pos : Pos} (h : Gc X.mg x v) (hg : Gl X x := by rfl) (hd : (x == ("__debug__" : Str)) = false := by decide) : PE X (.Name x pos) (tC v) := by
  obtain ⟨u, h1, h2⟩ := h
  exact pe_glob hg h1 h2 hd
/-- the built-ins that the texts ask for -/
structure Bi (mg : Str → Option Value) : Prop where
  int : mg "int" = none
  len : mg "len" = none
  abs : mg "abs" = none
  list : mg "list" = none
  range : mg "range" = none
  repr : mg "repr" = none
  str : mg "str" = none
  isinstance : mg "isinstance" = none
  all : mg "all" = none
  any : mg "any" = none
  bool : mg "bool" = none
  tuple : mg "tuple" = none
  sorted : mg "sorted" = none
  set : mg "set" = none
  dict : mg "dict" = none
  enumerate : mg "enumerate" = none
  zip : mg "zip" = none
  min : mg "min" = none
  max : mg "max" = none
  ValueError : mg "ValueError" = none
/-! ### kinds of values -/
def isI : V → Bool
  | .int _ => true
  | _ => false
def isB : V → Bool
  | .bl _ => true
  | _ => false
def isS : V → Bool
  | .str _ => true
  | _ => false
/-- what isinstance says of a value, int, bool and str asked -/
structure Kd (K : PySem.W.Frag) (G : Hp) (x : V) (t : Value) : Prop where
  ty : TyX K G x t
  int : PySem.W.kitOne K t (.type "int") = some (isI x || isB x)
  bool : PySem.W.kitOne K t (.type "bool") = some (isB x)
  str : PySem.W.kitOne K t (.type "str") = some (isS x)
section
variable {K : PySem.W.Frag} {G G' : Hp}
theorem Kd.same {x : V} {t : Value} (h : Kd K G x t) (s : Same G G') : Kd K G' x t := ⟨same_ty s h.ty, h.int, h.bool, h.str⟩
theorem kd_int (i : Int) : Kd K G (.int i) (.type "int") := ⟨.base (.int i), kit_ty (show kitB "int" "int" = some true from by decide +kernel), kit_ty (show kitB "int" "bool" = some false from by decide +kernel), kit_ty (show kitB "int" "str" = some false from by decide +kernel)⟩
theorem kd_bl (b : Bool) : Kd K G (.bl b) (.type "bool") := ⟨.base (.bl b), kit_ty (show kitB "bool" "int" = some true from by decide +kernel), kit_ty (show kitB "bool" "bool" = some true from by decide +kernel), kit_ty (show kitB "bool" "str" = some false from by decide +kernel)⟩
theorem kd_str (z : Str) : Kd K G (.str z) (.type "str") := ⟨.base (.str z), kit_ty (show kitB "str" "int" = some false from by decide +kernel), kit_ty (show kitB "str" "bool" = some false from by decide +kernel), kit_ty (show kitB "str" "str" = some true from by decide +kernel)⟩
theorem kd_non : Kd K G .non (.type "NoneType") := ⟨.base .non, kit_ty (show kitB "NoneType" "int" = some false from by decide +kernel), kit_ty (show kitB "NoneType" "bool" = some false from by decide +kernel), kit_ty (show kitB "NoneType" "str" = some false from by decide +kernel)⟩
theorem kd_ref {a : Addr} {n : String} (h : TyX K G (.ref a) (.type n)) (h1 : kitB n "int" = some false) (h2 : kitB n "bool" = some false) (h3 : kitB n "str" = some false) : Kd K G (.ref a) (.type n) := ⟨h, kit_ty h1, kit_ty h2, kit_ty h3⟩
theorem kd_lst {a : Addr} {xs : List V} (h : G a = some (.lst xs)) : Kd K G (.ref a) (.type "list") := kd_ref (.base (.lst h)) (by decide +kernel) (by decide +kernel) (by decide +kernel)
theorem kd_tup {a : Addr} {xs : List V} (h : G a = some (.tup xs)) : Kd K G (.ref a) (.type "tuple") := kd_ref (.base (.tup h)) (by decide +kernel) (by decide +kernel) (by decide +kernel)
theorem kd_dK {a : Addr} {xs : List (Key × V)} (h : G a = some (.dK xs)) : Kd K G (.ref a) (.type "dict") := kd_ref (.base (.dK h)) (by decide +kernel) (by decide +kernel) (by decide +kernel)
end
theorem r_isi_int_int {K : PySem.W.Frag} {H : Hp} {Qv : VK} {i : Int} (q : Qv (.bl true) H) : rIsi K [(.int i), .ty "int"] H Qv := ⟨(.int i), .ty "int", .type "int", .type "int", true, rfl, .ty "int", .base (.int i), kit_ty (by decide +kernel), q⟩
theorem r_isi_int_bool {K : PySem.W.Frag} {H : Hp} {Qv : VK} {i : Int} (q : Qv (.bl false) H) : rIsi K [(.int i), .ty "bool"] H Qv := ⟨(.int i), .ty "bool", .type "int", .type "bool", false, rfl, .ty "bool", .base (.int i), kit_ty (by decide +kernel), q⟩
theorem r_isi_int_str {K : PySem.W.Frag} {H : Hp} {Qv : VK} {i : Int} (q : Qv (.bl false) H) : rIsi K [(.int i), .ty "str"] H Qv := ⟨(.int i), .ty "str", .type "int", .type "str", false, rfl, .ty "str", .base (.int i), kit_ty (by decide +kernel), q⟩
theorem r_isi_int_list {K : PySem.W.Frag} {H : Hp} {Qv : VK} {i : Int} (q : Qv (.bl false) H) : rIsi K [(.int i), .ty "list"] H Qv := ⟨(.int i), .ty "list", .type "int", .type "list", false, rfl, .ty "list", .base (.int i), kit_ty (by decide +kernel), q⟩
theorem r_isi_int_tuple {K : PySem.W.Frag} {H : Hp} {Qv : VK} {i : Int} (q : Qv (.bl false) H) : rIsi K [(.int i), .ty "tuple"] H Qv := ⟨(.int i), .ty "tuple", .type "int", .type "tuple", false, rfl, .ty "tuple", .base (.int i), kit_ty (by decide +kernel), q⟩
theorem r_isi_int_dict {K : PySem.W.Frag} {H : Hp} {Qv : VK} {i : Int} (q : Qv (.bl false) H) : rIsi K [(.int i), .ty "dict"] H Qv := ⟨(.int i), .ty "dict", .type "int", .type "dict", false, rfl, .ty "dict", .base (.int i), kit_ty (by decide +kernel), q⟩
theorem r_isi_bl_int {K : PySem.W.Frag} {H : Hp} {Qv : VK} {b : Bool} (q : Qv (.bl true) H) : rIsi K [(.bl b), .ty "int"] H Qv := ⟨(.bl b), .ty "int", .type "bool", .type "int", true, rfl, .ty "int", .base (.bl b), kit_ty (by decide +kernel), q⟩
theorem r_isi_bl_bool {K : PySem.W.Frag} {H : Hp} {Qv : VK} {b : Bool} (q : Qv (.bl true) H) : rIsi K [(.bl b), .ty "bool"] H Qv := ⟨(.bl b), .ty "bool", .type "bool", .type "bool", true, rfl, .ty "bool", .base (.bl b), kit_ty (by decide +kernel), q⟩
theorem r_isi_bl_str {K : PySem.W.Frag} {H : Hp} {Qv : VK} {b : Bool} (q : Qv (.bl false) H) : rIsi K [(.bl b), .ty "str"] H Qv := ⟨(.bl b), .ty "str", .type "bool", .type "str", false, rfl, .ty "str", .base (.bl b), kit_ty (by decide +kernel), q⟩
theorem r_isi_bl_list {K : PySem.W.Frag} {H : Hp} {Qv : VK} {b : Bool} (q : Qv (.bl false) H) : rIsi K [(.bl b), .ty "list"] H Qv := ⟨(.bl b), .ty "list", .type "bool", .type "list", false, rfl, .ty "list", .base (.bl b), kit_ty (by decide +kernel), q⟩
theorem r_isi_bl_tuple {K : PySem.W.Frag} {H : Hp} {Qv : VK} {b : Bool} (q : Qv (.bl false) H) : rIsi K [(.bl b), .ty "tuple"] H Qv := ⟨(.bl b), .ty "tuple", .type "bool", .type "tuple", false, rfl, .ty "tuple", .base (.bl b), kit_ty (by decide +kernel), q⟩
theorem r_isi_bl_dict {K : PySem.W.Frag} {H : Hp} {Qv : VK} {b : Bool} (q : Qv (.bl false) H) : rIsi K [(.bl b), .ty "dict"] H Qv := ⟨(.bl b), .ty "dict", .type "bool", .type "dict", false, rfl, .ty "dict", .base (.bl b), kit_ty (by decide +kernel), q⟩
theorem r_isi_str_int {K : PySem.W.Frag} {H : Hp} {Qv : VK} {z : Str} (q : Qv (.bl false) H) : rIsi K [(.str z), .ty "int"] H Qv := ⟨(.str z), .ty "int", .type "str", .type "int", false, rfl, .ty "int", .base (.str z), kit_ty (by decide +kernel), q⟩
theorem r_isi_str_bool {K : PySem.W.Frag} {H : Hp} {Qv : VK} {z : Str} (q : Qv (.bl false) H) : rIsi K [(.str z), .ty "bool"] H Qv := ⟨(.str z), .ty "bool", .type "str", .type "bool", false, rfl, .ty "bool", .base (.str z), kit_ty (by decide +kernel), q⟩
theorem r_isi_str_str {K : PySem.W.Frag} {H : Hp} {Qv : VK} {z : Str} (q : Qv (.bl true) H) : rIsi K [(.str z), .ty "str"] H Qv := ⟨(.str z), .ty "str", .type "str", .type "str", true, rfl, .ty "str", .base (.str z), kit_ty (by decide +kernel), q⟩
theorem r_isi_str_list {K : PySem.W.Frag} {H : Hp} {Qv : VK} {z : Str} (q : Qv (.bl false) H) : rIsi K [(.str z), .ty "list"] H Qv := ⟨(.str z), .ty "list", .type "str", .type "list", false, rfl, .ty "list", .base (.str z), kit_ty (by decide +kernel), q⟩
theorem r_isi_str_tuple {K : PySem.W.Frag} {H : Hp} {Qv : VK} {z : Str} (q : Qv (.bl false) H) : rIsi K [(.str z), .ty "tuple"] H Qv := ⟨(.str z), .ty "tuple", .type "str", .type "tuple", false, rfl, .ty "tuple", .base (.str z), kit_ty (by decide +kernel), q⟩
theorem r_isi_str_dict {K : PySem.W.Frag} {H : Hp} {Qv : VK} {z : Str} (q : Qv (.bl false) H) : rIsi K [(.str z), .ty "dict"] H Qv := ⟨(.str z), .ty "dict", .type "str", .type "dict", false, rfl, .ty "dict", .base (.str z), kit_ty (by decide +kernel), q⟩
theorem r_isi_non_int {K : PySem.W.Frag} {H : Hp} {Qv : VK}  (q : Qv (.bl false) H) : rIsi K [.non, .ty "int"] H Qv := ⟨.non, .ty "int", .type "NoneType", .type "int", false, rfl, .ty "int", .base .non, kit_ty (by decide +kernel), q⟩
theorem r_isi_non_bool {K : PySem.W.Frag} {H : Hp} {Qv : VK}  (q : Qv (.bl false) H) : rIsi K [.non, .ty "bool"] H Qv := ⟨.non, .ty "bool", .type "NoneType", .type "bool", false, rfl, .ty "bool", .base .non, kit_ty (by decide +kernel), q⟩
theorem r_isi_non_str {K : PySem.W.Frag} {H : Hp} {Qv : VK}  (q : Qv (.bl false) H) : rIsi K [.non, .ty "str"] H Qv := ⟨.non, .ty "str", .type "NoneType", .type "str", false, rfl, .ty "str", .base .non, kit_ty (by decide +kernel), q⟩
theorem r_isi_non_list {K : PySem.W.Frag} {H : Hp} {Qv : VK}  (q : Qv (.bl false) H) : rIsi K [.non, .ty "list"] H Qv := ⟨.non, .ty "list", .type "NoneType", .type "list", false, rfl, .ty "list", .base .non, kit_ty (by decide +kernel), q⟩
theorem r_isi_non_tuple {K : PySem.W.Frag} {H : Hp} {Qv : VK}  (q : Qv (.bl false) H) : rIsi K [.non, .ty "tuple"] H Qv := ⟨.non, .ty "tuple", .type "NoneType", .type "tuple", false, rfl, .ty "tuple", .base .non, kit_ty (by decide +kernel), q⟩
theorem r_isi_non_dict {K : PySem.W.Frag} {H : Hp} {Qv : VK}  (q : Qv (.bl false) H) : rIsi K [.non, .ty "dict"] H Qv := ⟨.non, .ty "dict", .type "NoneType", .type "dict", false, rfl, .ty "dict", .base .non, kit_ty (by decide +kernel), q⟩
theorem kt_list_int {K : PySem.W.Frag} : PySem.W.kitOne K (.type "list") (.type "int") = some false := kit_ty (by decide +kernel)
theorem kt_list_bool {K : PySem.W.Frag} : PySem.W.kitOne K (.type "list") (.type "bool") = some false := kit_ty (by decide +kernel)
theorem kt_list_str {K : PySem.W.Frag} : PySem.W.kitOne K (.type "list") (.type "str") = some false := kit_ty (by decide +kernel)
theorem kt_list_list {K : PySem.W.Frag} : PySem.W.kitOne K (.type "list") (.type "list") = some true := kit_ty (by decide +kernel)
theorem kt_list_tuple {K : PySem.W.Frag} : PySem.W.kitOne K (.type "list") (.type "tuple") = some false := kit_ty (by decide +kernel)
theorem kt_list_dict {K : PySem.W.Frag} : PySem.W.kitOne K (.type "list") (.type "dict") = some false := kit_ty (by decide +kernel)
theorem kt_tuple_int {K : PySem.W.Frag} : PySem.W.kitOne K (.type "tuple") (.type "int") = some false := kit_ty (by decide +kernel)
theorem kt_tuple_bool {K : PySem.W.Frag} : PySem.W.kitOne K (.type "tuple") (.type "bool") = some false := kit_ty (by decide +kernel)
theorem kt_tuple_str {K : PySem.W.Frag} : PySem.W.kitOne K (.type "tuple") (.type "str") = some false := kit_ty (by decide +kernel)
theorem kt_tuple_list {K : PySem.W.Frag} : PySem.W.kitOne K (.type "tuple") (.type "list") = some false := kit_ty (by decide +kernel)
theorem kt_tuple_tuple {K : PySem.W.Frag} : PySem.W.kitOne K (.type "tuple") (.type "tuple") = some true := kit_ty (by decide +kernel)
theorem kt_tuple_dict {K : PySem.W.Frag} : PySem.W.kitOne K (.type "tuple") (.type "dict") = some false := kit_ty (by decide +kernel)
theorem kt_dict_int {K : PySem.W.Frag} : PySem.W.kitOne K (.type "dict") (.type "int") = some false := kit_ty (by decide +kernel)
theorem kt_dict_bool {K : PySem.W.Frag} : PySem.W.kitOne K (.type "dict") (.type "bool") = some false := kit_ty (by decide +kernel)
theorem kt_dict_str {K : PySem.W.Frag} : PySem.W.kitOne K (.type "dict") (.type "str") = some false := kit_ty (by decide +kernel)
theorem kt_dict_list {K : PySem.W.Frag} : PySem.W.kitOne K (.type "dict") (.type "list") = some false := kit_ty (by decide +kernel)
theorem kt_dict_tuple {K : PySem.W.Frag} : PySem.W.kitOne K (.type "dict") (.type "tuple") = some false := kit_ty (by decide +kernel)
theorem kt_dict_dict {K : PySem.W.Frag} : PySem.W.kitOne K (.type "dict") (.type "dict") = some true := kit_ty (by decide +kernel)
theorem sz_m {n : Nat} (h : n ≤ 1000000) : n ≤ sizeLine := Nat.le_trans h (by decide)
theorem ite_nt {A B : Prop} (a : A) : if (!false) = true then A else B := by
  rw [if_pos (by decide)]
  exact a
theorem ite_nf {A B : Prop} (b : B) : if (!true) = true then A else B := by
  rw [if_neg (by decide)]
  exact b
theorem ite_d {p : Prop} [Decidable p] {A B : Prop} (h1 : p → A) (h2 : ¬ p → B) : if decide p = true then A else B := ite2 (fun h => h1 (of_decide_eq_true h)) fun h => h2 fun q => h (decide_eq_true q)
theorem ite_nd {p : Prop} [Decidable p] {A B : Prop} (h1 : ¬ p → A) (h2 : p → B) : if (!decide p) = true then A else B := by
  by_cases h : p
  · rw [decide_eq_true h]; exact ite_nf (h2 h)
  · rw [decide_eq_false h]; exact ite_nt (h1 h)
theorem ite_b {b : Bool} {A B : Prop} (h1 : b = true → A) (h2 : b = false → B) : if b = true then A else B := ite2 h1 fun h => h2 (Bool.eq_false_iff.mpr h)
theorem ite_nb {b : Bool} {A B : Prop} (h1 : b = false → A) (h2 : b = true → B) : if (!b) = true then A else B := by
  cases b with
  | true => exact ite_nf (h2 rfl)
  | false => exact ite_nt (h1 rfl)
theorem atI_0 {α : Type} (c : α) (r : List α) : atI (c :: r) 0 = some c := atI_nat (j := 0) rfl
theorem take_snoc {α : Type} {l : List α} {i : Nat} {x : α} (h : l[i]? = some x) : l.take (i + 1) = l.take i ++ [x] := by
  rw [List.take_add_one, h]
  rfl
theorem take_map_snoc {α β : Type} {l : List α} {i : Nat} {x : α} (f : α → β) (h : l[i]? = some x) : (l.take (i + 1)).map f = (l.take i).map f ++ [f x] := by
  rw [take_snoc h, List.map_append]
  rfl
end Q
namespace Q
open PySem PySem.Spec PyProof.Rows L2
/-! ### names and moments: what the program's own looks answer -/
abbrev zLetters : Str := "abcdefghijklmnopqrstuvwxyz"
abbrev zFigures : Str := "0123456789"
def resS : List Str := ["begun", "setby", "found", "trusted", "passed", "failed", "agreed", "differed", "served", "backed", "sound", "unsound", "sure", "never", "open", "none", "record", "lot", "menu", "wanted"]
def resV : List V := resS.map V.str
def letB (c : Nat) : Bool := decide (c ∈ zLetters.cps.toList)
def figB (c : Nat) : Bool := decide (c ∈ zFigures.cps.toList)
def headB : List Nat → Bool
  | c :: _ => letB c
  | [] => false
def nmOk (z : Str) : Bool := (decide (1 ≤ z.length) && decide (z.length ≤ 8)) && (!inV (.str z) resV && (headB z.cps.toList && z.cps.toList.all fun c => letB c || figB c))
def nameV : V → Bool
  | .str z => nmOk z
  | _ => false
def momV (x : V) (l : Int) : Bool := match x with
  | .int i => decide (l ≤ i) && decide (i ≤ 1000000000000000000000000000000)
  | _ => false
structure Nm (K : PySem.W.Frag) (mg : Str → Option Value) : Prop where
  RESERVED : ∃ a, Gc mg "RESERVED" (.ref a) ∧ ∀ H, SqT K H a resV
  LETTERS : Gc mg "LETTERS" (.str zLetters)
  FIGURES : Gc mg "FIGURES" (.str zFigures)
  MOST_SIGNS : Gc mg "MOST_SIGNS" (.int 8)
  MOST_MOMENT : Gc mg "MOST_MOMENT" (.int 1000000000000000000000000000000)
def spIsInt (K : PySem.W.Frag) : Sp := fun vs H Q _ => ∃ (G : Hp) (x : V) (t : Value), vs = [x] ∧ Gh G H ∧ Kd K G x t ∧ Ret G H (fun v _ => v = .bl (isI x)) Q
def spMoment (K : PySem.W.Frag) : Sp := fun vs H Q _ => ∃ (G : Hp) (x : V) (t : Value) (l : Int), vs = [x, .int l] ∧ Gh G H ∧ Kd K G x t ∧ Ret G H (fun v _ => v = .bl (momV x l)) Q
def spIsName (K : PySem.W.Frag) : Sp := fun vs H Q _ => ∃ (G : Hp) (x : V) (t : Value), vs = [x] ∧ Gh G H ∧ Kd K G x t ∧ (∀ z, x = .str z → z.length ≤ 1000000) ∧ Ret G H (fun v _ => v = .bl (nameV x)) Q
section
variable {K : PySem.W.Frag} {e : En} {G H : Hp} {M : List Addr} {x : V} {t : Value} {Q : VK} {E : XK}
theorem u_isInt (w : Wd e G H M) (h : Kd K G x t) (k : ∀ G' H', Wd e G' H' M → Same G G' → Same H H' → Q (.bl (isI x)) H') : spIsInt K [x] H Q E :=
  ⟨G, x, t, rfl, w.gh, h, ret_use w fun v G' H' w' s1 s2 p => by subst p; exact k G' H' w' s1 s2⟩
theorem u_moment {l : Int} (w : Wd e G H M) (h : Kd K G x t) (k : ∀ G' H', Wd e G' H' M → Same G G' → Same H H' → Q (.bl (momV x l)) H') : spMoment K [x, .int l] H Q E :=
  ⟨G, x, t, l, rfl, w.gh, h, ret_use w fun v G' H' w' s1 s2 p => by subst p; exact k G' H' w' s1 s2⟩
theorem u_isName (w : Wd e G H M) (h : Kd K G x t) (hz : ∀ z, x = .str z → z.length ≤ 1000000) (k : ∀ G' H', Wd e G' H' M → Same G G' → Same H H' → Q (.bl (nameV x)) H') : spIsName K [x] H Q E :=
  ⟨G, x, t, rfl, w.gh, h, hz, ret_use w fun v G' H' w' s1 s2 p => by subst p; exact k G' H' w' s1 s2⟩
end
end Q
namespace Q
open PySem PySem.Spec PyProof.Rows L2
/-! ### an instance's own ==, !=, str -/
section
variable {X : Cx} {CX : CXT} {k : Nat} {C f : Addr} {fd : FuncData} {ps : List Str} {sp : Sp} {E : XK}
theorem run_under {pins : List (Addr × Obj)} {σ : L2.St} {H : Hp} {s : Shared} {Q : VK} {us : List Value} {vs : List V} {A' : Around} (F : FnOk X.prog X.w X.K X.mg X.base CX k f fd ps sp) (hr : Room k A')
    (e0 : Env0 X.prog X.w X.K X.mg X.base A' X.stack s H) (hb : Binds X.K fd ps []) (hx : Passes CX X E) (I : Inv X pins σ H s) (r : Vals vs us) (h : sp vs H Q E) :
    wpAny (model X.prog X.w) A' (call (.ref f) us) (EP X pins σ Q) X.xe s := by
  have hl : (us ++ []).length = ps.length := by
    rw [List.append_nil, ← r.length]
    exact F.len _ _ _ _ h
  have hbb := hb s us I.kIn hl
  rw [List.append_nil] at hbb
  refine wpAny_call (codeAny_mono (F.run A' X.stack s H ⟨us, []⟩ us vs Q E hr e0 hbb r h) fun o s' hq => ?_)
  match o, hq with
  | .error e, hq => exact hx pins σ H s e s' I hq
  | .ok (.ret u), hq => exact I.after hq
  | .ok .next, hq => exact hq.elim
  | .ok .brk, hq => exact hq.elim
  | .ok .cont, hq => exact hq.elim
/-- x == y by the def of x's class -/
def rEqI (K : PySem.W.Frag) (C : Addr) (sp : Sp) (E : XK) : R2 := fun x y H Q => ∃ a dx fs t, x = .ref a ∧ H a = some (.ins C dx fs) ∧ TyX K H y t ∧ PySem.W.notFirst K C t = true ∧ sp [x, y] H Q E
theorem q_eqI (hs : PySem.W.findIn X.K (.ref C) "__eq__" = some (some (.ref f))) (hf : PySem.W.isFn X.K (.ref f) = true) (F : FnOk X.prog X.w X.K X.mg X.base CX k f fd ps sp) (hr : Room k X.A) (hb : Binds X.K fd ps []) (hx : Passes CX X E) :
    OpR X (compareOp .Eq) (rEqI X.K C sp E) := by
  intro pins s σ H x y v u Q I rx ry h
  obtain ⟨a, dx, fs, t, rfl, ea, ty, hn, q⟩ := h
  cases (show v = Value.ref a from rx)
  obtain ⟨mA, O, _, _, _, _⟩ := ins_get I.hok ea
  obtain ⟨od, J, _⟩ := O.look
  obtain ⟨P, Z, p, _⟩ := kit_of I ry ty
  obtain ⟨m, hF⟩ := I.fr
  have key : wpAny (model X.prog X.w) X.A (richCompare .Eq (.ref a) u) (EP X pins σ Q) X.xe s := by
    refine PySem.W.cmp_K (op := .Eq) (tb := t) hr.units0 hF I.ok.mod.kin J (Z.ty _ _ I.kIn p) hn hs hf ?_
    refine wpAny_mono (run_under (us := [.ref a, u]) (vs := [.ref a, y]) F hr I.env0 hb hx I (.cons rfl (.cons ry .nil)) q) (fun w s' z => ?_) fun _ _ x => x
    obtain ⟨z', H', I', rz, qz⟩ := z
    exact SlX.cmpback rz ⟨z', H', I', rz, qz⟩
  exact key
theorem r_eqI {K : PySem.W.Frag} {H : Hp} {a : Addr} {dx : Addr} {fs : List (Str × V)} {y : V} {t : Value} {Qv : VK} (h : H a = some (.ins C dx fs)) (ty : TyX K H y t) (n : PySem.W.notFirst K C t = true) (q : sp [.ref a, y] H Qv E) :
    rEqI K C sp E (.ref a) y H Qv := ⟨a, dx, fs, t, rfl, h, ty, n, q⟩
theorem ifBound_b {K : PySem.W.Frag} {M : Model} {A : Around} {E : Value → Shared → Prop} {s : Shared} {x C : Addr} {ox : Obj} {od : Option Obj} {name : Str} {id : String} {args : List Value} {Q : Option Value → Shared → Prop} (X : K.In s.heap)
    (I : PySem.W.InstAt s.heap x ox C od) (hs : PySem.W.findIn K (.ref C) name = some (some (.builtin id))) (hb : ∀ self, bindSpecial (.builtin id) self = pure (.builtin id, [self]))
    (h : wpAny M A (call (.builtin id) (.ref x :: args)) (fun v => Q (some v)) E s) : wpAny M A (callSpecialIfBound? (.ref x) name args) Q E s := by
  simp only [callSpecialIfBound?, bindSpecialIfBound?]
  refine wpAny_holding (wpAny_bind (wpAny_bind (wpAny_bind (I.type.here ((PySem.W.looks_findIn X hs).here ?_)))))
  refine wpAny_bind (wpAny_askSetting (wpAny_ite ?_))
  have fin : wpAny M A (call (.builtin id) ([.ref x] ++ args) >>= fun v => pure (some v)) Q E s := wpAny_bind (wpAny_mono h (fun v s' h' => wpAny_pure h') fun _ _ h' => h')
  split
  · exact wpAny_bind ((PySem.W.Looks.of_pure (hb _)).here (wpAny_pure (by exact fin)))
  · exact wpAny_tryCatch (wpAny_bind ((PySem.W.Looks.of_pure (hb _)).here (wpAny_pure (by exact fin))))
theorem cmp_b {K : PySem.W.Frag} {prog : Program} {w : World} {A : Around} {E : Value → Shared → Prop} {s : Shared} {x C : Addr} {b tb : Value} {ox : Obj} {od : Option Obj} {op : CmpOp} {id : String} {Q : Value → Shared → Prop}
    (hu : A.units < cLine) (X : K.In s.heap) (I : PySem.W.InstAt s.heap x ox C od) (hb : PySem.W.Looks (model prog w) s.heap (typeOf b) tb) (hn : PySem.W.notFirst K C tb = true)
    (hs : PySem.W.findIn K (.ref C) (cmpInfo op).2.1 = some (some (.builtin id))) (hbd : ∀ self, bindSpecial (.builtin id) self = pure (.builtin id, [self]))
    (h : wpAny (model prog w) A (call (.builtin id) [.ref x, b]) (PySem.W.CmpBack Q) E s) : wpAny (model prog w) A (richCompare op (.ref x) b) Q E s := by
  have one : wpAny (model prog w) A (tryCompare (.ref x) (cmpInfo op).2.1 b) (fun r s' => ∃ v, r = some v ∧ Q v s') E s := by
    unfold tryCompare
    refine wpAny_bind (ifBound_b X I hs hbd (wpAny_mono h (fun v s' hv => ?_) fun _ _ e => e))
    cases v <;> first | exact hv.elim | exact wpAny_pure ⟨_, rfl, hv⟩
  unfold richCompare
  simp only [oneThing_ref]
  refine wpAny_holding (wpAny_bind (wpAny_cRoomFor hu ?_))
  refine wpAny_bind (I.type.here (wpAny_bind (hb.here ?_)))
  split
  · rename_i q
    have e : PySem.W.subIn K tb (.ref C) = some false := by
      rcases Bool.or_eq_true_iff.mp hn with e | e
      · rw [beq_iff_eq.mp e] at q; simp at q
      · exact beq_iff_eq.mp e
    refine wpAny_bind ((PySem.W.looks_subIn X e).here ?_)
    simp only [Bool.false_eq_true, if_false]
    refine wpAny_bind (wpAny_mono one (fun r s' z => ?_) fun _ _ e => e)
    obtain ⟨v, rfl, hq⟩ := z
    exact wpAny_pure hq
  · refine wpAny_bind (wpAny_pure ?_)
    simp only [Bool.false_eq_true, if_false]
    refine wpAny_bind (wpAny_mono one (fun r s' z => ?_) fun _ _ e => e)
    obtain ⟨v, rfl, hq⟩ := z
    exact wpAny_pure hq
/-- x != y where the class has an own == alone -/
def rNeI (K : PySem.W.Frag) (C : Addr) (sp : Sp) (E : XK) : R2 := fun x y H Q => ∃ a dx fs t, x = .ref a ∧ H a = some (.ins C dx fs) ∧ TyX K H y t ∧ PySem.W.notFirst K C t = true ∧ sp [x, y] H (fun v H' => ∃ b, v = .bl b ∧ Q (.bl (!b)) H') E
theorem q_neI (hne : PySem.W.findIn X.K (.ref C) "__ne__" = some (some (.builtin "object.__ne__"))) (hm : PySem.W.mroIn X.K C (.type "object") = some true) (hs : PySem.W.findIn X.K (.ref C) "__eq__" = some (some (.ref f))) (hf : PySem.W.isFn X.K (.ref f) = true)
    (F : FnOk X.prog X.w X.K X.mg X.base CX k f fd ps sp) (hr : Room (k + 1) X.A) (hb : Binds X.K fd ps []) (hx : Passes CX X E) :
    OpR X (compareOp .NotEq) (rNeI X.K C sp E) := by
  intro pins s σ H x y v u Q I rx ry h
  obtain ⟨a, dx, fs, t, rfl, ea, ty, hn, q⟩ := h
  cases (show v = Value.ref a from rx)
  obtain ⟨mA, O, _, _, _, _⟩ := ins_get I.hok ea
  obtain ⟨od, J, _⟩ := O.look
  obtain ⟨P, Z, p, _⟩ := kit_of I ry ty
  obtain ⟨m, hF⟩ := I.fr
  have hr1 : Room k X.A.in1 := hr.in1
  have key : wpAny (model X.prog X.w) X.A (richCompare .NotEq (.ref a) u) (EP X pins σ Q) X.xe s := by
    refine cmp_b (op := .NotEq) (tb := t) hr.units0 I.kIn J (Z.ty _ _ I.kIn p) hn hne PySem.F.slot_object_ne.bind ?_
    refine wpAny_call (codeAny_call_builtin PySem.F.slot_object_ne.plain PySem.F.cmpEntry_ne (PySem.W.check_slot (i := "object.__ne__") (owner := "object") (n := "__ne__") PySem.F.cmpKind_ne PySem.F.cmpSplit_ne (J.type.andThen (PySem.W.looks_mroIn I.kIn hm)) (PySem.F.cmpArgs_ne _ _) ?_))
    unfold Builtin.«object.__ne__»
    refine wpAny_bind (m := slotArgs "__ne__" 1 _) (wpAny_pure ?_)
    refine wpAny_bind (m := cRoomFor _ _) (wpAny_cRoomFor hr1.units0 ?_)
    refine wpAny_bind (m := callSpecialIfBound? (.ref a) (Str.ofString "__eq__") [u]) (PySem.W.ifBound_K I.kIn J hs hf ?_)
    refine wpAny_mono (run_under (us := [.ref a, u]) (vs := [.ref a, y]) F hr1 I.env0.in1 hb hx I (.cons rfl (.cons ry .nil)) q) (fun w s' z => ?_) fun _ _ x => x
    obtain ⟨z', H', I', rz, b, e, qz⟩ := z
    subst e
    cases (show w = Value.bool b from rz)
    refine wpAny_bind (m := truthy (.bool b)) (wpAny_truthy_bool ?_)
    exact wpAny_pure ⟨.bl (!b), H', I', rfl, qz⟩
  exact key
theorem r_neI {K : PySem.W.Frag} {H : Hp} {a : Addr} {dx : Addr} {fs : List (Str × V)} {y : V} {t : Value} {Qv : VK} (h : H a = some (.ins C dx fs)) (ty : TyX K H y t) (n : PySem.W.notFirst K C t = true) (q : sp [.ref a, y] H (fun v H' => ∃ b, v = .bl b ∧ Qv (.bl (!b)) H') E) :
    rNeI K C sp E (.ref a) y H Qv := ⟨a, dx, fs, t, rfl, h, ty, n, q⟩
/-- str(x) by the class's own def -/
def rStrI (C : Addr) (sp : Sp) (E : XK) : List V → Hp → VK → Prop := fun xs H Q => ∃ a dx fs, xs = [.ref a] ∧ H a = some (.ins C dx fs) ∧ sp [.ref a] H (fun v H' => ∃ z, v = .str z ∧ Q v H') E
theorem q_strI (hs : PySem.W.findIn X.K (.ref C) "__str__" = some (some (.ref f))) (hf : PySem.W.isFn X.K (.ref f) = true) (F : FnOk X.prog X.w X.K X.mg X.base CX k f fd ps sp) (hr : Room (k + 2) X.A) (hb : Binds X.K fd ps []) (hx : Passes CX X E) :
    CallR X (.type "str") (rStrI C sp E) := by
  intro pins s σ H xs us Q I r h
  obtain ⟨a, dx, fs, rfl, ea, q⟩ := h
  obtain ⟨u, rfl, ru⟩ := r.one
  cases (show u = Value.ref a from ru)
  obtain ⟨mA, O, _, _, _, _⟩ := ins_get I.hok ea
  obtain ⟨od, J, _⟩ := O.look
  have hr2 : Room k X.A.in1.in1 := (show Room (k + 1) X.A.in1 from Room.in1 hr).in1
  refine PySem.W.kso_call hr2.units0 I.kIn J hs hf ?_
  refine wpAny_mono (run_under (us := [.ref a]) (vs := [.ref a]) F hr2 I.env0.in1.in1 hb hx I (.cons rfl .nil) q) (fun w s' z => ?_) fun _ _ x => x
  obtain ⟨z', H', I', rz, y, e, qz⟩ := z
  subst e
  obtain ⟨t, e⟩ := (show ∃ t, w = Value.str y t from rz)
  subst e
  exact ⟨.str y, H', I', ⟨t, rfl⟩, qz⟩
theorem r_strI {H : Hp} {a : Addr} {dx : Addr} {fs : List (Str × V)} {Qv : VK} (h : H a = some (.ins C dx fs)) (q : sp [.ref a] H (fun v H' => ∃ z, v = .str z ∧ Qv v H') E) : rStrI C sp E [.ref a] H Qv := ⟨a, dx, fs, rfl, h, q⟩
/-- < of data that can be compared -/
def rLtD (K : PySem.W.Frag) : R2 := fun x y H Q => ∃ d e, Dp K H x d ∧ Dp K H y e ∧ PySem.W.alike d e = true ∧ d ≠ .none ∧ d.depth ≤ 60 ∧ Q (.bl (PySem.W.dataLt d e)) H
theorem q_ltD (hu : X.A.units + 64 < cLine) : OpR X (compareOp .Lt) (rLtD X.K) := by
  intro pins s σ H x y v u Q I rx ry h
  obtain ⟨d, e, hd, he, ha, hn, dp, q⟩ := h
  obtain ⟨as, h1⟩ := Dp.reads I d x v hd rx
  obtain ⟨bs, h2⟩ := Dp.reads I e y u he ry
  exact PySem.W.lt_data h1 h2 ha hn (by omega) ⟨.bl _, H, I, rfl, q⟩
theorem r_ltD {K : PySem.W.Frag} {H : Hp} {x y : V} {Qv : VK} {d e : PyData} (h1 : Dp K H x d) (h2 : Dp K H y e) (ha : PySem.W.alike d e = true) (hn : d ≠ .none) (dp : d.depth ≤ 60) (q : Qv (.bl (PySem.W.dataLt d e)) H) : rLtD K x y H Qv :=
  ⟨d, e, h1, h2, ha, hn, dp, q⟩
end
/-! ### a method called with keywords -/
/-- o.m(k = v, ..): m keywords -/
def tMethK (C : Addr) (m : Str) (n : Nat) (sp : Sp) (E : XK) (ta : TE) (tk : TA) (gV : List V → List V → List V) : TE := fun σ H Q => ta σ H fun x H1 => ∃ a dx fs, x = .ref a ∧ H1 a = some (.ins C dx fs) ∧ fs.lookup m = none ∧
  tk σ H1 fun zs H2 => zs.length = n ∧ sp (gV [x] zs) H2 Q E
section
variable {X : Cx} {CX : CXT} {k : Nat} {C f : Addr} {fd : FuncData} {ps ks : List Str} {sp : Sp} {E : XK} {o : Expr} {m : Str} {pos apos : Pos} {kws : List Keyword} {ta : TE} {tk : TA} {g : List Value → List Value → List Value} {gV : List V → List V → List V} {pl : Sem Bool}
theorem pe_methK (he : PE X o ta) (c : Cls X.K C) (hm : Meth X.K C m f) (F : FnOk X.prog X.w X.K X.mg X.base CX k f fd ps sp) (hr : Room k X.A) (hb : KBn X.K fd ps 1 ks g gV) (hx : Passes CX X E) (hkw : PK X kws tk)
    (hall : (backToKw pos (keywordEach kws X.env)).all (·.1.isSome) = true := by rfl) (hks : (backToKw pos (keywordEach kws X.env)).filterMap (·.1) = ks := by rfl)
    (hpl : ((backTo pos (starEach [] X.env)).any (·.1) || (backToKw pos (keywordEach kws X.env)).any (·.1.isNone)) = false := by rfl)
    (ht : eval (.Call (.Attribute o m apos) [] kws pos) X.env = (do
      let ov ← eval o X.env
      standAt apos.atName
      let (f, first) ← holding [ov] (getMethod ov m pl)
      callWith pos f first (backTo pos (starEach [] X.env)) (backToKw pos (keywordEach kws X.env))) := by rfl) :
    PE X (.Call (.Attribute o m apos) [] kws pos) (tMethK C m ks.length sp E ta tk gV) := by
  refine ⟨fun pins s σ H Q I h => ?_⟩
  refine PySem.W.methodCall_KW (pl := pl) (thn (he.run pins s σ H _ I h) fun u s1 ⟨x, H1, I1, rx, a, dx, fs, ex, ea, l, q⟩ => ?_) ht
  subst ex
  obtain rfl : u = Value.ref a := rx
  refine getmeth_ok I1 ea c hm l ?_
  refine PySem.W.callWith_KW0 (h₀ := X.base) I1.ok.mod.kin hm.kp hall (thn (hkw.run pos pins s1 σ H1 _ I1 q) fun ws s2 ⟨zs, H2, I2, rz, l2, q2⟩ => ⟨I2.kIn, ?_⟩) hpl
  rw [hks]
  have r1 : Vals [V.ref a] [Value.ref a] := .cons rfl .nil
  have r2 := hb.rel r1 rz
  have e2 : ws.length = ks.length := rz.length.symm.trans l2
  refine wpAny_call (codeAny_mono (F.run X.A X.stack s2 H2 ⟨[.ref a], ks.zip ws⟩ (g [.ref a] ws) _ Q E hr I2.env0 (hb.to _ [.ref a] ws I2.kIn rfl e2) r2 q2) fun o s' hq => ?_)
  match o, hq with
  | .error e, hq => exact hx pins σ H2 s2 e s' I2 hq
  | .ok (.ret u), hq => exact I2.after hq
  | .ok .next, hq => exact hq.elim
  | .ok .brk, hq => exact hq.elim
  | .ok .cont, hq => exact hq.elim
end
end Q
namespace Q
open PySem PySem.Spec PyProof.Rows L2
/-! ### fields -/
def FldK (K : PySem.W.Frag) (f : Str) (x : V) (H : Hp) (Q : VK) : Prop := ∃ a C dx fs v, x = .ref a ∧ H a = some (.ins C dx fs) ∧ Cls K C ∧ NoAttr K C f ∧ fs.lookup f = some v ∧ Q v H
def SetK (K : PySem.W.Frag) (f : Str) (y x : V) (H : Hp) (R : Hp → Prop) : Prop := ∃ a C dx fs, x = .ref a ∧ H a = some (.ins C dx fs) ∧ Cls K C ∧ NoAttr K C f ∧ fs.length < 1000 ∧ R (upd H a (.ins C dx (putF f y fs)))
section
variable {K : PySem.W.Frag} {f : Str} {ta tv : TE} {σ : L2.St} {H G : Hp} {Qv : VK} {D : Ends} {a C dx : Addr} {fs : List (Str × V)} {v y : V} {e : En} {M : List Addr}
theorem r_tFld (q : ta σ H fun x H1 => FldK K f x H1 Qv) : tFld K ta f σ H Qv := q
theorem r_fld (h : H a = some (.ins C dx fs)) (c : Cls K C) (n : NoAttr K C f) (l : fs.lookup f = some v) (q : Qv v H) : FldK K f (.ref a) H Qv := ⟨a, C, dx, fs, v, rfl, h, c, n, l, q⟩
theorem r_sFld (q : tv σ H fun y H1 => ta σ H1 fun x H2 => SetK K f y x H2 fun H3 => D.nx σ H3) : sFld K ta tv f D σ H := q
theorem r_setF {R : Hp → Prop} (w : Wd e G H M) (hm : a ∈ M) (h : H a = some (.ins C dx fs)) (c : Cls K C) (n : NoAttr K C f) (l : fs.length < 1000)
    (q : ∀ H', Wd e G H' M → H' a = some (.ins C dx (putF f y fs)) → But a H H' → R H') : SetK K f y (.ref a) H R := ⟨a, C, dx, fs, rfl, h, c, n, l, q _ (wd_mut w hm) upd_same but_upd⟩
/-- a property is read -/
def PropK (C : Addr) (sp : Sp) (dvs : List V) (E : XK) (x : V) (H : Hp) (Q : VK) : Prop := ∃ a dx fs, x = .ref a ∧ H a = some (.ins C dx fs) ∧ sp (.ref a :: dvs) H Q E
theorem r_tProp {sp : Sp} {dvs : List V} {E : XK} (q : ta σ H fun x H1 => PropK C sp dvs E x H1 Qv) : tProp C sp dvs E ta σ H Qv := q
theorem r_prop {sp : Sp} {dvs : List V} {E : XK} (h : H a = some (.ins C dx fs)) (q : sp (.ref a :: dvs) H Qv E) : PropK C sp dvs E (.ref a) H Qv := ⟨a, dx, fs, rfl, h, q⟩
/-- a method is called -/
def MethGo (C : Addr) (m : Str) (x : V) (H : Hp) (R : Addr → Prop) : Prop := ∃ a dx fs, x = .ref a ∧ H a = some (.ins C dx fs) ∧ fs.lookup m = none ∧ R a
theorem r_tMeth {m : Str} {sp : Sp} {dvs : List V} {E : XK} {t : TA} (q : ta σ H fun x H1 => MethGo C m x H1 fun _ => t σ H1 fun vs H2 => sp (x :: (vs ++ dvs)) H2 Qv E) : tMeth C m sp dvs E ta t σ H Qv := by
  have key : ∀ (x : V) (H1 : Hp), MethGo C m x H1 (fun _ => t σ H1 fun vs H2 => sp (x :: (vs ++ dvs)) H2 Qv E) = (∃ a dx fs, x = .ref a ∧ H1 a = some (.ins C dx fs) ∧ fs.lookup m = none ∧ t σ H1 fun vs H2 => sp (x :: (vs ++ dvs)) H2 Qv E) := fun _ _ => rfl
  simp only [key] at q
  exact q
theorem r_meth {m : Str} {R : Addr → Prop} (h : H a = some (.ins C dx fs)) (l : fs.lookup m = none) (q : R a) : MethGo C m (.ref a) H R := ⟨a, dx, fs, rfl, h, l, q⟩
def MethGoK (C : Addr) (m : Str) (x : V) (H : Hp) (R : Prop) : Prop := ∃ a dx fs, x = .ref a ∧ H a = some (.ins C dx fs) ∧ fs.lookup m = none ∧ R
theorem r_tMethK {m : Str} {sp : Sp} {n : Nat} {E : XK} {tk : TA} {gV : List V → List V → List V} (q : ta σ H fun x H1 => MethGoK C m x H1 (tk σ H1 fun zs H2 => zs.length = n ∧ sp (gV [x] zs) H2 Qv E)) : tMethK C m n sp E ta tk gV σ H Qv := q
theorem r_methK {m : Str} {R : Prop} (h : H a = some (.ins C dx fs)) (l : fs.lookup m = none) (q : R) : MethGoK C m (.ref a) H R := ⟨a, dx, fs, rfl, h, l, q⟩
/-- an instance is made -/
def MakeGo (C : Addr) (sp : Sp) (vs : List V) (E : XK) (H : Hp) (Q : VK) : Prop := ∀ x dx, H x = none → H dx = none → dx ≠ x → sp (.ref x :: vs) (upd (upd H dx (.own x)) x (.ins C dx [])) (fun v H2 => v = .non ∧ Q (.ref x) H2) E
theorem r_tMake {sp : Sp} {dvs : List V} {E : XK} {t : TA} (q : t σ H fun vs H1 => MakeGo C sp (vs ++ dvs) E H1 Qv) : tMake C sp dvs E t σ H Qv := q
theorem make_go {sp : Sp} {vs : List V} {E : XK} (w : Wd e G H M)
    (k : ∀ x dx G' H', H x = none → (∀ m ∈ M, x ≠ m) → Same G G' → Same H H' → Wd e G' H' (x :: M) → H' x = some (.ins C dx []) → e.H0 x = none → sp (.ref x :: vs) H' (fun v H2 => v = .non ∧ Qv (.ref x) H2) E) : MakeGo C sp vs E H Qv := by
  intro x dx hx hd ne
  have w1 := wd_lay (o := .own x) w hd
  have hx1 : upd H dx (.own x) x = none := by rw [upd_ne ne.symm]; exact hx
  exact k x dx _ _ hx (fun m hm => w.nm hx hm) (same_upd (w.g hd)) ((same_upd hd).trans (same_upd hx1)) (wd_layM w1 hx1) upd_same (w.n0 hx)
end
theorem dp_map {K : PySem.W.Frag} {H : Hp} {α : Type} (f : α → V) (g : α → PyData) (h : ∀ x, Dp K H (f x) (g x)) : ∀ l : List α, DpAll K H (l.map f) (l.map g)
  | [] => .nil
  | x :: r => .cons (h x) (dp_map f g h r)
/-! ### a comprehension whose list is changed later -/
theorem lc_goM {e : En} {G H1 : Hp} {M : List Addr} {J : It} {n : Nat} {Gd : Hp → Prop} {Y : Nat → Hp → V → Hp → Prop} {g : TG} {tt : TT} {te : TE} {vs : List Nat} {σ : L2.St} {Q : VK} (w : Wd e G H1 M) (hw : Walk J n Gd Y) (R : Nat → List V → Hp → Hp → Prop)
    (h0 : ∀ (Dd : Addr) (H : Hp), Wd e G H (Dd :: M) → Same H1 H → (∀ m ∈ M, Dd ≠ m) → R 0 [] G H)
    (hG : ∀ i acc Gi H, Wd e Gi H M → Same G Gi → R i acc Gi H → Gd H)
    (hs : ∀ (Dd : Addr) i acc Gi H x H', i < n → acc.length ≤ i → Wd e Gi H (Dd :: M) → Same G Gi → H Dd = some (.lst acc) → (∀ m ∈ M, Dd ≠ m) → R i acc Gi H → Y i H x H' → g x (wipe σ vs) H' (LcT Dd (LcP e G M R Dd (i + 1)) tt te vs σ))
    (hd : ∀ (p : Addr) acc Gi H, acc.length ≤ n → Wd e Gi H (p :: M) → Same G Gi → H p = some (.lst acc) → (∀ m ∈ M, p ≠ m) → R n acc Gi H → Q (.ref p) H) : LcGo J g tt te vs σ Q H1 := by
  intro Dd hD
  have w1 := wd_layM (o := .lst []) w hD
  have nm : ∀ m ∈ M, Dd ≠ m := fun m hm => w.nm hD hm
  refine lc_it hw (LcP e G M R Dd) ⟨[], G, w1, Same.refl _, upd_same, Nat.le_refl _, h0 Dd _ w1 (same_upd hD) nm⟩ (fun i H _ ⟨acc, Gi, w2, s2, _, _, r⟩ => hG i acc Gi H (wd_drop w2 (List.sublist_cons_self _ _)) s2 r) (fun i x H H' hi ⟨acc, Gi, w2, s2, h2, l2, r⟩ y => hs Dd i acc Gi H x H' hi l2 w2 s2 h2 nm r y) fun H ⟨acc, Gi, w2, s2, h2, l2, r⟩ => ?_
  exact hd Dd acc Gi H l2 w2 s2 h2 nm r
theorem r_tBM {K : PySem.W.Frag} {T : String} {r : V → List V → Hp → VK → Prop} {to : TE} {t : TA} {σ : L2.St} {H : Hp} {Qv : VK} (q : to σ H fun x H1 => tyV K T x H1 ∧ t σ H1 fun xs H2 => r x xs H2 Qv) : tBM K T r to t σ H Qv := q
theorem r_appM {e : En} {G H : Hp} {M : List Addr} {l : Addr} {xs : List V} {y : V} {Qv : VK} (w : Wd e G H M) (hm : l ∈ M) (h : H l = some (.lst xs)) (hl : xs.length < sizeLine) (q : ∀ H', Wd e G H' M → H' l = some (.lst (xs ++ [y])) → But l H H' → Qv .non H') :
    rAppend (.ref l) [y] H Qv := ⟨l, xs, y, rfl, rfl, h, hl, q _ (wd_mut w hm) upd_same but_upd⟩
/-! ### sayings -/
structure SyC (K : PySem.W.Frag) (C : Addr) : Prop where
  c : Cls K C
  n1 : NoAttr K C "tool"
  n2 : NoAttr K C "moment"
  n3 : NoAttr K C "is_sound"
  n4 : NoAttr K C "face"
  ca : PySem.W.findIn K (.ref C) "__class__" = some (some (.builtin "object.__class__"))
  cn : PySem.W.specialIn K (.builtin "object.__class__") "__get__" = some (some (.builtin "getset_descriptor.__get__"))
  ct : PySem.W.takesIn K (.builtin "object.__class__") = some true
  cm : PySem.W.mroIn K C (.type "object") = some true
  me : PySem.W.kitOne K (.ref C) (.ref C) = some true
  non : PySem.W.kitOne K (.type "NoneType") (.ref C) = some false
  int : PySem.W.kitOne K (.type "int") (.ref C) = some false
  bl : PySem.W.kitOne K (.type "bool") (.ref C) = some false
  str : PySem.W.kitOne K (.type "str") (.ref C) = some false
  lst : PySem.W.kitOne K (.type "list") (.ref C) = some false
  tup : PySem.W.kitOne K (.type "tuple") (.ref C) = some false
  dK : PySem.W.kitOne K (.type "dict") (.ref C) = some false
  fme : PySem.W.notFirst K C (.ref C) = true
  fnon : PySem.W.notFirst K C (.type "NoneType") = true
  fint : PySem.W.notFirst K C (.type "int") = true
  fbl : PySem.W.notFirst K C (.type "bool") = true
  fstr : PySem.W.notFirst K C (.type "str") = true
  flst : PySem.W.notFirst K C (.type "list") = true
  ftup : PySem.W.notFirst K C (.type "tuple") = true
  fdK : PySem.W.notFirst K C (.type "dict") = true
def faceV (z : Str) (i : Int) (b : Bool) : List V := [.str z, .int i, .bl b]
def faceD (z : Str) (i : Int) (b : Bool) : PyData := .tuple [.str z, .int i, .bool b]
/-- name and moment as they must be -/
def Right (z : Str) (i : Int) : Prop := nmOk z = true ∧ 0 ≤ i ∧ i ≤ 1000000000000000000000000000000
def SayAt (C : Addr) (G : Hp) (a : Addr) (z : Str) (i : Int) (b : Bool) : Prop := Right z i ∧ ∃ dx fc, G a = some (.ins C dx [("tool", .str z), ("moment", .int i), ("is_sound", .bl b), ("face", .ref fc)]) ∧ G fc = some (.tup [.str z, .int i, .bl b])
theorem SayAt.same {C a : Addr} {G G' : Hp} {z : Str} {i : Int} {b : Bool} (h : SayAt C G a z i b) (s : Same G G') : SayAt C G' a z i b := by
  obtain ⟨r, dx, fc, h1, h2⟩ := h
  exact ⟨r, dx, fc, s _ _ h1, s _ _ h2⟩
theorem nmOk_len {z : Str} (h : nmOk z = true) : z.length ≤ 8 := by
  unfold nmOk at h
  rw [Bool.and_eq_true, Bool.and_eq_true] at h
  exact of_decide_eq_true h.1.2
theorem Right.name {z : Str} {i : Int} (h : Right z i) : nameV (.str z) = true := h.1
theorem Right.mom {z : Str} {i : Int} (h : Right z i) : momV (.int i) 0 = true := by
  show (decide (0 ≤ i) && decide (i ≤ 1000000000000000000000000000000)) = true
  rw [decide_eq_true h.2.1, decide_eq_true h.2.2]
  rfl
theorem Right.len {z : Str} {i : Int} (h : Right z i) : z.length ≤ 8 := nmOk_len h.1
def spSayInit (C : Addr) : Sp := fun vs H Q _ => ∃ (G : Hp) (x dx : Addr) (z : Str) (i : Int) (b : Bool), vs = [.ref x, .str z, .int i, .bl b] ∧ Gh G H ∧ G x = none ∧ H x = some (.ins C dx []) ∧ Right z i ∧
  ∀ (G' H' : Hp) (fc : Addr), But x H H' → Gh G' H' → Same G G' → (∀ a, H a ≠ none → G' a = G a) → G' fc = some (.tup [.str z, .int i, .bl b]) → H' x = some (.ins C dx [("tool", .str z), ("moment", .int i), ("is_sound", .bl b), ("face", .ref fc)]) → Q .non H'
theorem u_say {C : Addr} {e : En} {G H : Hp} {M : List Addr} {z : Str} {i : Int} {b : Bool} {Qv : VK} {E : XK} (w : Wd e G H M) (r : Right z i)
    (k : ∀ a G' H', Wd e G' H' M → Same G G' → Same H H' → SayAt C G' a z i b → Qv (.ref a) H') : MakeGo C (spSayInit C) [.str z, .int i, .bl b] E H Qv := by
  refine make_go w fun x dx G1 H1 hx nm s1 t1 w1 h1 n0 => ?_
  refine ⟨G1, x, dx, z, i, b, rfl, w1.gh, (w1.mu x List.mem_cons_self).1, h1, r, fun G2 H2 fc b2 s2 s3 fr hf h2 => ⟨rfl, ?_⟩⟩
  have w2 : Wd e G2 H2 (x :: M) := by
    have w3 := wd_but w1 List.mem_cons_self b2 h2
    refine ⟨s2.1, fun a ha => ?_, w1.nd, w3.dom, fun a o h => s3 _ _ (w1.gr _ _ h), fun a ha => by rw [fr a (w1.dom a ha)]; exact w1.fr a ha, w3.kp, s2.2, w3.mt, w3.tb⟩
    obtain ⟨g1, ⟨o, g2⟩, g3⟩ := w1.mu a ha
    obtain ⟨_, g4, _⟩ := w3.mu a ha
    exact ⟨by rw [fr a (some_ne g2)]; exact g1, g4, g3⟩
  obtain ⟨w4, s4⟩ := wd_freeze w2 h2 n0
  refine k x _ H2 w4 (s1.trans (s3.trans s4)) (fun a o h => ?_) ⟨r, dx, fc, upd_same, s4 _ _ hf⟩
  refine b2 a o (fun q => ?_) (t1 _ _ h)
  subst q
  rw [hx] at h
  cases h
def spAhead (C : Addr) : Sp := fun vs H Q _ => ∃ (G : Hp) (a c : Addr) (z : Str) (i : Int) (b : Bool) (z' : Str) (i' : Int) (b' : Bool), vs = [.ref a, .ref c] ∧ Gh G H ∧ SayAt C G a z i b ∧ SayAt C G c z' i' b' ∧
  Ret G H (fun v _ => v = .bl (PySem.W.dataLt (faceD z i b) (faceD z' i' b'))) Q
/-- what == of a saying with y answers -/
def EqTo (K : PySem.W.Frag) (C : Addr) (G : Hp) (z : Str) (i : Int) (b : Bool) (y : V) (r : Bool) : Prop := (∃ t, TyX K G y t ∧ PySem.W.kitOne K t (.ref C) = some false ∧ r = false) ∨
  ∃ (c : Addr) (z' : Str) (i' : Int) (b' : Bool), y = .ref c ∧ SayAt C G c z' i' b' ∧ r = PyData.eqv (faceD z i b) (faceD z' i' b')
def spSayEq (K : PySem.W.Frag) (C : Addr) : Sp := fun vs H Q _ => ∃ (G : Hp) (a : Addr) (z : Str) (i : Int) (b : Bool) (y : V) (r : Bool), vs = [.ref a, y] ∧ Gh G H ∧ SayAt C G a z i b ∧ EqTo K C G z i b y r ∧ Ret G H (fun v _ => v = .bl r) Q
def sayText (z : Str) (i : Int) (b : Bool) : Str := Str.empty ++ z ++ Str.ofString " " ++ Str.ofString (toString i) ++ Str.ofString " " ++ (if b then Str.ofString "sound" else Str.ofString "unsound")
def spSayStr (C : Addr) : Sp := fun vs H Q _ => ∃ (G : Hp) (a : Addr) (z : Str) (i : Int) (b : Bool), vs = [.ref a] ∧ Gh G H ∧ SayAt C G a z i b ∧ Right z i ∧ Ret G H (fun v _ => v = .str (sayText z i b)) Q
def spPoint (C : Addr) : Sp := fun vs H Q _ => ∃ (G : Hp) (a : Addr) (z : Str) (i : Int) (b : Bool), vs = [.ref a] ∧ Gh G H ∧ SayAt C G a z i b ∧ Ret G H (fun v G' => ∃ p, v = .ref p ∧ G' p = some (.tup [.str z, .int i])) Q
section
variable {K : PySem.W.Frag} {C a c : Addr} {e : En} {G H : Hp} {M : List Addr} {z z' : Str} {i i' : Int} {b b' r : Bool} {y : V} {Q : VK} {E : XK}
theorem u_ahead (w : Wd e G H M) (h1 : SayAt C G a z i b) (h2 : SayAt C G c z' i' b') (k : ∀ G' H', Wd e G' H' M → Same G G' → Same H H' → Q (.bl (PySem.W.dataLt (faceD z i b) (faceD z' i' b'))) H') : spAhead C [.ref a, .ref c] H Q E :=
  ⟨G, a, c, z, i, b, z', i', b', rfl, w.gh, h1, h2, ret_use w fun v G' H' w' s1 s2 p => by subst p; exact k G' H' w' s1 s2⟩
theorem u_sayEq (w : Wd e G H M) (h1 : SayAt C G a z i b) (h2 : EqTo K C G z i b y r) (k : ∀ G' H', Wd e G' H' M → Same G G' → Same H H' → Q (.bl r) H') : spSayEq K C [.ref a, y] H Q E :=
  ⟨G, a, z, i, b, y, r, rfl, w.gh, h1, h2, ret_use w fun v G' H' w' s1 s2 p => by subst p; exact k G' H' w' s1 s2⟩
theorem u_sayStr (w : Wd e G H M) (h1 : SayAt C G a z i b) (h2 : Right z i) (k : ∀ G' H', Wd e G' H' M → Same G G' → Same H H' → Q (.str (sayText z i b)) H') : spSayStr C [.ref a] H Q E :=
  ⟨G, a, z, i, b, rfl, w.gh, h1, h2, ret_use w fun v G' H' w' s1 s2 p => by subst p; exact k G' H' w' s1 s2⟩
theorem u_point (w : Wd e G H M) (h1 : SayAt C G a z i b) (k : ∀ p G' H', Wd e G' H' M → Same G G' → Same H H' → G' p = some (.tup [.str z, .int i]) → Q (.ref p) H') : spPoint C [.ref a] H Q E :=
  ⟨G, a, z, i, b, rfl, w.gh, h1, ret_use w fun v G' H' w' s1 s2 p => by obtain ⟨p, e, h⟩ := p; subst e; exact k p G' H' w' s1 s2 h⟩
theorem SyC.ty (S : SyC K C) (h : SayAt C G a z i b) : TyX K G (.ref a) (.ref C) := by
  obtain ⟨_, dx, fc, h1, _⟩ := h
  exact .base (.ins h1 S.c S.ca S.cn S.ct S.cm)
theorem EqTo.say (h : SayAt C G c z' i' b') : EqTo K C G z i b (.ref c) (PyData.eqv (faceD z i b) (faceD z' i' b')) := .inr ⟨c, z', i', b', rfl, h, rfl⟩
theorem EqTo.non (S : SyC K C) : EqTo K C G z i b .non false := .inl ⟨_, .base .non, S.non, rfl⟩
theorem EqTo.int (S : SyC K C) {j : Int} : EqTo K C G z i b (.int j) false := .inl ⟨_, .base (.int j), S.int, rfl⟩
theorem EqTo.bl (S : SyC K C) {j : Bool} : EqTo K C G z i b (.bl j) false := .inl ⟨_, .base (.bl j), S.bl, rfl⟩
theorem EqTo.str (S : SyC K C) {j : Str} : EqTo K C G z i b (.str j) false := .inl ⟨_, .base (.str j), S.str, rfl⟩
theorem EqTo.lst (S : SyC K C) {l : Addr} {xs : List V} (h : G l = some (.lst xs)) : EqTo K C G z i b (.ref l) false := .inl ⟨_, .base (.lst h), S.lst, rfl⟩
theorem EqTo.tup (S : SyC K C) {l : Addr} {xs : List V} (h : G l = some (.tup xs)) : EqTo K C G z i b (.ref l) false := .inl ⟨_, .base (.tup h), S.tup, rfl⟩
end
theorem alike_face {z z' : Str} {i i' : Int} {b b' : Bool} : PySem.W.alike (faceD z i b) (faceD z' i' b') = true := by simp [faceD, PySem.W.alike, PySem.W.alikeAll]
theorem nmOk_str {z : Str} (h : nmOk z = true) : PyData.strOk z = true := by
  unfold nmOk at h
  rw [Bool.and_eq_true, Bool.and_eq_true, Bool.and_eq_true, Bool.and_eq_true] at h
  have h1 := h.2.2.2
  unfold PyData.strOk
  rw [Array.all_eq_true_iff_forall_mem]
  intro c hc
  have h2 := List.all_eq_true.mp h1 c (Array.mem_toList_iff.mpr hc)
  have l1 : ∀ c ∈ zLetters.cps.toList, c < 0x110000 := by decide
  have l2 : ∀ c ∈ zFigures.cps.toList, c < 0x110000 := by decide
  rcases Bool.or_eq_true_iff.mp h2 with h3 | h3
  · exact decide_eq_true (l1 c (of_decide_eq_true h3))
  · exact decide_eq_true (l2 c (of_decide_eq_true h3))
theorem shaped_face {z : Str} {i : Int} {b : Bool} (h : Right z i) : SeqAt.shaped (faceD z i b) = true := by
  have e : PyData.strOk z = true := nmOk_str h.1
  simp [faceD, SeqAt.shaped, PyData.canLay0, PyData.canLayAll0, PyData.depth, PyData.depthAll, e]
theorem depth_face {z : Str} {i : Int} {b : Bool} : (faceD z i b).depth ≤ 60 := by simp [faceD, PyData.depth, PyData.depthAll]
theorem ne_face {z : Str} {i : Int} {b : Bool} : faceD z i b ≠ .none := fun h => nomatch h
theorem lenZ {i : Int} (h0 : 0 ≤ i) (h1 : i ≤ 1000000000000000000000000000000) : (Str.ofString (toString i)).length ≤ 31 := toString_length_le h0 (by decide) (Int.lt_of_le_of_lt h1 (by decide))
theorem logZ {i : Int} (h0 : 0 ≤ i) (h1 : i ≤ 1000000000000000000000000000000) : i.natAbs.log2 < 1920 := by
  by_cases z : i.natAbs = 0
  · rw [z]; decide
  · refine (Nat.log2_lt z).mpr (Nat.lt_of_le_of_lt (m := 1000000000000000000000000000000) (by omega) ?_)
    exact Nat.lt_of_lt_of_le (m := 2 ^ 100) (by decide) (Nat.pow_le_pow_right (by decide) (by decide))
/-! ### f-strings, step by step -/
section
variable {te : TE} {ts : List TE} {acc y : Str} {i : Int} {σ : L2.St} {H : Hp} {Q : Str → Hp → Prop} {Qv : VK}
def FmtK (x : V) (H : Hp) (Q : VK) : Prop := (∃ y : Str, x = .str y ∧ y.length ≤ sizeLine ∧ Q (.str y) H) ∨ ∃ i : Int, x = .int i ∧ i.natAbs.log2 < 1920 ∧ Q (.str (toString i)) H
theorem r_tFmt (q : te σ H fun x H1 => FmtK x H1 Qv) : tFmt te σ H Qv := q
theorem r_fmtS (h : y.length ≤ sizeLine) (q : Qv (.str y) H) : FmtK (.str y) H Qv := .inl ⟨y, rfl, h, q⟩
theorem r_fmtI (h : i.natAbs.log2 < 1920) (q : Qv (.str (toString i)) H) : FmtK (.int i) H Qv := .inr ⟨i, rfl, h, q⟩
theorem r_jnil (q : Q acc H) : tJs [] acc σ H Q := q
def JK (acc : Str) (x : V) (R : Str → Prop) : Prop := ∃ y : Str, x = .str y ∧ (acc ++ y).length ≤ sizeLine ∧ R (acc ++ y)
theorem r_jcons (q : te σ H fun x H1 => JK acc x fun s => tJs ts s σ H1 Q) : tJs (te :: ts) acc σ H Q := q
theorem r_jk {R : Str → Prop} (h : (acc ++ y).length ≤ sizeLine) (q : R (acc ++ y)) : JK acc (.str y) R := ⟨y, rfl, h, q⟩
end
end Q
namespace Q
open PySem PySem.Spec PyProof.Rows L2
/-! ### classes as they stand, ready to be used -/
section
variable {P : Program} {w : World} {K : PySem.W.Frag} {mg : Str → Option Value} {base : Heap} {CX : CXT} {k : Nat}
theorem kbn_of {x qual : Str} {params : Arguments} {body : List Stmt} {scope : Scope} {kws : List (Str × V)} {f : Addr} {fd : FuncData} {ps : List Str} (F : FunD K x qual params body scope [] kws f fd) (n : Nat) (ks : List Str) (g : {α : Type} → List α → List α → List α)
    (hrel : ∀ {vs zs : List V} {us ws : List Value}, Vals vs us → Vals zs ws → Vals (g vs zs) (g us ws))
    (h : ∀ (kV doc pm : Value) (an : Option Addr) (cdv ct : Value) (us ws : List Value), us.length = n → ws.length = ks.length →
      bindArgs (PySem.W.fnOf x qual params body scope .none kV doc pm an cdv ct) ⟨us, ks.zip ws⟩ = pure (ps.zip (g us ws))) : KBn K fd ps n ks (fun us ws => g us ws) (fun vs zs => g vs zs) := by
  obtain ⟨oc, od, dV, kV, doc, pm, an, cdv, ct, osl, rfl, lk, hcd, hD, hK⟩ := F.ex
  rcases hD with ⟨_, rfl⟩ | ⟨e, _⟩
  · exact ⟨fun s us ws X l1 l2 => .of_eq (h kV doc pm an cdv ct us ws l1 l2), fun r1 r2 => hrel r1 r2⟩
  · exact absurd rfl e
variable (P w K mg base CX k)
structure MkD (x : Str) (C : Addr) (dvs : List V) (sp : Sp) : Prop where
  ex : ∃ (f : Addr) (fd : FuncData) (ps : List Str) (ds : List Value), mg x = some (.ref C) ∧ Mk K C f ∧ Binds K fd ps ds ∧ Vals dvs ds ∧ FnOk P w K mg base CX k f fd ps sp
structure MkK (x : Str) (C : Addr) (n : Nat) (ks : List Str) (gV : List V → List V → List V) (sp : Sp) : Prop where
  ex : ∃ (f : Addr) (fd : FuncData) (ps : List Str) (g : List Value → List Value → List Value), mg x = some (.ref C) ∧ Mk K C f ∧ KBn K fd ps n ks g gV ∧ FnOk P w K mg base CX k f fd ps sp
structure MetD (C : Addr) (m : Str) (dvs : List V) (sp : Sp) : Prop where
  ex : ∃ (f : Addr) (fd : FuncData) (ps : List Str) (ds : List Value), Cls K C ∧ Meth K C m f ∧ Binds K fd ps ds ∧ Vals dvs ds ∧ FnOk P w K mg base CX k f fd ps sp
structure MetK (C : Addr) (m : Str) (ks : List Str) (gV : List V → List V → List V) (sp : Sp) : Prop where
  ex : ∃ (f : Addr) (fd : FuncData) (ps : List Str) (g : List Value → List Value → List Value), Cls K C ∧ Meth K C m f ∧ KBn K fd ps 1 ks g gV ∧ FnOk P w K mg base CX k f fd ps sp
structure PrD (C : Addr) (m : Str) (sp : Sp) : Prop where
  ex : ∃ (p g : Addr) (fd : FuncData) (ps : List Str), Cls K C ∧ PropOf K C m p g ∧ Binds K fd ps [] ∧ FnOk P w K mg base CX k g fd ps sp
/-- a special def: ==, str -/
structure SpD (C : Addr) (m : Str) (sp : Sp) : Prop where
  ex : ∃ (f : Addr) (fd : FuncData) (ps : List Str), PySem.W.findIn K (.ref C) m = some (some (.ref f)) ∧ PySem.W.isFn K (.ref f) = true ∧ Binds K fd ps [] ∧ FnOk P w K mg base CX k f fd ps sp
end
section
variable {X : Cx} {CX : CXT} {k j n : Nat} {C : Addr} {sp : Sp} {dvs : List V} {E : XK} {x m : Str} {o e : Expr} {es : List Expr} {t tk : TA} {ta : TE} {pos p apos : Pos} {pl : Sem Bool} {ks : List Str} {kws : List Keyword} {gV : List V → List V → List V}
theorem pe_makeD (D : MkD X.prog X.w X.K X.mg X.base CX k x C dvs sp) (hr : Room j X.A) (hx : Passes CX X E) (ha : PA X (e :: es) t) (hj : k + 1 ≤ j := by decide) (hg : Gl X x := by rfl)
    (hdb : (x == ("__debug__" : Str)) = false := by decide) (he : starEach (e :: es) X.env = (false, eval e X.env) :: starEach es X.env := by rfl) (hpl : (backTo pos (starEach es X.env)).any (·.1) = false := by rfl) :
    PE X (.Call (.Name x p) (e :: es) [] pos) (tMake C sp dvs E t) := by
  obtain ⟨f, fd, ps, ds, h1, h2, h3, h4, h5⟩ := D.ex
  exact pe_make h2 h5 (hr.mono hj) hg h1 h3 h4 hx ha hdb he hpl
theorem pe_methD (he : PE X o ta) (D : MetD X.prog X.w X.K X.mg X.base CX k C m dvs sp) (hr : Room j X.A) (hx : Passes CX X E) (ha : PA X (e :: es) t) (hj : k ≤ j := by decide)
    (hst : starEach (e :: es) X.env = (false, eval e X.env) :: starEach es X.env := by rfl) (hpl : (backTo pos (starEach es X.env)).any (·.1) = false := by rfl)
    (ht : eval (.Call (.Attribute o m apos) (e :: es) [] pos) X.env = (do
      let ov ← eval o X.env
      standAt apos.atName
      let (f, first) ← holding [ov] (getMethod ov m pl)
      callWith pos f first (backTo pos (starEach (e :: es) X.env)) (backToKw pos (keywordEach [] X.env))) := by rfl) :
    PE X (.Call (.Attribute o m apos) (e :: es) [] pos) (tMeth C m sp dvs E ta t) := by
  obtain ⟨f, fd, ps, ds, h1, h2, h3, h4, h5⟩ := D.ex
  exact pe_meth he h1 h2 h5 (hr.mono hj) h3 h4 hx ha hst hpl ht
theorem pe_methD0 (he : PE X o ta) (D : MetD X.prog X.w X.K X.mg X.base CX k C m dvs sp) (hr : Room j X.A) (hx : Passes CX X E) (hj : k ≤ j := by decide)
    (ht : eval (.Call (.Attribute o m apos) [] [] pos) X.env = (do
      let ov ← eval o X.env
      standAt apos.atName
      let (f, first) ← holding [ov] (getMethod ov m pl)
      callWith pos f first (backTo pos (starEach [] X.env)) (backToKw pos (keywordEach [] X.env))) := by rfl) :
    PE X (.Call (.Attribute o m apos) [] [] pos) (tMeth C m sp dvs E ta tNil) := by
  obtain ⟨f, fd, ps, ds, h1, h2, h3, h4, h5⟩ := D.ex
  exact pe_meth0 he h1 h2 h5 (hr.mono hj) h3 h4 hx ht
theorem pe_methKD (he : PE X o ta) (D : MetK X.prog X.w X.K X.mg X.base CX k C m ks gV sp) (hr : Room j X.A) (hx : Passes CX X E) (hkw : PK X kws tk) (hj : k ≤ j := by decide)
    (hall : (backToKw pos (keywordEach kws X.env)).all (·.1.isSome) = true := by rfl) (hks : (backToKw pos (keywordEach kws X.env)).filterMap (·.1) = ks := by rfl)
    (hpl : ((backTo pos (starEach [] X.env)).any (·.1) || (backToKw pos (keywordEach kws X.env)).any (·.1.isNone)) = false := by rfl)
    (ht : eval (.Call (.Attribute o m apos) [] kws pos) X.env = (do
      let ov ← eval o X.env
      standAt apos.atName
      let (f, first) ← holding [ov] (getMethod ov m pl)
      callWith pos f first (backTo pos (starEach [] X.env)) (backToKw pos (keywordEach kws X.env))) := by rfl) :
    PE X (.Call (.Attribute o m apos) [] kws pos) (tMethK C m ks.length sp E ta tk gV) := by
  obtain ⟨f, fd, ps, g, h1, h2, h3, h5⟩ := D.ex
  exact pe_methK he h1 h2 h5 (hr.mono hj) h3 hx hkw hall hks hpl ht
theorem pe_propD (he : PE X e ta) (D : PrD X.prog X.w X.K X.mg X.base CX k C m sp) (hr : Room j X.A) (hx : Passes CX X.nox E) (hj : k + 1 ≤ j := by decide)
    (hab : attributeBase e m X.env (eval e X.env) = eval e X.env := by rfl) : PE X (.Attribute e m pos) (tProp C sp [] E ta) := by
  obtain ⟨p, g, fd, ps, h1, h2, h3, h5⟩ := D.ex
  exact pe_prop he h1 h2 h5 (hr.mono hj) h3 .nil hx hab
theorem q_eqD (D : SpD X.prog X.w X.K X.mg X.base CX k C "__eq__" sp) (hr : Room j X.A) (hx : Passes CX X E) (hj : k ≤ j := by decide) : OpR X (compareOp .Eq) (rEqI X.K C sp E) := by
  obtain ⟨f, fd, ps, h1, h2, h3, h4⟩ := D.ex
  exact q_eqI h1 h2 h4 (hr.mono hj) h3 hx
theorem q_neD (hne : PySem.W.findIn X.K (.ref C) "__ne__" = some (some (.builtin "object.__ne__"))) (hm : PySem.W.mroIn X.K C (.type "object") = some true) (D : SpD X.prog X.w X.K X.mg X.base CX k C "__eq__" sp) (hr : Room j X.A) (hx : Passes CX X E)
    (hj : k + 1 ≤ j := by decide) : OpR X (compareOp .NotEq) (rNeI X.K C sp E) := by
  obtain ⟨f, fd, ps, h1, h2, h3, h4⟩ := D.ex
  exact q_neI hne hm h1 h2 h4 (hr.mono hj) h3 hx
theorem q_strD (D : SpD X.prog X.w X.K X.mg X.base CX k C "__str__" sp) (hr : Room j X.A) (hx : Passes CX X E) (hj : k + 2 ≤ j := by decide) : CallR X (.type "str") (rStrI C sp E) := by
  obtain ⟨f, fd, ps, h1, h2, h3, h4⟩ := D.ex
  exact q_strI h1 h2 h4 (hr.mono hj) h3 hx
end
theorem u_moment0 {K : PySem.W.Frag} {e : En} {G H : Hp} {M : List Addr} {x : V} {t : Value} {Q : VK} {E : XK} {l : Int} (w : Wd e G H M) (h : Kd K G x t) (k : ∀ G' H', Wd e G' H' M → Same G G' → Same H H' → Q (.bl (momV x l)) H') :
    spMoment K ([x] ++ [.int l]) H Q E := u_moment w h k
theorem r_tyL {K : PySem.W.Frag} {H : Hp} {p : Addr} {xs : List V} {R : Prop} (h : SqL K H p xs) (q : R) : tyV K "list" (.ref p) H ∧ R := ⟨.inl ⟨rfl, xs, h⟩, q⟩
def bl3 (a b c : Bool) : PyData := .list [.bool a, .bool b, .bool c]
theorem showable3 {a b c : Bool} : (bl3 a b c).showable = true := by cases a <;> cases b <;> cases c <;> decide
theorem depth3 {a b c : Bool} : (bl3 a b c).depth ≤ 60 := by cases a <;> cases b <;> cases c <;> decide
theorem size3 {a b c : Bool} : (bl3 a b c).shown.length ≤ sizeLine := by
  refine sz_m ?_
  cases a <;> cases b <;> cases c <;> decide +kernel
theorem showable1 {a : Bool} : (PyData.bool a).showable = true := by cases a <;> decide
theorem depth1 {a : Bool} : (PyData.bool a).depth ≤ 60 := by cases a <;> decide
theorem size1 {a : Bool} : (PyData.bool a).shown.length ≤ sizeLine := by
  refine sz_m ?_
  cases a <;> decide +kernel
theorem EqTo.same {K : PySem.W.Frag} {C : Addr} {G G' : Hp} {z : Str} {i : Int} {b r : Bool} {y : V} (h : EqTo K C G z i b y r) (s : Same G G') : EqTo K C G' z i b y r := by
  rcases h with ⟨t, h1, h2, h3⟩ | ⟨c, z', i', b', h1, h2, h3⟩
  · exact .inl ⟨t, same_ty s h1, h2, h3⟩
  · exact .inr ⟨c, z', i', b', h1, h2.same s, h3⟩
end Q
namespace Q
open PySem PySem.Spec PyProof.Rows L2
/-! ### the law's own end: nothing is being shown around the law's def -/
section
variable {P : Program} {w : World} {K : PySem.W.Frag} {mg mb : Str → Option Value} {CX : CXT} {k : Nat} {fa a : Addr} {fd : FuncData} {x : Str} {sp : Sp} {s₁ : Shared} {vs : List Value} {ns : List Int}
/-- from one abstract heap in which the script alone may be told -/
theorem from_heap (Hh : Hp) (KX : K.In s₁.heap) (hns : s₁.heap.Ns mainGlobals mg) (hb : s₁.heap.Ns builtinsNs mb)
    (hbb : ∀ y : Str, y ≠ "__name__" → mb y = bootBuiltins y) (hlim : s₁.heap.NoLimit) (hg : s₁.gens = #[])
    (hobj : s₁.heap.get? a = some { cls := .type "list", data := .seq vs.toArray }) (hr : Room k callerA)
    (F : ∀ b0 : Heap, K.In b0 → b0.Ns mainGlobals mg → FnA P w K mg b0 CX k fa fd [x] sp)
    (hbind : ∀ (s : Shared) (u : Value), BindsTo s fd ⟨[u], []⟩ [(x, u)]) (only : Only Hh) (told : HOk P w Hh s₁.heap)
    (hsp : sp [.ref a] Hh (fun v _ => v = .bl true) fun _ _ _ => False) (hCX : ∀ e s', CX [] Hh s₁ (fun _ _ _ => False) e s' → False)
    (alone : ∀ b, Hh b ≠ none → b = a) (apart : Hh a ≠ none → K.lookup a = none) :
    codeAny (model P w) callerA (.call (.ref fa) ⟨[.ref a], []⟩) (fun r t => r = .ok (.ret (.bool true)) ∧ OldK s₁.heap t.heap ∧ t.os = s₁.os ∧ AllBare t.gens) s₁ := by
  let base := hidT s₁.heap Hh
  have seen : ∀ {b : Addr} {o : Obj}, s₁.heap.get? b = some o → Hh b = none → base.get? b = some o := fun z n => hidT_get z n
  have dicts : ∀ {b : Addr} {o : Obj} {es : Array DictEntry} {ep : Nat}, s₁.heap.get? b = some o → o.data = .dict es ep → Hh b = none := by
    intro b o es ep z d
    by_cases q : Hh b = none
    · exact q
    · have ba := alone b q
      rw [ba, hobj] at z
      obtain rfl := Option.some.inj z
      exact absurd d (by intro y; cases y)
  have names : ∀ {b : Addr} {m : Str → Option Value}, s₁.heap.Ns b m → base.Ns b m := by
    rintro b m ⟨o, es, ep, z, d, r⟩
    exact ⟨o, es, ep, seen z (dicts z d), d, r⟩
  have inB : K.In base := by
    intro b o z
    refine seen (KX b o z) ?_
    by_cases q : Hh b = none
    · exact q
    · have ba := alone b q
      rw [ba] at z q
      rw [apart q] at z
      cases z
  obtain ⟨mc, l1, l2⟩ := hlim
  have md : Mod K mg base := ⟨inB, names hns, ⟨mb, names hb, hbb⟩, ⟨mc, names l1, l2⟩⟩
  have env : Env0 P w K mg base callerA [] s₁ Hh := by
    refine ⟨rfl, md, fun b o z => of_hidT z, Nat.le_of_eq (hidT_size _ _), trivial, fun b z => ?_, told, .of_eq hg⟩
    exact absurd (show b ∈ ([] : List Addr) from z) (by simp)
  have go := (F base inB (names hns)).run callerA [] s₁ Hh ⟨[.ref a], []⟩ [.ref a] [.ref a] _ _ g0_caller hr env (hbind s₁ (.ref a)) (.cons rfl .nil) hsp
  refine codeAny_mono go fun r t h => ?_
  match r, h with
  | .error e, h => exact (hCX e t h).elim
  | .ok .next, h => exact h.elim
  | .ok .brk, h => exact h.elim
  | .ok .cont, h => exact h.elim
  | .ok (.ret u), h =>
    obtain ⟨v, H', os, bare, un, told', ru, q⟩ := h
    have q' : v = .bl true := q
    subst q'
    obtain rfl : u = Value.bool true := ru
    refine ⟨rfl, OldK.of_keep fun b o z => ?_, os, bare⟩
    by_cases n : Hh b = none
    · exact un.keep b o z n (by intro y; exact absurd (show b ∈ ([] : List Addr) from y) (by simp)) (by simp)
    · rcases only b with y | ⟨ob, xs, y⟩
      · exact absurd y n
      · obtain ⟨e1, _⟩ := told b _ y
        obtain ⟨e2, _⟩ := told' b _ (un.frzs b ob _ y)
        rw [z] at e1
        obtain rfl := Option.some.inj e1
        exact e2
theorem end_A (KX : K.In s₁.heap) (hns : s₁.heap.Ns mainGlobals mg) (hb : s₁.heap.Ns builtinsNs mb)
    (hbb : ∀ y : Str, y ≠ "__name__" → mb y = bootBuiltins y) (hlim : s₁.heap.NoLimit) (hg : s₁.gens = #[])
    (hobj : s₁.heap.get? a = some { cls := .type "list", data := .seq vs.toArray }) (hi : IntsAre vs ns) (hl : ns.length ≤ sizeLine) (hr : Room k callerA)
    (F : ∀ b0 : Heap, K.In b0 → b0.Ns mainGlobals mg → FnA P w K mg b0 CX k fa fd [x] sp)
    (hbind : ∀ (s : Shared) (u : Value), BindsTo s fd ⟨[u], []⟩ [(x, u)])
    (hsp : ∀ Hh : Hp, Only Hh → SqL K Hh a (ns.map V.int) → sp [.ref a] Hh (fun v _ => v = .bl true) fun _ _ _ => False)
    (hCX : ∀ Hh e s', CX [] Hh s₁ (fun _ _ _ => False) e s' → False) :
    codeAny (model P w) callerA (.call (.ref fa) ⟨[.ref a], []⟩) (fun r t => r = .ok (.ret (.bool true)) ∧ OldK s₁.heap t.heap ∧ t.os = s₁.os ∧ AllBare t.gens) s₁ := by
  have rv := vals_ints hi
  have nv := hi.length
  by_cases q : ∃ o, K.lookup a = some o
  · obtain ⟨o, lk⟩ := q
    have z := KX a o lk
    rw [hobj] at z
    obtain rfl := Option.some.inj z
    have only : Only fun _ => none := fun _ => .inl rfl
    refine from_heap (fun _ => none) KX hns hb hbb hlim hg hobj hr F hbind only (fun b u y => ?_) (hsp _ only (.inr ⟨_, vs.toArray, _, lk, rfl, rfl, rfl, ?_, ?_⟩)) (hCX _) (fun b y => absurd rfl y) fun y => absurd rfl y
    · exact absurd (show (none : Option HO) = some u from y) (by intro y; cases y)
    · rw [List.size_toArray, nv]; exact hl
    · simpa using rv
  · have lk : K.lookup a = none := by
      cases z : K.lookup a with
      | none => rfl
      | some o => exact absurd ⟨o, z⟩ q
    let Hh : Hp := fun b => if b = a then some (.frz { cls := .type "list", data := .seq vs.toArray } (.lst (ns.map V.int))) else none
    have at_a : Hh a = some (.frz { cls := .type "list", data := .seq vs.toArray } (.lst (ns.map V.int))) := if_pos rfl
    have off : ∀ b, b ≠ a → Hh b = none := fun b n => if_neg n
    have only : Only Hh := fun b => by
      by_cases n : b = a
      · exact .inr ⟨_, _, by rw [n]; exact at_a⟩
      · exact .inl (off b n)
    refine from_heap Hh KX hns hb hbb hlim hg hobj hr F hbind only (fun b u y => ?_) (hsp _ only (.inl (.inr ⟨_, at_a⟩))) (hCX _) (fun b y => ?_) fun _ => lk
    · by_cases n : b = a
      · rw [n, at_a] at y
        obtain rfl := Option.some.inj y
        rw [n]
        exact ⟨hobj, by rw [List.length_map]; exact hl, vs, _, rv, hobj⟩
      · rw [off b n] at y
        cases y
    · by_cases n : b = a
      · exact n
      · exact absurd (off b n) y
end
theorem walk_ofA {l : PySem.W.OpenLaw} {n k : Nat} {q : Program} {loose : List Str} {XP : (Str → Option Value) → Heap → Prop} {YP : World → Heap → Prop} {d : DefRec} {CX : CXT} {x : Str}
    (hn : l.most = some n) (hn2 : n ≤ sizeLine) (hdf : d.params.defaults = []) (hr : Room k callerA)
    (F : ∀ (w : World) (mg : Str → Option Value) (fa : Addr) (h : Heap), YP w h → h.Ns mainGlobals mg → mg d.name = some (.ref fa) →
      ∃ (K : PySem.W.Frag) (fd : FuncData) (sp : Sp), K.In h ∧ (∀ (s : Shared) (u : Value), BindsTo s fd ⟨[u], []⟩ [(x, u)]) ∧
        (∀ (Hh : Hp) (a : Addr) (ns : List Int), ns.length ≤ n → Only Hh → SqL K Hh a (ns.map V.int) → sp [.ref a] Hh (fun v _ => v = .bl true) fun _ _ _ => False) ∧
        ∀ b0 : Heap, K.In b0 → b0.Ns mainGlobals mg → FnA l.prog w K mg b0 CX k fa fd [x] sp)
    (hCX : ∀ (Hh : Hp) (s : Shared) (e : Value) (s' : Shared), CX [] Hh s (fun _ _ _ => False) e s' → False) :
    PySem.W.WalkO q loose XP YP l.row.toRowW d [] (fun f vs => PySem.call f vs) := by
  refine Att.attach_call hn hdf fun w s₀ s₁ mg mb fa o pm cd doc a vs ns G Y ho hd hcd hmg hobj hints hlen hg => ?_
  obtain ⟨K, fd, sp, KX, hb, hsp, hF⟩ := F w mg fa _ Y G.T.g hmg
  refine end_A KX G.T.g G.T.b G.T.builtins G.T.nolimit hg hobj hints (Nat.le_trans hlen hn2) hr hF hb ?_ fun Hh e s' => hCX Hh s₁ e s'
  exact fun Hh hO hS => hsp Hh a ns hlen hO hS
/-! ### the head's facts: defs, named facts, a Bool of one's own -/
abbrev AlQ : Type := He.AlD × Bool
def obsQ (n : Nat) (fa : List He.Fa) (fn : List He5.DefA) (ex : PySem.W.Frag → Bool) (g : Addr → Option Obj) : AlQ := (He5.obsAG n fa fn g, ex (He.frG g (He5.asA g n)))
def hookQ (n : Nat) (fa : List He.Fa) (fn : List He5.DefA) (ex : PySem.W.Frag → Bool) : PySem.W.Hook where
  α := AlQ
  obs := fun s => obsQ n fa fn ex s.heap.get?
  val := fun _ => (He5.valA fn, true)
  says := fun _ h => ∃ K : PySem.W.Frag, K.In h ∧ He5.SaysA fa fn K ∧ ex K = true
  of := fun _ _ e => ⟨_, He.frG_in, congrArg (fun z : AlQ => z.1) e, congrArg (fun z : AlQ => z.2) e⟩
  keeps := fun _ _ _ ⟨K, hK, c⟩ k => ⟨K, PySem.W.Frag.In.keeps hK k, c⟩
theorem obsQ_eq {n : Nat} {fa : List He.Fa} {fn : List He5.DefA} {ex : PySem.W.Frag → Bool} {g : Addr → Option Obj} {s : Shared} (h : ∀ a, g a = s.heap.get? a) : obsQ n fa fn ex g = (hookQ n fa fn ex).obs s := by
  obtain rfl : g = s.heap.get? := funext h
  rfl
/-- a property's getter -/
def getterOf (K : PySem.W.Frag) (p : Addr) : Addr := match PySem.W.recIn K p "property" with
  | some (.ref g :: _) => g
  | _ => 0
def propB (K : PySem.W.Frag) (C : Addr) (f : Str) : Bool := He.eqO (PySem.W.findIn K (.ref C) f) (some (some (.ref (He.ma K C f)))) && (He.eqO (PySem.W.specialIn K (.ref (He.ma K C f)) "__get__") (some (some (.builtin "property.__get__"))) &&
  (decide (PySem.W.takesIn K (.ref (He.ma K C f)) = some true) && (match PySem.W.recIn K (He.ma K C f) "property" with
    | some (.ref _ :: _) => true
    | _ => false)))
theorem propB_ok {K : PySem.W.Frag} {C : Addr} {f : Str} (h : propB K C f = true) : PropOf K C f (He.ma K C f) (getterOf K (He.ma K C f)) := by
  obtain ⟨h1, h⟩ := He.ba h
  obtain ⟨h2, h⟩ := He.ba h
  obtain ⟨h3, h4⟩ := He.ba h
  refine ⟨He.eqO_ok h1, He.eqO_ok h2, of_decide_eq_true h3, ?_⟩
  unfold getterOf
  split at h4
  · rename_i g rest e
    exact ⟨rest, by rw [e]⟩
  · cases h4
theorem only_nt {H : Hp} (h : Only H) : ∀ a o, H a = some o → NoT o := fun a o e ps z => by
  rcases h a with y | ⟨ob, xs, y⟩
  · rw [y] at e; cases e
  · rw [y] at e
    rw [← Option.some.inj e] at z
    cases z
end Q
namespace Q
open PySem PySem.Spec PyProof.Rows L2
/-! ### a caught exception that is kept behind its suite -/
/-- at a: an exception of the class cls, its dict d -/
def ExK (cls : Value) (d : Option Addr) (a : Addr) : HO := .ext fun h => ∃ (oe : Obj) (vs : Array Value), h.get? a = some oe ∧ Zc cls d oe ∧ oe.data = .fields vs
theorem exK_nt {cls : Value} {d : Option Addr} {a : Addr} : NoT (ExK cls d a) := fun ps z => by
  have y : HO.ext _ = HO.tbl ps := z
  cases y
section
variable {X : Cx} {pins : List (Addr × Obj)} {σ : L2.St} {H : Hp} {s : Shared} {a : Addr} {oe : Obj} {cls : Value} {d : Option Addr}
theorem exK_at (I : Inv X pins σ H s) (e : H a = some (ExK cls d a)) : ∃ (oe : Obj) (vs : Array Value), s.heap.get? a = some oe ∧ Zc cls d oe ∧ oe.data = .fields vs := by
  have x : ObjOk X.prog X.w H s.heap a (.ext fun h => ∃ (oe : Obj) (vs : Array Value), h.get? a = some oe ∧ Zc cls d oe ∧ oe.data = .fields vs) := I.hok a _ e
  exact x.1
/-- a pinned exception is told from now on -/
theorem track_exc {vs : Array Value} (I : Inv X ((a, oe) :: pins) σ H s) (hz : Zc cls d oe) (hd : oe.data = .fields vs) (far : ∀ o, X.s_0.heap.get? a = some o → X.H_0 a = none → a ∉ X.ex → False) (apart : ∀ p ∈ X.pn ++ pins, p.1 ≠ a) :
    Inv X pins σ (upd H a (ExK cls d a)) s := by
  obtain ⟨here, fresh, offL, _, _⟩ := I.pin (a, oe) (List.mem_append_right _ List.mem_cons_self)
  have told : ∀ {b : Addr} {u : HO}, H b = some u → b ≠ a := fun {b u} z y => by
    rw [y, fresh] at z
    cases z
  have cells : ∀ y c, X.env.cells.lookup y = some c → c ≠ a := fun y c z y2 => by
    obtain ⟨v, o, ho, hv⟩ := I.cell y c z
    rw [y2] at ho
    obtain rfl := Option.some.inj (ho.symm.trans here)
    rw [hd] at hv
    cases hv
  have bs : Un X.fs X.ex X.H_0 (upd H a (ExK cls d a)) X.s_0.heap s.heap := by
    refine ⟨I.base.keep, I.base.slot, fun b o z n nx => ?_, I.base.there, fun b xs z => ?_, fun b o u z => ?_, fun b ps z => ?_⟩
    · by_cases y : b = a
      · rw [y] at z n nx
        exact (far o z n nx).elim
      · rw [upd_ne y]
        exact I.base.free b o z n nx
    · have t := I.base.tups b xs z
      rw [upd_ne (told t)]
      exact t
    · have t := I.base.frzs b o u z
      rw [upd_ne (told t)]
      exact t
    · obtain ⟨more, t⟩ := I.base.tbls b ps z
      refine ⟨more, ?_⟩
      rw [upd_ne (told t)]
      exact t
  refine ⟨I.ok, I.os, I.bare, bs, I.loc, I.cell, ?_, fun y c z => ?_, fun p hp => ?_, fun b u z => ?_, I.len⟩
  · rw [upd_ne offL.symm]
    exact I.free
  · rw [upd_ne (cells y c z)]
    exact I.freeC y c z
  · have hp2 : p ∈ X.pn ++ ((a, oe) :: pins) := by
      rcases List.mem_append.mp hp with q | q
      · exact List.mem_append_left _ q
      · exact List.mem_append_right _ (List.mem_cons_of_mem _ q)
    obtain ⟨q1, q2, q3⟩ := I.pin p hp2
    exact ⟨q1, by rw [upd_ne (apart p hp)]; exact q2, q3⟩
  · by_cases y : b = a
    · rw [y, upd_same] at z
      rw [y, ← Option.some.inj z]
      refine ⟨⟨oe, vs, here, hz, hd⟩, ⟨oe, here⟩, fun h1 h2 q k => ?_⟩
      obtain ⟨o2, v2, r1, r2⟩ := q
      exact ⟨o2, v2, k _ r1, r2⟩
    · rw [upd_ne y] at z
      refine (I.hok b u z).stay (fun c v _ q => q) (fun c q => ?_) fun c xs q => ?_
      · rw [upd_ne (told q)]
        exact q
      · rw [upd_ne (told q)]
        exact q
/-- back from the suite, the exception still pinned -/
theorem suite_pin {pn' : List (Addr × Obj)} (I : Inv (X.suite a ((a, oe) :: (X.pn ++ pins))) pn' σ H s) (ok : X.Ok) : Inv X ((a, oe) :: pins) σ H s := by
  refine ⟨ok, I.os, I.bare, I.base, I.loc, I.cell, I.free, I.freeC, fun p hp => I.pin p (List.mem_append_left _ ?_), I.hok, I.len⟩
  rcases List.mem_append.mp hp with q | q
  · exact List.mem_cons_of_mem _ (List.mem_append_left _ q)
  · rcases List.mem_cons.mp q with r | r
    · rw [r]
      exact List.mem_cons_self
    · exact List.mem_cons_of_mem _ (List.mem_append_right _ r)
end
/-- what a clause that takes every exception of the body wishes of it; behind the suite the exception is told -/
def wKeep (K : PySem.W.Frag) (c : Value) (i m : Nat) (ts : Addr → Value → Option Addr → TS) (D : Ends) : WX := fun cls d σ H => PySem.W.exmOne K cls c = some true ∧ ∀ a, H a = none → σ.length = m →
  ts a cls d { nx := fun τ G => D.nx (τ.set i none) (upd G a (ExK cls d a)), rt := fun v G => D.rt v (upd G a (ExK cls d a)), bk := fun τ G => D.bk (τ.set i none) (upd G a (ExK cls d a)), ct := fun τ G => D.ct (τ.set i none) (upd G a (ExK cls d a)) } (σ.set i (some (.ref a))) H
section
variable {X : Cx} {x n : Str} {c : Value} {i : Nat} {body rest : List Stmt} {first : Stmt} {np tp hp : Pos} {tb : WX → TS} {ts : Addr → Value → Option Addr → TS}
theorem ps_try_keep (hst : X.stack = X.env :: X.outer) (hfr : X.env.frame = some X.env.locals) (hN : X.N.Nodup) (hi : X.N[i]? = some n) (hln : X.env.kindOf n = some .local) (hc : Names X x c)
    (hb : ∀ (W : WX) (pn : List (Addr × Obj)) (xe : Value → Shared → Prop), Takes (X.tr pn xe) W → PassesOwn (model X.prog X.w) X.A X.env xe → PSs (X.tr pn xe) body (tb W))
    (hs : ∀ (a : Addr) (oe : Obj) (cls : Value) (d : Option Addr) (pn : List (Addr × Obj)), Zc cls d oe → (∃ vs, oe.data = .fields vs) → PSs (X.suite a ((a, oe) :: pn)) (first :: rest) (ts a cls d)) :
    PS X (.Try body [.ExceptHandler (some (.Name x np)) (some n) (first :: rest) hp] [] [] tp) (fun D σ H => tb (wKeep X.K c i X.N.length ts D) D σ H) := by
  refine ⟨fun pins s σ H D I0 h0 => ?_⟩
  have hok := I0.ok
  have frames : X.A.frames = some (X.env :: X.outer) := by
    rw [hok.frames, hst]
  let clause : List ExceptHandler := [.ExceptHandler (some (.Name x np)) (some n) (first :: rest) hp]
  let caught : Value → Shared → Prop := fun e t => wpAny (model X.prog X.w) X.A (noteFrame e X.env) (fun _ t2 => wpAny (model X.prog X.w) X.A (setFlight e none)
    (fun _ t3 => wpAny (model X.prog X.w) X.A (handleBy e X.env clause) (SP X pins D) X.xe t3) X.xe t2) X.xe t
  refine wpAny_Try_except ?_
  have catches : Takes (X.tr (X.pn ++ pins) caught) (wKeep X.K c i X.N.length ts D) := by
    rintro u t ⟨a, B, sI, pins1, σ1, H1, cls, d, rfl, J0, ground, up, sky, na, os, ag, takes, suite⟩
    have J : Inv X pins σ1 H1 sI := J0.ofTry hok
    have air : Sky B (X.env :: X.outer) a (Zc cls d) X.env.locals t.heap := by
      rw [← hst]
      exact sky
    show wpAny (model X.prog X.w) X.A (noteFrame (.ref a) X.env) _ _ t
    refine Sky.land Zc.steady frames hfr air fun h3 fl3 up3 => ?_
    have J3 : Inv X pins σ1 H1 { t with heap := h3 } := J.landed ground fl3.1 (up.trans up3) os ag
    obtain ⟨oe3, vs3, at3, z3, d3⟩ := fl3.there
    have offF : a ∉ frs (X.env :: X.outer) := fun hm => by
      obtain ⟨_, o2, e2, nf⟩ := fl3.2.2.1.mem hm
      obtain rfl := Option.some.inj (at3.symm.trans e2)
      exact nf _ d3
    have offL : a ≠ X.env.locals := fun z => by
      refine offF (List.mem_filterMap.mpr ⟨X.env, List.mem_cons_self, ?_⟩)
      rw [hfr, z]
    have offO : a ∉ X.fs := fun hm => by
      obtain ⟨e, he, q⟩ := List.mem_filterMap.mp hm
      exact offF (List.mem_filterMap.mpr ⟨e, List.mem_cons_of_mem _ he, q⟩)
    have offS : a ∉ frs X.stack := by
      rw [hst]
      exact offF
    have gone : ∀ o, sI.heap.get? a = some o → False := fun o z => by
      have y := ground a o z offS
      rw [fl3.2.1] at y
      cases y
    have far : ∀ o, X.s_0.heap.get? a = some o → X.H_0 a = none → a ∉ X.ex → False := fun o z n nx => gone o (J.base.keep a o z n offO nx)
    have apart : ∀ p ∈ X.pn ++ pins, p.1 ≠ a := fun p hp z => by
      have y := (J.pin p hp).1
      rw [z] at y
      exact gone _ y
    have S3 := J3.suite at3 d3 na offL offO
    refine wpAny_handleBy_cons (codeAny_handlers_test ?_) (by intro q; cases q)
    have ty : PySem.W.Looks (model X.prog X.w) h3 (typeOf (.ref a)) cls := fun A Q E s k q => by
      refine wpAny_typeOf_ref (k _ _ at3) ?_
      rw [z3.1]
      exact q
    have match_ := PySem.W.exm_one (M := model X.prog X.w) J3.kIn ty takes
    have named : ∀ {Q E : Value → Shared → Prop}, Q c { t with heap := h3 } → wpAny (model X.prog X.w) (X.A.mark (some (.ref a))) (eval (.Name x np) X.env) Q E { t with heap := h3 } := by
      intro Q E q
      obtain ⟨hg, hdbg, y⟩ := hc
      rcases y with hm | ⟨hm, hv, hnn⟩
      · exact ld_glob (X := X.suite a ((a, oe3) :: (X.pn ++ pins))) S3 hg hm q hdbg
      · exact ld_blt (X := X.suite a ((a, oe3) :: (X.pn ++ pins))) S3 hg hm hv q hnn hdbg
    refine named (match_.here (codeAny_handlers_suite_as ?_))
    refine HandSPX.lands_againZ fl3 fun h4 fl4 up4 => ?_
    have J4 : Inv X pins σ1 H1 { t with heap := h4 } := J.landed ground fl4.1 ((up.trans up3).trans up4) os ag
    obtain ⟨oe4, vs4, at4, z4, d4⟩ := fl4.there
    have S4 := J4.suite at4 d4 na offL offO
    refine store_ok (X := X.suite a ((a, oe4) :: (X.pn ++ pins))) (v := .ref a) S4 hN hi (.inl hln) rfl (fun s5 S5 => ?_) (.inr hln)
    have go := (hs a oe4 cls d (X.pn ++ pins) z4 ⟨_, d4⟩).run [] s5 _ H1 _ S5 (suite a na J.len)
    refine wpAny_mono go (fun f s6 done => ?_) fun _ _ z => z.elim
    have leave : ∀ {τ : L2.St} {G : Hp} {R : Shared → Prop}, Inv (X.suite a ((a, oe4) :: (X.pn ++ pins))) [] τ G s6 → (∀ s7, Inv X pins (τ.set i none) (upd G a (ExK cls d a)) s7 → R s7) →
        wpAny (model X.prog X.w) X.A (do bindName X.env n .none; unbindBehindTheSuite X.env n hp) (fun _ s7 => R s7) X.xe s6 := by
      intro τ G R S6 k
      exact gone_ok (suite_pin S6 hok) hN hi hln fun s7 J7 => k s7 (track_exc J7 z4 d4 far apart)
    match f, done with
    | .next, done =>
      obtain ⟨τ, G, S6, q⟩ := done
      exact leave S6 fun s7 J7 => ⟨_, _, J7, q⟩
    | .brk, done =>
      obtain ⟨τ, G, S6, q⟩ := done
      exact leave S6 fun s7 J7 => ⟨_, _, J7, q⟩
    | .cont, done =>
      obtain ⟨τ, G, S6, q⟩ := done
      exact leave S6 fun s7 J7 => ⟨_, _, J7, q⟩
    | .ret u, done =>
      obtain ⟨v, τ, G, S6, r, q⟩ := done
      exact leave S6 fun s7 J7 => ⟨_, _, _, J7, r, q⟩
  have go := (hb (wKeep X.K c i X.N.length ts D) (X.pn ++ pins) caught catches PassesOwn.looking).run [] s σ H D (I0.toTry _) h0
  refine wpAny_mono go (fun f s1 done => ?_) fun e s1 z => z
  match f, done with
  | .next, done =>
    obtain ⟨τ, G, J1, q⟩ := done
    exact wpAny_execs_nil ⟨τ, G, J1.ofTry hok, q⟩
  | .brk, done =>
    obtain ⟨τ, G, J1, q⟩ := done
    exact ⟨τ, G, J1.ofTry hok, q⟩
  | .cont, done =>
    obtain ⟨τ, G, J1, q⟩ := done
    exact ⟨τ, G, J1.ofTry hok, q⟩
  | .ret u, done =>
    obtain ⟨v, τ, G, J1, r, q⟩ := done
    exact ⟨v, τ, G, J1.ofTry hok, r, q⟩
end
end Q
namespace Q
open PySem PySem.Spec PyProof.Rows L2
/-! ### a kept exception is read, its class asked -/
/-- e.f of an exception | of an instance -/
def FldX (K : PySem.W.Frag) (f : Str) (x : V) (H : Hp) (Q : VK) : Prop := ∃ (a C dd : Addr) (fs : List (Str × V)) (v : V), x = .ref a ∧ H a = some (ExK (.ref C) (some dd) a) ∧ H dd = some (.xd fs) ∧ XfC K C ∧ PySem.W.findIn K (.ref C) f = some none ∧ fs.lookup f = some v ∧ Q v H
def tFldX (K : PySem.W.Frag) (f : Str) (te : TE) : TE := fun σ H Q => te σ H fun x H1 => FldX K f x H1 Q
theorem pe_xv {X : Cx} {e : Expr} {te : TE} {pos : Pos} {f : Str} (he : PE X e te) (hb : attributeBase e f X.env (eval e X.env) = eval e X.env := by rfl) : PE X (.Attribute e f pos) (tFldX X.K f te) := by
  refine ⟨fun pins s σ H Q I h => ?_⟩
  refine attr_of hb (thn (he.run pins s σ H _ I h) fun u s1 told => ?_)
  obtain ⟨x, H1, I1, rx, a, C, dd, fs, v, ex, ea, ed, T, no, l, q⟩ := told
  subst ex
  obtain rfl : u = Value.ref a := rx
  obtain ⟨oe, vs, here, z, hd⟩ := exK_at I1 ea
  obtain ⟨mA, names, rel⟩ := (show ObjOk X.prog X.w H1 s1.heap dd (.xd fs) from I1.hok dd _ ed)
  obtain ⟨od, ho, looks⟩ := lookIn_ns names
  obtain ⟨u, hu, ru⟩ := RelO.some_of (v := v) (o := mA f) (by rw [← l]; exact rel f)
  have J : PySem.W.InstAt s1.heap a oe C (some od) := by
    refine ⟨here, z.1, ?_, ?_⟩
    · unfold PySem.W.notCls
      rw [hd] <;> rfl
    · rw [z.2]
      exact ho
  refine HandSPX.exc_get I1.kIn J T.ga T.gg T.exC (PySem.W.findObj_own T.hdC no rfl ?_) (handed_of ru) ⟨v, H1, I1.tok _, ru, q⟩
  rw [looks, hu]
section
variable {K : PySem.W.Frag} {f : Str} {te : TE} {σ : L2.St} {H : Hp} {Qv : VK} {a C dd : Addr} {fs : List (Str × V)} {v : V}
theorem r_tFldX (q : te σ H fun x H1 => FldX K f x H1 Qv) : tFldX K f te σ H Qv := q
theorem r_fldX (h : H a = some (ExK (.ref C) (some dd) a)) (hd : H dd = some (.xd fs)) (T : XfC K C) (n : PySem.W.findIn K (.ref C) f = some none) (l : fs.lookup f = some v) (q : Qv v H) : FldX K f (.ref a) H Qv := ⟨a, C, dd, fs, v, rfl, h, hd, T, n, l, q⟩
end
/-- isinstance of a kept exception -/
def rIsK (K : PySem.W.Frag) : List V → Hp → VK → Prop := fun xs H Q => ∃ (a C : Addr) (d : Option Addr) (c : V) (cv : Value) (b : Bool), xs = [.ref a, c] ∧ H a = some (ExK (.ref C) d a) ∧ (∀ dd, d = some dd → ∃ fs, H dd = some (.xd fs)) ∧ (∀ u, RelV c u → u = cv) ∧ ExcC K C ∧ PySem.W.kitOne K (.ref C) cv = some b ∧ Q (.bl b) H
theorem call_isK {X : Cx} : CallR X (.builtin "isinstance") (rIsK X.K) := by
  intro pins s σ H xs us Q I r h
  obtain ⟨a, C, d, c, cv, b, rfl, ea, dd, hcv, T, e, q⟩ := h
  obtain ⟨u1, u2, rfl, r1, r2⟩ := r.two
  cases (show u1 = Value.ref a from r1)
  obtain rfl := hcv _ r2
  obtain ⟨oe, vs, here, z, hd⟩ := exK_at I ea
  have nc : PySem.W.notCls oe = true := by
    unfold PySem.W.notCls
    rw [hd] <;> rfl
  have J : ∃ od, PySem.W.InstAt s.heap a oe C od := by
    cases d with
    | none => exact ⟨none, here, z.1, nc, by rw [z.2]; trivial⟩
    | some d0 =>
      obtain ⟨fs, ed⟩ := dd d0 rfl
      obtain ⟨mA, names, _⟩ := (show ObjOk X.prog X.w H s.heap d0 (.xd fs) from I.hok d0 _ ed)
      obtain ⟨od, ho, _⟩ := lookIn_ns names
      exact ⟨some od, here, z.1, nc, by rw [z.2]; exact ho⟩
  obtain ⟨od, J⟩ := J
  have hcl : (PySem.W.clsIn X.K C).isSome = true := by
    obtain ⟨cd, hc, _⟩ := PySem.W.any_some T.hd
    rw [hc]
    rfl
  exact PySem.W.kia_one (PySem.W.kitx_exc hcl T.hg T.hk T.hs T.ha T.hn T.ht T.hm) I.kIn J e (fun z => nomatch z) fun tk => ⟨.bl b, H, I.kept (t' := tk) fun _ _ z => z, rfl, q⟩
def rIsU (K : PySem.W.Frag) : List V → Hp → VK → Prop := fun xs H Q => rIsi K xs H Q ∨ rIsK K xs H Q
theorem q_isi {X : Cx} : CallR X (.builtin "isinstance") (rIsU X.K) := cr_or call_isi call_isK
section
variable {K : PySem.W.Frag} {H : Hp} {a C D dd : Addr} {fs : List (Str × V)} {b : Bool} {Qv : VK}
theorem r_isuK (h : H a = some (ExK (.ref C) (some dd) a)) (hd : H dd = some (.xd fs)) (T : ExcC K C) (e : PySem.W.kitOne K (.ref C) (.ref D) = some b) (q : Qv (.bl b) H) : rIsU K [.ref a, .ref D] H Qv :=
  .inr ⟨a, C, some dd, .ref D, .ref D, b, rfl, h, fun d0 z => ⟨fs, by rw [← Option.some.inj z]; exact hd⟩, fun _ z => z, T, e, q⟩
theorem r_isuT {n : String} (h : H a = some (ExK (.ref C) (some dd) a)) (hd : H dd = some (.xd fs)) (T : ExcC K C) (e : PySem.W.kitOne K (.ref C) (.type n) = some b) (q : Qv (.bl b) H) : rIsU K [.ref a, .ty n] H Qv :=
  .inr ⟨a, C, some dd, .ty n, .type n, b, rfl, h, fun d0 z => ⟨fs, by rw [← Option.some.inj z]; exact hd⟩, fun _ z => z, T, e, q⟩
theorem r_isuN (e : PySem.W.kitOne K (.type "NoneType") (.ref D) = some b) (q : Qv (.bl b) H) : rIsU K [.non, .ref D] H Qv := .inl (r_isiC (.base .non) e q)
end
/-! ### an error of one's own raised -/
structure ErD (P : Program) (w : World) (K : PySem.W.Frag) (mg : Str → Option Value) (base : Heap) (x : Str) (C : Addr) (sp : Sp) : Prop where
  ex : ∃ (fI : Addr) (fd : FuncData) (ps : List Str), OexC K C ∧ PySem.W.findIn K (.ref C) "__init__" = some (some (.ref fI)) ∧ PySem.W.typeIn K (.ref fI) = some (.type "function") ∧ mg x = some (.ref C) ∧ Binds K fd ps [] ∧ FnOk P w K mg base CX0 1 fI fd ps sp
def tRaise (C : Addr) (sp : Sp) (ta : TA) (W : WX) : TS := fun _ σ H => tMkO C sp [] ta σ H fun cls d H' => W cls d σ H'
section
variable {X : Cx} {W : WX} {j : Nat} {C : Addr} {sp : Sp} {x : Str} {e : Expr} {es : List Expr} {ta : TA} {p pos pos2 : Pos}
theorem ps_raiseD (hc : X.calm = true) (tk : Takes X W) (D : ErD X.prog X.w X.K X.mg X.base x C sp) (hr : Room j X.A) (ha : PA X (e :: es) ta) (hj : 2 ≤ j := by decide) (hg : Gl X x := by rfl)
    (hdb : (x == ("__debug__" : Str)) = false := by decide) (he : starEach (e :: es) X.env = (false, eval e X.env) :: starEach es X.env := by rfl) (hpl : (backTo pos (starEach es X.env)).any (·.1) = false := by rfl) :
    PS X (.Raise (some (.Call (.Name x p) (e :: es) [] pos)) none pos2) (tRaise C sp ta W) := by
  obtain ⟨fI, fd, ps, h1, h2, h3, h4, h5, h6⟩ := D.ex
  exact ps_raise hc tk (pmk_oex (dvs := []) (ds := []) h1 h2 h3 h6 (hr.mono hj) h5 .nil pass0 hg h4 ha hdb he hpl)
end
def MkOGo (C : Addr) (sp : Sp) (vs : List V) (H : Hp) (Q : XK) : Prop := vs.length ≤ 1000 ∧ ∀ a, H a = none → sp (.ref a :: (vs ++ [])) (upd H a (exo a C none))
  (fun v H2 => v = .non ∧ ∃ (d : Addr) (fs : List (Str × V)), H2 a = some (exo a C (some d)) ∧ H2 d = some (exd d fs) ∧ H d = none ∧ Q (.ref C) (some d) (upd (L2.del H2 a) d (.xd fs))) (fun _ _ _ => False)
theorem r_tRaise {C : Addr} {sp : Sp} {ta : TA} {W : WX} {D : Ends} {σ : L2.St} {H : Hp} (q : ta σ H fun vs H1 => MkOGo C sp vs H1 fun cls d H' => W cls d σ H') : tRaise C sp ta W D σ H := q
def spErr1 (C : Addr) (f : Str) : Sp := fun vs H Q _ => ∃ (a : Addr) (v : V), vs = [.ref a, v] ∧ H a = some (exo a C none) ∧ ∀ dx, H dx = none → dx ≠ a → Q .non (upd (upd H dx (exd dx [(f, v)])) a (exo a C (some dx)))
def spErr2 (C : Addr) (f g : Str) : Sp := fun vs H Q _ => ∃ (a : Addr) (v u : V), vs = [.ref a, v, u] ∧ H a = some (exo a C none) ∧ ∀ dx, H dx = none → dx ≠ a → Q .non (upd (upd (upd H dx (exd dx [(f, v)])) a (exo a C (some dx))) dx (exd dx [(g, u), (f, v)]))
theorem heap_left {H : Hp} {a dx : Addr} {o u x : HO} (ha : H a = none) (ne : dx ≠ a) : upd (L2.del (upd (upd (upd H a o) dx u) a o) a) dx x = upd H dx x := by
  funext b
  by_cases h1 : b = dx
  · rw [h1, upd_same, upd_same]
  · rw [upd_ne h1, upd_ne h1]
    by_cases h2 : b = a
    · rw [h2, del_same, ha]
    · rw [del_ne h2, upd_ne h2, upd_ne h1, upd_ne h2]
theorem heap_left' {H : Hp} {a dx : Addr} {o o' u u' x : HO} (ha : H a = none) (ne : dx ≠ a) : upd (L2.del (upd (upd (upd (upd H a o) dx u) a o') dx u') a) dx x = upd H dx x := by
  funext b
  by_cases h1 : b = dx
  · rw [h1, upd_same, upd_same]
  · rw [upd_ne h1, upd_ne h1]
    by_cases h2 : b = a
    · rw [h2, del_same, ha]
    · rw [del_ne h2, upd_ne h1, upd_ne h2, upd_ne h1, upd_ne h2]
section
variable {e : En} {G H : Hp} {M : List Addr} {C : Addr} {f g : Str} {v u : V} {Q : XK}
theorem u_raise1 (w : Wd e G H M) (k : ∀ d G' H', Wd e G' H' M → Same G G' → Same H H' → G' d = some (.xd [(f, v)]) → Q (.ref C) (some d) H') : MkOGo C (spErr1 C f) [v] H Q := by
  refine ⟨Nat.le_of_ble_eq_true rfl, fun a ha => ⟨a, v, rfl, upd_same, fun dx hd ne => ⟨rfl, dx, [(f, v)], upd_same, ?_, ?_, ?_⟩⟩⟩
  · rw [upd_ne ne, upd_same]
  · rw [upd_ne ne] at hd
    exact hd
  · rw [upd_ne ne] at hd
    have z : upd (L2.del (upd (upd (upd H a (exo a C none)) dx (exd dx [(f, v)])) a (exo a C (some dx))) a) dx (.xd [(f, v)]) = upd H dx (.xd [(f, v)]) := by
      funext b
      by_cases h1 : b = dx
      · rw [h1, upd_same, upd_same]
      · rw [upd_ne h1, upd_ne h1]
        by_cases h2 : b = a
        · rw [h2, del_same, ha]
        · rw [del_ne h2, upd_ne h2, upd_ne h1, upd_ne h2]
    rw [z]
    exact k dx _ _ (wd_lay w hd) (same_upd (w.g hd)) (same_upd hd) upd_same
theorem u_raise2 (w : Wd e G H M) (k : ∀ d G' H', Wd e G' H' M → Same G G' → Same H H' → G' d = some (.xd [(g, u), (f, v)]) → Q (.ref C) (some d) H') : MkOGo C (spErr2 C f g) [v, u] H Q := by
  refine ⟨Nat.le_of_ble_eq_true rfl, fun a ha => ⟨a, v, u, rfl, upd_same, fun dx hd ne => ⟨rfl, dx, [(g, u), (f, v)], ?_, upd_same, ?_, ?_⟩⟩⟩
  · rw [upd_ne ne.symm, upd_same]
  · rw [upd_ne ne] at hd
    exact hd
  · rw [upd_ne ne] at hd
    rw [heap_left' ha ne]
    exact k dx _ _ (wd_lay w hd) (same_upd (w.g hd)) (same_upd hd) upd_same
end
theorem r_ost1 {K : PySem.W.Frag} {f : Str} {to te : TE} {D : Ends} {σ : L2.St} {H : Hp} (q : te σ H fun y H1 => to σ H1 fun x H2 => ∃ a C : Addr, x = .ref a ∧ OexC K C ∧ PySem.W.findIn K (.ref C) f = some none ∧
  ((H2 a = some (exo a C none) ∧ ∀ dx, H2 dx = none → dx ≠ a → D.nx σ (upd (upd H2 dx (exd dx [(f, y)])) a (exo a C (some dx)))) ∨
    ∃ (dx : Addr) (fs : List (Str × V)), H2 a = some (exo a C (some dx)) ∧ H2 dx = some (exd dx fs) ∧ fs.length ≤ 900 ∧ D.nx σ (upd H2 dx (exd dx ((f, y) :: fs))))) : tOst K f to te D σ H := q
/-! ### defs that may raise -/
section
variable {P : Program} {w : World} {K : PySem.W.Frag} {mg : Str → Option Value} {base : Heap} {x qual : Str} {st : Stmt} {f : Addr} {fd : FuncData} {N ps : List Str} {k : Nat} {sp : Sp} {dvs : List V}
theorem fnP_okX (F : FnP K x qual st dvs f fd) (S : FnScope N ps (defScope st)) (len : ∀ vs H Q E, sp vs H Q E → vs.length = ps.length)
    (body : ∀ (cdv : Value) (A : Around) (outer : List Env) (s : Shared) (H : Hp) (vs : List V) (Q : VK) (E : XK), Room k (A.deeper (envOfC qual (defScope st) s.heap.objs.size f cdv)) → sp vs H Q E →
      ∃ t, PSs (cxOf (L2.CX P w) P w K mg base N qual (defScope st) f cdv A outer s H E) (defBody st) t ∧ t { nx := fun _ H' => Q .non H', rt := Q } (start N vs) H) :
    FnOk P w K mg base (L2.CX P w) (k + 1) f fd ps sp := FunD.ok F S len body
end
abbrev takesD {P : Program} {w : World} {K : PySem.W.Frag} {mg : Str → Option Value} {base : Heap} {N : List Str} {qual : Str} {sc : Scope} {f : Addr} {cdv : Value} {A : Around} {outer : List Env} {s : Shared} {H : Hp} {E : XK} :
    Takes (cxOf (L2.CX P w) P w K mg base N qual sc f cdv A outer s H E) (fun cls d _ H' => E cls d H') := takes_of rfl rfl rfl rfl
theorem passD {P : Program} {w : World} {K : PySem.W.Frag} {mg : Str → Option Value} {base : Heap} {N : List Str} {qual : Str} {sc : Scope} {f : Addr} {cdv : Value} {A : Around} {outer : List Env} {s : Shared} {H : Hp} {E : XK} :
    Passes (L2.CX P w) (cxOf (L2.CX P w) P w K mg base N qual sc f cdv A outer s H E) E := passes_call (W := fun cls d _ H' => E cls d H') (takes_of rfl rfl rfl rfl) fun _ _ _ _ h => h
theorem ok_err1 {P : Program} {w : World} {K : PySem.W.Frag} {mg : Str → Option Value} {base : Heap} {C : Addr} {qual fld : Str} {st : Stmt} {f : Addr} {fd : FuncData} (F : FnP K "__init__" qual st [] f fd) (S : FnScope [("self" : Str), fld] [("self" : Str), fld] (defScope st)) (T : OexC K C)
    (no : PySem.W.findIn K (.ref C) fld = some none)
    (body : ∀ X : Cx, X.N = [("self" : Str), fld] → X.env.scope = defScope st → PSs X (defBody st) (tOst X.K fld (tVar 0) (tVar 1))) : FnOk P w K mg base CX0 1 f fd [("self" : Str), fld] (spErr1 C fld) := by
  refine fnP_ok F S (fun vs H Q E h => ?_) (fun cdv A outer s H vs Q E hr h => ?_)
  · obtain ⟨a, v, rfl, _⟩ := h
    rfl
  · obtain ⟨a, v, rfl, ha, k⟩ := h
    refine ⟨_, body _ rfl rfl, ?_⟩
    exact ⟨v, rfl, .ref a, rfl, a, C, rfl, T, no, .inl ⟨ha, fun dx hd ne => k dx hd ne⟩⟩
theorem ok_err2 {P : Program} {w : World} {K : PySem.W.Frag} {mg : Str → Option Value} {base : Heap} {C : Addr} {qual fl1 fl2 : Str} {st : Stmt} {f : Addr} {fd : FuncData} (F : FnP K "__init__" qual st [] f fd) (S : FnScope [("self" : Str), fl1, fl2] [("self" : Str), fl1, fl2] (defScope st)) (T : OexC K C)
    (no1 : PySem.W.findIn K (.ref C) fl1 = some none) (no2 : PySem.W.findIn K (.ref C) fl2 = some none)
    (body : ∀ X : Cx, X.N = [("self" : Str), fl1, fl2] → X.env.scope = defScope st → PSs X (defBody st) (tSeq (tOst X.K fl1 (tVar 0) (tVar 1)) (tOst X.K fl2 (tVar 0) (tVar 2)))) : FnOk P w K mg base CX0 1 f fd [("self" : Str), fl1, fl2] (spErr2 C fl1 fl2) := by
  refine fnP_ok F S (fun vs H Q E h => ?_) (fun cdv A outer s H vs Q E hr h => ?_)
  · obtain ⟨a, v, u, rfl, _⟩ := h
    rfl
  · obtain ⟨a, v, u, rfl, ha, k⟩ := h
    refine ⟨_, body _ rfl rfl, ?_⟩
    refine ⟨v, rfl, .ref a, rfl, a, C, rfl, T, no1, .inl ⟨ha, fun dx hd ne => ?_⟩⟩
    refine ⟨u, rfl, .ref a, rfl, a, C, rfl, T, no2, .inr ⟨dx, [(fl1, v)], upd_same, ?_, Nat.le_of_ble_eq_true rfl, k dx hd ne⟩⟩
    rw [upd_ne ne, upd_same]
end Q
namespace Q
open PySem PySem.Spec PyProof.Rows L2
/-! ### a saying that may be refused -/
/-- the first wrong argument: the error's class, its field, the value -/
def sayFault (Cn Cm Cs : Addr) (x y z : V) : Option (Addr × Str × V) := if nameV x = true then (if momV y 0 = true then (if isB z = true then none else some (Cs, "value", z)) else some (Cm, "moment", y)) else some (Cn, "name", x)
def spSayX (K : PySem.W.Frag) (C Cn Cm Cs : Addr) : Sp := fun vs H Q E => ∃ (G : Hp) (a dx : Addr) (x y z : V) (tx ty tz : Value), vs = [.ref a, x, y, z] ∧ Gh G H ∧ G a = none ∧ H a = some (.ins C dx []) ∧ Kd K G x tx ∧ Kd K G y ty ∧ Kd K G z tz ∧
  (∀ s, x = .str s → s.length ≤ 1000000) ∧
  (∀ cls f v, sayFault Cn Cm Cs x y z = some (cls, f, v) → ∀ (G' H' : Hp) (d : Addr), But a H H' → (∃ o, H' a = some o ∧ plainB o = true) → Gh G' H' → Same G G' → (∀ b, H b ≠ none → G' b = G b) → G' d = some (.xd [(f, v)]) → E (.ref cls) (some d) H') ∧
  (∀ s i b, x = .str s → y = .int i → z = .bl b → Right s i → ∀ (G' H' : Hp) (fc : Addr), But a H H' → Gh G' H' → Same G G' → (∀ b, H b ≠ none → G' b = G b) → G' fc = some (.tup [.str s, .int i, .bl b]) →
    H' a = some (.ins C dx [("tool", .str s), ("moment", .int i), ("is_sound", .bl b), ("face", .ref fc)]) → Q .non H')
theorem wd_made {e : En} {G1 H1 G2 H2 : Hp} {M : List Addr} {x : Addr} {o : HO} (w1 : Wd e G1 H1 (x :: M)) (b2 : But x H1 H2) (h2 : H2 x = some o) (no : plainB o = true) (s2 : Gh G2 H2) (s3 : Same G1 G2) (fr : ∀ a, H1 a ≠ none → G2 a = G1 a) : Wd e G2 H2 (x :: M) := by
  have w3 := wd_but w1 List.mem_cons_self b2 h2 no
  refine ⟨s2.1, fun a ha => ?_, w1.nd, w3.dom, fun a o h => s3 _ _ (w1.gr _ _ h), fun a ha => by rw [fr a (w1.dom a ha)]; exact w1.fr a ha, w3.kp, s2.2, w3.mt, w3.tb⟩
  obtain ⟨g1, ⟨o, g2⟩, g3⟩ := w1.mu a ha
  obtain ⟨_, g4, _⟩ := w3.mu a ha
  exact ⟨by rw [fr a (some_ne g2)]; exact g1, g4, g3⟩
theorem u_sayX {K : PySem.W.Frag} {C Cn Cm Cs : Addr} {e : En} {G H : Hp} {M : List Addr} {x y z : V} {tx ty tz : Value} {Qv : VK} {E : XK} (w : Wd e G H M) (kx : Kd K G x tx) (ky : Kd K G y ty) (kz : Kd K G z tz) (hs : ∀ s, x = .str s → s.length ≤ 1000000)
    (bad : ∀ cls f v, sayFault Cn Cm Cs x y z = some (cls, f, v) → ∀ d G' H', Wd e G' H' M → Same G G' → Same H H' → G' d = some (.xd [(f, v)]) → E (.ref cls) (some d) H')
    (good : ∀ s i b, x = .str s → y = .int i → z = .bl b → Right s i → ∀ a G' H', Wd e G' H' M → Same G G' → Same H H' → SayAt C G' a s i b → Qv (.ref a) H') : MakeGo C (spSayX K C Cn Cm Cs) [x, y, z] E H Qv := by
  refine make_go w fun a dx G1 H1 hx nm s1 t1 w1 h1 n0 => ?_
  have keeps : ∀ {H2 : Hp}, But a H1 H2 → Same H H2 := fun {H2} b2 c o h => by
    refine b2 c o (fun q => ?_) (t1 _ _ h)
    subst q
    rw [hx] at h
    cases h
  refine ⟨G1, a, dx, x, y, z, tx, ty, tz, rfl, w1.gh, (w1.mu a List.mem_cons_self).1, h1, kx.same s1, ky.same s1, kz.same s1, hs, fun cls f v hf G2 H2 d b2 hh s2 s3 fr hd => ?_, fun s i b e1 e2 e3 r G2 H2 fc b2 s2 s3 fr hf h2 => ⟨rfl, ?_⟩⟩
  · obtain ⟨o, h2, no⟩ := hh
    have w2 := wd_made w1 b2 h2 no s2 s3 fr
    exact bad cls f v hf d G2 H2 (wd_drop w2 (List.sublist_cons_self _ _)) (s1.trans s3) (keeps b2) hd
  · have w2 := wd_made w1 b2 h2 rfl s2 s3 fr
    obtain ⟨w4, s4⟩ := wd_freeze w2 h2 n0
    exact good s i b e1 e2 e3 r a _ H2 w4 (s1.trans (s3.trans s4)) (keeps b2) ⟨r, dx, fc, upd_same, s4 _ _ hf⟩
theorem fault_n {Cn Cm Cs : Addr} {x y z : V} (h : nameV x = false) : sayFault Cn Cm Cs x y z = some (Cn, ("name" : Str), x) := by
  unfold sayFault
  rw [h] <;> rfl
theorem fault_m {Cn Cm Cs : Addr} {x y z : V} (h : nameV x = true) (h2 : momV y 0 = false) : sayFault Cn Cm Cs x y z = some (Cm, ("moment" : Str), y) := by
  unfold sayFault
  rw [h, h2] <;> rfl
theorem fault_s {Cn Cm Cs : Addr} {x y z : V} (h : nameV x = true) (h2 : momV y 0 = true) (h3 : isB z = false) : sayFault Cn Cm Cs x y z = some (Cs, ("value" : Str), z) := by
  unfold sayFault
  rw [h, h2, h3] <;> rfl
theorem name_str {x : V} (h : nameV x = true) : ∃ s, x = .str s ∧ nmOk s = true := by
  cases x with
  | str s => exact ⟨s, rfl, h⟩
  | _ => cases h
theorem mom_int {x : V} (h : momV x 0 = true) : ∃ i, x = .int i ∧ 0 ≤ i ∧ i ≤ 1000000000000000000000000000000 := by
  cases x with
  | int i =>
    have e : (decide (0 ≤ i) && decide (i ≤ 1000000000000000000000000000000)) = true := h
    rw [Bool.and_eq_true] at e
    exact ⟨i, rfl, of_decide_eq_true e.1, of_decide_eq_true e.2⟩
  | _ => cases h
theorem bl_of {x : V} (h : isB x = true) : ∃ b, x = .bl b := by
  cases x with
  | bl b => exact ⟨b, rfl⟩
  | _ => cases h
end Q
namespace Q
open PySem PySem.Spec PyProof.Rows L2
/-! ### names that a law draws -/
theorem app_list (a b : Str) : (a ++ b).cps.toList = a.cps.toList ++ b.cps.toList := by
  show (a.cps ++ b.cps).toList = _
  simp
theorem len_list (a : Str) : a.length = a.cps.toList.length := by simp [Str.length]
/-- a letter, then letters and figures, m at most -/
def NmPre (z : Str) (m : Nat) : Prop := ∃ c r, z.cps.toList = c :: r ∧ letB c = true ∧ (∀ d ∈ r, (letB d || figB d) = true) ∧ z.length ≤ m
abbrev zBoth : Str := zLetters ++ zFigures
theorem sign_of {c : Nat} (h : c ∈ zBoth.cps.toList) : (letB c || figB c) = true := by
  rw [app_list] at h
  rcases List.mem_append.mp h with h | h
  · have e : letB c = true := decide_eq_true h
    rw [e] <;> rfl
  · have e : figB c = true := decide_eq_true h
    rw [e, Bool.or_true]
theorem NmPre.one {c : Nat} (h : c ∈ zLetters.cps.toList) : NmPre ⟨#[c]⟩ 1 := ⟨c, [], rfl, decide_eq_true h, fun _ h => (by cases h), Nat.le_refl _⟩
theorem NmPre.add {z : Str} {m : Nat} {c : Nat} (h : NmPre z m) (hc : c ∈ zBoth.cps.toList) : NmPre (z ++ ⟨#[c]⟩) (m + 1) := by
  obtain ⟨a, r, e1, e2, e3, e4⟩ := h
  refine ⟨a, r ++ [c], ?_, e2, fun d hd => ?_, ?_⟩
  · rw [app_list, e1]
    rfl
  · rcases List.mem_append.mp hd with hd | hd
    · exact e3 d hd
    · rw [List.mem_singleton.mp hd]
      exact sign_of hc
  · rw [Str.length_append]
    exact Nat.add_le_add_right e4 1
theorem NmPre.more {z : Str} {m k : Nat} (h : NmPre z m) (hk : m ≤ k) : NmPre z k := by
  obtain ⟨a, r, e1, e2, e3, e4⟩ := h
  exact ⟨a, r, e1, e2, e3, Nat.le_trans e4 hk⟩
theorem NmPre.ok {z : Str} (h : NmPre z 8) (n : inV (.str z) resV = false) : nmOk z = true := by
  obtain ⟨a, r, e1, e2, e3, e4⟩ := h
  have l1 : 1 ≤ z.length := by
    rw [len_list, e1]
    simp
  unfold nmOk
  rw [n, decide_eq_true l1, decide_eq_true e4, e1]
  have all : (a :: r).all (fun c => letB c || figB c) = true := by
    rw [List.all_cons, e2, Bool.true_or, Bool.true_and]
    exact List.all_eq_true.mpr e3
  rw [all]
  show (true && true && (!false && (letB a && true))) = true
  rw [e2]
  rfl
theorem cut1 {z : Str} {c : Nat} {r : List Nat} (h : z.cps.toList = c :: r) : (cutS z (some 1) none).cps.toList = r := by
  have l : z.length = r.length + 1 := by
    rw [len_list, h]
    simp
  unfold cutS
  rw [h]
  have s1 : HT.sIx z.length 0 (some 1) = 1 := by
    have := HT.sIx_nat z.length 0 1
    rw [show (some (1 : Int)) = some ((1 : Nat) : Int) from rfl, this]
    omega
  rw [s1, HT.sIx_none, l]
  simp
theorem x_free {z : Str} {r : List Nat} (h : z.cps.toList = 120 :: r) : inV (.str z) resV = false := by
  unfold inV
  rw [List.any_eq_false]
  intro y hy
  obtain ⟨s, hs, rfl⟩ := List.mem_map.mp hy
  have no : ∀ s ∈ resS, s.cps.toList.head? ≠ some 120 := by decide
  show ¬ (s == z) = true
  intro e
  have e2 : s = z := eq_of_beq e
  have n := no s hs
  rw [e2, h] at n
  exact n rfl
theorem NmPre.x {z : Str} (h : NmPre z 8) : nmOk (Str.ofString "x" ++ cutS z (some 1) none) = true := by
  obtain ⟨a, r, e1, e2, e3, e4⟩ := h
  have hx : (Str.ofString "x" ++ cutS z (some 1) none).cps.toList = 120 :: r := by
    rw [app_list, cut1 e1]
    rfl
  have lz : z.length = r.length + 1 := by
    rw [len_list, e1]
    simp
  refine NmPre.ok ⟨120, r, hx, by decide, e3, ?_⟩ (x_free hx)
  rw [len_list, hx]
  simp
  omega
def spWords (K : PySem.W.Frag) : Sp := fun vs H Q _ => ∃ G : Hp, vs = [] ∧ Gh G H ∧ Ret G H (fun v G' => ∃ l, v = .ref l ∧ G' l = some (.lst resV)) Q
theorem u_words {K : PySem.W.Frag} {e : En} {G H : Hp} {M : List Addr} {Q : VK} {E : XK} (w : Wd e G H M) (k : ∀ l G' H', Wd e G' H' M → Same G G' → Same H H' → G' l = some (.lst resV) → Q (.ref l) H') : spWords K [] H Q E :=
  ⟨G, rfl, w.gh, ret_use w fun v G' H' w' s1 s2 ⟨l, e1, e2⟩ => by subst e1; exact k l G' H' w' s1 s2 e2⟩
def spName : Sp := fun vs H Q _ => ∃ (G : Hp) (p c : Addr) (n : Nat), vs = [.ref p] ∧ Gh G H ∧ G p = none ∧ Cells c G ∧ PenAt p c n H ∧ n ≤ 1048000 ∧ RetP p c (n + 9) G H (fun v _ => ∃ z, v = .str z ∧ nmOk z = true) Q
theorem u_name {e : En} {G H : Hp} {M : List Addr} {p c : Addr} {n : Nat} {Q : VK} {E : XK} (w : Wd e G H M) (hm : p ∈ M) (hc : Cells c G) (P : PenAt p c n H) (hn : n ≤ 1048000)
    (k : ∀ (z : Str) (G' H' : Hp), Wd e G' H' M → Same G G' → But p H H' → PenAt p c (n + 9) H' → nmOk z = true → Q (.str z) H') : spName [.ref p] H Q E :=
  ⟨G, p, c, n, rfl, w.gh, (w.mu p hm).1, hc, P, hn, retP_use w hm fun v G' H' w' s b P' ⟨z, e1, e2⟩ => by subst e1; exact k z G' H' w' s b P' e2⟩
def MomOk (i : Int) : Prop := 0 ≤ i ∧ i ≤ 1000000000000000000000000000000
def spMom1 : Sp := fun vs H Q _ => ∃ (G : Hp) (p c : Addr) (n : Nat), vs = [.ref p] ∧ Gh G H ∧ G p = none ∧ Cells c G ∧ PenAt p c n H ∧ n ≤ 1048000 ∧ RetP p c (n + 3) G H (fun v _ => ∃ i, v = .int i ∧ MomOk i) Q
theorem u_mom1 {e : En} {G H : Hp} {M : List Addr} {p c : Addr} {n : Nat} {Q : VK} {E : XK} (w : Wd e G H M) (hm : p ∈ M) (hc : Cells c G) (P : PenAt p c n H) (hn : n ≤ 1048000)
    (k : ∀ (i : Int) (G' H' : Hp), Wd e G' H' M → Same G G' → But p H H' → PenAt p c (n + 3) H' → MomOk i → Q (.int i) H') : spMom1 [.ref p] H Q E :=
  ⟨G, p, c, n, rfl, w.gh, (w.mu p hm).1, hc, P, hn, retP_use w hm fun v G' H' w' s b P' ⟨z, e1, e2⟩ => by subst e1; exact k z G' H' w' s b P' e2⟩
theorem r_slS {z : Str} {lo hi : Option Int} {H : Hp} {Qv : VK} (h : z.length ≤ sizeLine) (q : Qv (.str (cutS z lo hi)) H) : rSlS (.str z) lo hi H Qv := ⟨z, rfl, h, q⟩
end Q
namespace Q
open PySem PySem.Spec PyProof.Rows L2
/-! ### a lambda is made: the tables grow, all else stays -/
theorem wd_lam {e : En} {G H H1 : Hp} {M : List Addr} (w : Wd e G H M) (x : LamX.ExtN H H1) (t : LamX.Tabs e.T H1) (cov : ∀ a, e.H0 a ≠ none → (∃ q, (a, q) ∈ e.T) ∨ (a ∉ e.P0 ∧ ∀ o, e.H0 a = some o → NoT o)) (inP : ∀ p ∈ e.T, p.1 ∈ e.P0) : Wd e G H1 M where
  le := fun a o z => x a o (w.le a o z) (w.nt a o z)
  mu := fun a ha => by
    obtain ⟨h1, ⟨o, h2⟩, h3⟩ := w.mu a ha
    exact ⟨h1, ⟨o, x a o h2 (pl_nt (w.mt a ha o h2))⟩, h3⟩
  nd := w.nd
  dom := fun a z => by
    rcases cov a z with ⟨q, hq⟩ | ⟨off, no⟩
    · obtain ⟨ps, y, _⟩ := t _ hq
      rw [show H1 a = some (.tbl ps) from y]
      simp
    · cases y : e.H0 a with
      | none => exact absurd y z
      | some o =>
        rw [x a o (w.kp a o off y) (no o y)]
        simp
  gr := w.gr
  fr := w.fr
  kp := fun a o off z => by
    rcases cov a (some_ne z) with ⟨q, hq⟩ | ⟨_, no⟩
    · exact absurd (inP _ hq) off
    · exact x a o (w.kp a o off z) (no o z)
  nt := w.nt
  mt := fun a ha u z => by
    obtain ⟨_, ⟨o, h2⟩, _⟩ := w.mu a ha
    rw [x a o h2 (pl_nt (w.mt a ha o h2))] at z
    rw [← Option.some.inj z]
    exact w.mt a ha o h2
  tb := t
/-! ### what was heard: the error's sign and what it keeps, or None -/
def HearX (kd : List (Addr × Str × Str)) (Q : VK) : XK := fun cls d H1 => ∃ (e : En) (G : Hp) (M : List Addr) (C : Addr) (sg f : Str) (v : V) (dd : Addr), Wd e G H1 M ∧ cls = .ref C ∧ d = some dd ∧ G dd = some (.xd [(f, v)]) ∧ (C, sg, f) ∈ kd ∧
  ∀ l G' H', Wd e G' H' M → Same G G' → Same H1 H' → G' l = some (.tup [.str sg, v]) → Q (.ref l) H'
def HearN (Q : VK) (H1 : Hp) : Prop := ∃ (e : En) (G : Hp) (M : List Addr), Wd e G H1 M ∧ ∀ G' H', Wd e G' H' M → Same G G' → Same H1 H' → Q .non H'
def THeard (kd : List (Addr × Str × Str)) : (XK → Hp → VK → Prop) → Hp → VK → Prop := fun tl H Q => ∀ (E : XK) (Q' : VK), (∀ cls d H1, HearX kd Q cls d H1 → E cls d H1) → (∀ v H1, HearN Q H1 → Q' v H1) → tl E H Q'
/-- what is known of an error's class that is heard -/
structure HdC (K : PySem.W.Frag) (C : Addr) (f : Str) : Prop where
  x : XfC K C
  e : ExcC K C
  n : PySem.W.findIn K (.ref C) f = some none
  v : PySem.W.kitOne K (.ref C) (.type "ValueError") = some true
section
variable {X : Cx} {Ng : List Str} {x a n cl : Str} {sg : Scope} {g f c' Ct : Addr} {cdg : Value} {s : Shared} {H : Hp} {i : Nat} {first : Stmt} {rest : List Stmt} {q : Str} {tl : XK → Hp → VK → Prop} {ts : Addr → Value → Option Addr → TS} {p1 p2 p3 np hp tp : Pos}
abbrev hearCx (X : Cx) (Ng : List Str) (x : Str) (sg : Scope) (g : Addr) (cdg : Value) (s : Shared) (H : Hp) : Cx := (cxOf C8.CX0 X.prog X.w X.K X.mg X.base Ng x sg g cdg X.A X.stack s H C8.E0).nox
def tAsk (K : PySem.W.Frag) (Ct : Addr) (i m : Nat) (f c' : Addr) (q : Str) (tl : XK → Hp → VK → Prop) (ts : Addr → Value → Option Addr → TS) : TS := fun D σ H =>
  ∃ Ech : XK, (∀ cls d σ' H', Ech cls d H' → wKeep K (.ref Ct) i m ts D cls d σ' H') ∧ σ[0]? = some (some (.ref f)) ∧ H c' = some (LamX.CodeO c' q) ∧ tl Ech H fun _ H1 => D.nx σ H1
theorem ps_ask (act : ∀ (W : WX) (pn : List (Addr × Obj)) (xe : Value → Shared → Prop) (E : XK) (p1 p2 : Pos), Takes ((cxOf C8.CX0 X.prog X.w X.K X.mg X.base Ng x sg g cdg X.A X.stack s H C8.E0).tr pn xe) W → (∀ cls d σ' H', E cls d H' → W cls d σ' H') →
      PE ((cxOf C8.CX0 X.prog X.w X.K X.mg X.base Ng x sg g cdg X.A X.stack s H C8.E0).tr pn xe) (.Call (.Name a p1) [] [] p2) (fun σZ HZ Q => σZ[0]? = some (some (.ref f)) ∧ HZ c' = some (LamX.CodeO c' q) ∧ tl E HZ Q))
    (hN : Ng.Nodup) (hi : Ng[i]? = some n) (hln : sg.names.lookup n = some .local) (hge : sg.names.lookup cl = some .globalImplicit) (hde : (cl == ("__debug__" : Str)) = false) (hm : X.mg cl = some (.ref Ct))
    (hs : ∀ (a : Addr) (oe : Obj) (cls : Value) (d : Option Addr) (pn : List (Addr × Obj)), Zc cls d oe → (∃ vs, oe.data = .fields vs) → PSs ((hearCx X Ng x sg g cdg s H).suite a ((a, oe) :: pn)) (first :: rest) (ts a cls d)) :
    PS (hearCx X Ng x sg g cdg s H) (.Try [.Expr (.Call (.Name a p1) [] [] p2) p3] [.ExceptHandler (some (.Name cl np)) (some n) (first :: rest) hp] [] [] tp) (tAsk X.K Ct i Ng.length f c' q tl ts) := by
  refine ps_try_keep (X := hearCx X Ng x sg g cdg s H) (c := .ref Ct) (ts := ts) (tb := fun W D σ H => ∃ Ech : XK, (∀ cls d σ' H', Ech cls d H' → W cls d σ' H') ∧ σ[0]? = some (some (.ref f)) ∧ H c' = some (LamX.CodeO c' q) ∧ tl Ech H fun _ H1 => D.nx σ H1)
    rfl rfl hN hi hln ⟨hge, hde, .inl hm⟩ (fun W pn xe tk _ => ?_) hs
  refine pss_one ⟨fun pins s' σ H' D I h' => ?_⟩
  obtain ⟨Ech, hW, h1, h2, h3⟩ := h'
  exact (ps_expr (act W pn xe Ech p1 p2 tk hW)).run pins s' σ H' D I ⟨h1, h2, h3⟩
end
theorem same_new {A B C D : Hp} {q : Addr} (s : Same A B) (hq : B q = none) (t : Same B C) (b : But q C D) : Same A D := fun a o z => by
  have y := s a o z
  refine b a o (fun e => ?_) (t a o y)
  rw [e, hq] at y
  cases y
end Q
namespace Q
open PySem PySem.Spec PyProof.Rows L2
/-! ### ~x, x << n by own defs; static methods -/
section
variable {X : Cx} {CX : CXT} {k j : Nat} {C f : Addr} {fd : FuncData} {ps : List Str} {sp : Sp} {E : XK}
def rInvI (C : Addr) (sp : Sp) (E : XK) : V → Hp → VK → Prop := fun x H Q => ∃ a dx fs, x = .ref a ∧ H a = some (.ins C dx fs) ∧ sp [x] H Q E
theorem q_invD (D : SpD X.prog X.w X.K X.mg X.base CX k C "__invert__" sp) (hr : Room j X.A) (hx : Passes CX X E) (hj : k ≤ j := by decide) : UnR X (unaryOp .Invert) (rInvI C sp E) := by
  obtain ⟨f, fd, ps, hs, hf, hb, F⟩ := D.ex
  intro pins s σ H x v Q I rx h
  obtain ⟨a, dx, fs, rfl, ea, q⟩ := h
  cases (show v = Value.ref a from rx)
  obtain ⟨mA, O, _, _, _, _⟩ := ins_get I.hok ea
  obtain ⟨od, J, _⟩ := O.look
  obtain ⟨m, hF⟩ := I.fr
  exact PySem.W.ksp_inv hF I.ok.mod.kin J hs hf (run_under (us := [.ref a]) (vs := [.ref a]) F (hr.mono hj) I.env0 hb hx I (.cons rfl .nil) q)
theorem r_invI {H : Hp} {a dx : Addr} {fs : List (Str × V)} {Qv : VK} (h : H a = some (.ins C dx fs)) (q : sp [.ref a] H Qv E) : rInvI C sp E (.ref a) H Qv := ⟨a, dx, fs, rfl, h, q⟩
/-- what x << n asks of the class of x, n an int -/
structure ShC (K : PySem.W.Frag) (C : Addr) : Prop where
  first : PySem.W.selfFirst K C = true
  r : ∃ rc, PySem.W.findIn K (.ref C) (dunderR (Operator.LShift).info.2) = some rc ∧ (rc = none ∨ ∃ g : Addr, rc = some (.ref g))
  i1 : ∃ fo, PySem.W.findIn K (.type "int") (PySem.dunder (Operator.LShift).info.2) = some fo
  i2 : ∃ ro, PySem.W.findIn K (.type "int") (dunderR (Operator.LShift).info.2) = some ro
  sub : PySem.W.subIn K (.type "int") (.ref C) = some false
def rShI (C : Addr) (sp : Sp) (E : XK) : R2 := fun x y H Q => ∃ a dx fs i, x = .ref a ∧ y = .int i ∧ H a = some (.ins C dx fs) ∧ sp [x, y] H Q E
theorem q_shD (D : SpD X.prog X.w X.K X.mg X.base CX k C "__lshift__" sp) (S : ShC X.K C) (hr : Room j X.A) (hx : Passes CX X E) (hj : k ≤ j := by decide) : OpR X (binaryOp .LShift) (rShI C sp E) := by
  obtain ⟨f, fd, ps, hs, hf, hb, F⟩ := D.ex
  intro pins s σ H x y v u Q I rx ry h
  obtain ⟨a, dx, fs, i, rfl, rfl, ea, q⟩ := h
  cases (show v = Value.ref a from rx)
  obtain ⟨tk, rfl⟩ := (show ∃ t, u = Value.int i t from ry)
  obtain ⟨mA, O, _, _, _, _⟩ := ins_get I.hok ea
  obtain ⟨od, J, _⟩ := O.look
  obtain ⟨m, hF⟩ := I.fr
  obtain ⟨rc, hr1, hr2⟩ := S.r
  obtain ⟨fo, h1⟩ := S.i1
  obtain ⟨ro, h2⟩ := S.i2
  have key : wpAny (model X.prog X.w) X.A (binaryOp .LShift (.ref a) (.int i tk)) (EP X pins σ Q) X.xe s := by
    refine PySem.W.ksp_binT (T := "int") hF I.ok.mod.kin J rfl S.first hs hf hr1 hr2 h1 h2 S.sub ?_
    refine wpAny_mono (run_under (us := [.ref a, .int i tk]) (vs := [.ref a, .int i]) F (hr.mono hj) I.env0 hb hx I (.cons rfl (.cons ⟨tk, rfl⟩ .nil)) q) (fun w s' z => ?_) fun _ _ x => x
    obtain ⟨z', H', I', rz, qz⟩ := z
    exact SlX.cmpback rz ⟨z', H', I', rz, qz⟩
  exact key
theorem r_shI {H : Hp} {a dx : Addr} {fs : List (Str × V)} {i : Int} {Qv : VK} (h : H a = some (.ins C dx fs)) (q : sp [.ref a, .int i] H Qv E) : rShI C sp E (.ref a) (.int i) H Qv := ⟨a, dx, fs, i, rfl, rfl, h, q⟩
end
/-- C.m is a static method: its record at p, its def at g -/
structure CStat (K : PySem.W.Frag) (C : Addr) (mc : Value) (m : Str) (p g : Addr) : Prop where
  at_ : PySem.W.findCls K (.ref C) mc m = some (.get (.builtin "staticmethod.__get__") (.ref p) .none (.ref C))
  rc : ∃ rest, PySem.W.recIn K p "staticmethod" = some (.ref g :: rest)
  kp : PySem.W.keepIn K (.ref g) = true
structure StD (P : Program) (w : World) (K : PySem.W.Frag) (mg : Str → Option Value) (base : Heap) (CX : CXT) (k : Nat) (C : Addr) (m : Str) (sp : Sp) : Prop where
  ex : ∃ (mc : Value) (p g : Addr) (fd : FuncData) (ps : List Str), ClX.CRead K C mc ∧ CStat K C mc m p g ∧ Binds K fd ps [] ∧ FnOk P w K mg base CX k g fd ps sp
structure StK (P : Program) (w : World) (K : PySem.W.Frag) (mg : Str → Option Value) (base : Heap) (CX : CXT) (k : Nat) (C : Addr) (m : Str) (ks : List Str) (gV : List V → List V → List V) (sp : Sp) : Prop where
  ex : ∃ (mc : Value) (p g : Addr) (fd : FuncData) (ps : List Str) (gg : List Value → List Value → List Value), ClX.CRead K C mc ∧ CStat K C mc m p g ∧ KBn K fd ps 0 ks gg gV ∧ FnOk P w K mg base CX k g fd ps sp
def StatGo (C : Addr) (x : V) (R : Prop) : Prop := x = .ref C ∧ R
def tStat (C : Addr) (sp : Sp) (E : XK) (ta : TE) (t : TA) : TE := fun σ H Q => ta σ H fun x H1 => StatGo C x (t σ H1 fun vs H2 => sp vs H2 Q E)
def tStatK (C : Addr) (n : Nat) (sp : Sp) (E : XK) (ta : TE) (t : TA) (gV : List V → List V → List V) : TE := fun σ H Q => ta σ H fun x H1 => StatGo C x (t σ H1 fun zs H2 => zs.length = n ∧ sp (gV [] zs) H2 Q E)
section
variable {X : Cx} {CX : CXT} {k j : Nat} {C p g : Addr} {mc : Value} {sp : Sp} {E : XK} {o e : Expr} {es : List Expr} {m : Str} {pos apos : Pos} {ta : TE} {t : TA} {pl : Sem Bool} {ks : List Str} {kws : List Keyword} {gV : List V → List V → List V}
theorem get_stat {pins : List (Addr × Obj)} {σ : L2.St} {H : Hp} {s : Shared} {A : Around} {Ex : Value → Shared → Prop} {Q : Value × List Value → Shared → Prop} (I : Inv X pins σ H s) (r : ClX.CRead X.K C mc) (c : CStat X.K C mc m p g)
    (h : ∀ s', Inv X pins σ H s' → Q (.ref g, []) s') : wpAny (model X.prog X.w) A (getMethod (.ref C) m pl) Q Ex s := by
  obtain ⟨rest, hp⟩ := c.rc
  refine PySem.W.method_cls I.kIn r.ga (PySem.W.cls_bind I.kIn r.rd c.at_ ?_)
  exact wpAny_call (PySem.W.sm_get (s := { s with toks := s.toks + 1 }) I.kIn hp (PySem.W.handed_on rfl (h _ (I.tok _))))
theorem pe_statD (he : PE X o ta) (D : StD X.prog X.w X.K X.mg X.base CX k C m sp) (hr : Room j X.A) (hx : Passes CX X E) (ha : PA X (e :: es) t) (hj : k ≤ j := by decide)
    (hst : starEach (e :: es) X.env = (false, eval e X.env) :: starEach es X.env := by rfl) (hpl : (backTo pos (starEach es X.env)).any (·.1) = false := by rfl)
    (ht : eval (.Call (.Attribute o m apos) (e :: es) [] pos) X.env = (do
      let ov ← eval o X.env
      standAt apos.atName
      let (f, first) ← holding [ov] (getMethod ov m pl)
      callWith pos f first (backTo pos (starEach (e :: es) X.env)) (backToKw pos (keywordEach [] X.env))) := by rfl) : PE X (.Call (.Attribute o m apos) (e :: es) [] pos) (tStat C sp E ta t) := by
  obtain ⟨mc, p, g, fd, ps, r, c, hb, F⟩ := D.ex
  refine ⟨fun pins s σ H Q I h => ?_⟩
  refine PySem.W.methodCall_KW (pl := pl) (thn (he.run pins s σ H _ I h) fun u s1 told => ?_) ht
  obtain ⟨x, H1, I1, rx, ex, q⟩ := told
  subst ex
  obtain rfl : u = Value.ref C := rx
  refine get_stat I1 r c fun s2 I2 => ?_
  refine PySem.W.callWith_K (first := []) (h₀ := X.base) I2.ok.mod.kin c.kp (thn (ha.run pos pins s2 σ H1 _ I2 q) fun us s3 told => ?_) hst hpl
  obtain ⟨vs, H2, I3, rv, q2⟩ := told
  exact ⟨I3.kIn, run_under (us := us) (vs := vs) F (hr.mono hj) I3.env0 hb hx I3 rv q2⟩
theorem pe_statKD (he : PE X o ta) (D : StK X.prog X.w X.K X.mg X.base CX k C m ks gV sp) (hr : Room j X.A) (hx : Passes CX X E) (hkw : PK X kws t) (hj : k ≤ j := by decide)
    (hall : (backToKw pos (keywordEach kws X.env)).all (·.1.isSome) = true := by rfl) (hks : (backToKw pos (keywordEach kws X.env)).filterMap (·.1) = ks := by rfl)
    (hpl : ((backTo pos (starEach [] X.env)).any (·.1) || (backToKw pos (keywordEach kws X.env)).any (·.1.isNone)) = false := by rfl)
    (ht : eval (.Call (.Attribute o m apos) [] kws pos) X.env = (do
      let ov ← eval o X.env
      standAt apos.atName
      let (f, first) ← holding [ov] (getMethod ov m pl)
      callWith pos f first (backTo pos (starEach [] X.env)) (backToKw pos (keywordEach kws X.env))) := by rfl) : PE X (.Call (.Attribute o m apos) [] kws pos) (tStatK C ks.length sp E ta t gV) := by
  obtain ⟨mc, p, g, fd, ps, gg, r, c, hb, F⟩ := D.ex
  refine ⟨fun pins s σ H Q I h => ?_⟩
  refine PySem.W.methodCall_KW (pl := pl) (thn (he.run pins s σ H _ I h) fun u s1 told => ?_) ht
  obtain ⟨x, H1, I1, rx, ex, q⟩ := told
  subst ex
  obtain rfl : u = Value.ref C := rx
  refine get_stat I1 r c fun s2 I2 => ?_
  refine PySem.W.callWith_KW0 (first := []) (h₀ := X.base) I2.ok.mod.kin c.kp hall (thn (hkw.run pos pins s2 σ H1 _ I2 q) fun ws s3 told => ?_) hpl
  obtain ⟨zs, H2, I3, rz, l2, q2⟩ := told
  refine ⟨I3.kIn, ?_⟩
  rw [hks]
  have e2 : ws.length = ks.length := rz.length.symm.trans l2
  refine wpAny_call (codeAny_mono (F.run X.A X.stack s3 H2 ⟨[], ks.zip ws⟩ (gg [] ws) _ Q E (hr.mono hj) I3.env0 (hb.to _ [] ws I3.kIn rfl e2) (hb.rel .nil rz) q2) fun o s' hq => ?_)
  match o, hq with
  | .error e, hq => exact hx pins σ H2 s3 e s' I3 hq
  | .ok (.ret u), hq => exact I3.after hq
  | .ok .next, hq => exact hq.elim
  | .ok .brk, hq => exact hq.elim
  | .ok .cont, hq => exact hq.elim
end
section
variable {C : Addr} {sp : Sp} {E : XK} {ta : TE} {t : TA} {σ : L2.St} {H : Hp} {Qv : VK} {n : Nat} {gV : List V → List V → List V}
theorem r_tStat (q : ta σ H fun x H1 => StatGo C x (t σ H1 fun vs H2 => sp vs H2 Qv E)) : tStat C sp E ta t σ H Qv := q
theorem r_tStatK (q : ta σ H fun x H1 => StatGo C x (t σ H1 fun zs H2 => zs.length = n ∧ sp (gV [] zs) H2 Qv E)) : tStatK C n sp E ta t gV σ H Qv := q
theorem r_stat {R : Prop} (q : R) : StatGo C (.ref C) R := ⟨rfl, q⟩
end
end Q
namespace Q
open PySem PySem.Spec PyProof.Rows L2
/-! ### repr of data with empty dicts -/
mutual
inductive Dq (K : PySem.W.Frag) (H : Hp) : V → PyData → Prop
  | non : Dq K H .non .none
  | bl (b : Bool) : Dq K H (.bl b) (.bool b)
  | int (i : Int) : Dq K H (.int i) (.int i)
  | str (x : Str) : Dq K H (.str x) (.str x)
  | lst {a : Addr} {xs : List V} {ds : List PyData} (h : SqL K H a xs) (r : DqAll K H xs ds) : Dq K H (.ref a) (.list ds)
  | tup {a : Addr} {xs : List V} {ds : List PyData} (h : SqT K H a xs) (r : DqAll K H xs ds) : Dq K H (.ref a) (.tuple ds)
  | dic {a : Addr} {kvs : List (Key × V)} {ds : List (PyData × PyData)} (h : Rd H a (.dK kvs)) (k : DqAll K H (kvs.map fun p => kV p.1) (ds.map (·.1))) (r : DqAll K H (kvs.map (·.2)) (ds.map (·.2))) : Dq K H (.ref a) (.dict ds)
inductive DqAll (K : PySem.W.Frag) (H : Hp) : List V → List PyData → Prop
  | nil : DqAll K H [] []
  | cons {v : V} {vs : List V} {d : PyData} {ds : List PyData} (h : Dq K H v d) (r : DqAll K H vs ds) : DqAll K H (v :: vs) (d :: ds)
end
theorem sz_fst : ∀ ds : List (PyData × PyData), sizeOf (ds.map (·.1)) ≤ sizeOf ds
  | [] => by simp
  | (a, b) :: r => by
    have := sz_fst r
    simp at this ⊢
    omega
theorem sz_snd : ∀ ds : List (PyData × PyData), sizeOf (ds.map (·.2)) ≤ sizeOf ds
  | [] => by simp
  | (a, b) :: r => by
    have := sz_snd r
    simp at this ⊢
    omega
theorem rd_same {H H' : Hp} {a : Addr} {u : HO} (s : Same H H') (h : Rd H a u) : Rd H' a u := h.elim (fun e => .inl (s _ _ e)) fun ⟨o, e⟩ => .inr ⟨o, s _ _ e⟩
theorem same_dqAll {K : PySem.W.Frag} {H H' : Hp} (s : Same H H') : ∀ (n : Nat), (∀ d x, sizeOf d ≤ n → Dq K H x d → Dq K H' x d) ∧ (∀ ds vs, sizeOf ds ≤ n → DqAll K H vs ds → DqAll K H' vs ds) := by
  intro n
  induction n with
  | zero => exact ⟨fun d x hn h => (by cases d <;> simp at hn), fun ds vs hn h => (by cases ds <;> simp at hn)⟩
  | succ n ih =>
    have h1 : ∀ d x, sizeOf d ≤ n + 1 → Dq K H x d → Dq K H' x d := by
      intro d x hn h
      cases h with
      | non => exact .non
      | bl b => exact .bl b
      | int i => exact .int i
      | str x => exact .str x
      | lst hs ha => exact .lst (s.seq hs) (ih.2 _ _ (by simp at hn; omega) ha)
      | tup hs ha => exact .tup (same_sqT s hs) (ih.2 _ _ (by simp at hn; omega) ha)
      | dic h k r =>
        rename_i ds
        have h1 := sz_fst ds
        have h2 := sz_snd ds
        exact .dic (rd_same s h) (ih.2 _ _ (by simp at hn; omega) k) (ih.2 _ _ (by simp at hn; omega) r)
    refine ⟨h1, fun ds vs hn h => ?_⟩
    cases h with
    | nil => exact .nil
    | cons a b => exact .cons (h1 _ _ (by simp at hn; omega) a) (ih.2 _ _ (by simp at hn; omega) b)
theorem same_dq {K : PySem.W.Frag} {H H' : Hp} (s : Same H H') {x : V} {d : PyData} (h : Dq K H x d) : Dq K H' x d := (same_dqAll s (sizeOf d)).1 d x (Nat.le_refl _) h
theorem wd_dq {e : En} {G H : Hp} {M : List Addr} {K : PySem.W.Frag} {x : V} {d : PyData} (w : Wd e G H M) (h : Dq K G x d) : Dq K H x d := same_dq w.le h
/-- the interpreter's table of modules is a dict of K -/
def SmK (K : PySem.W.Frag) : Prop := ∃ o, K.lookup sysModules = some o ∧ o.cls = .type "dict"
section
variable {X : Cx} {pins : List (Addr × Obj)} {σ : L2.St} {H : Hp} {s : Shared}
theorem not_sm {a : Addr} {o : Obj} (SM : SmK X.K) (I : Inv X pins σ H s) (h : s.heap.get? a = some o) (hc : o.cls ≠ .type "dict") : sysModules ≠ a := fun z => by
  obtain ⟨u, lk, cu⟩ := SM
  have y := I.kIn _ _ lk
  rw [z, h] at y
  rw [Option.some.inj y] at hc
  exact hc cu
theorem dq_reads (SM : SmK X.K) (I : Inv X pins σ H s) : ∀ (n : Nat), (∀ (d : PyData) (v : V) (u : Value), sizeOf d ≤ n → Dq X.K H v d → RelV v u → ∃ as, Reads s.heap u d as ∧ sysModules ∉ as) ∧
    (∀ (ds : List PyData) (vs : List V) (us : List Value), sizeOf ds ≤ n → DqAll X.K H vs ds → Vals vs us → ∃ as, ReadsAll s.heap us ds as ∧ sysModules ∉ as) := by
  intro n
  induction n with
  | zero => exact ⟨fun d v u hn => (by cases d <;> simp at hn), fun ds v u hn => (by cases ds <;> simp at hn)⟩
  | succ n ih =>
    have h1 : ∀ (d : PyData) (v : V) (u : Value), sizeOf d ≤ n + 1 → Dq X.K H v d → RelV v u → ∃ as, Reads s.heap u d as ∧ sysModules ∉ as := by
      intro d v u hn h r
      cases h with
      | non => cases r; exact ⟨_, .none, by simp⟩
      | bl b => cases r; exact ⟨_, .bool b, by simp⟩
      | int i => obtain ⟨t, rfl⟩ := r; exact ⟨_, .int i t, by simp⟩
      | str x => obtain ⟨t, rfl⟩ := r; exact ⟨_, .str x t, by simp⟩
      | lst hs ha =>
        cases r
        obtain ⟨its, rv, ⟨o, n, ho, hc, _, hd⟩, _⟩ := I.list hs
        obtain ⟨as, hr, no⟩ := ih.2 _ _ its (by simp at hn; omega) ha rv
        refine ⟨_, .list ho hc hd hr, fun z => ?_⟩
        rcases List.mem_cons.mp z with z | z
        · exact not_sm SM I ho (by rw [hc]; intro y; injection y with y; exact absurd y (by decide)) z
        · exact no z
      | tup hs ha =>
        cases r
        obtain ⟨its, rv, ⟨o, ho, hc, n, hd⟩, _⟩ := I.tuple hs
        obtain ⟨as, hr, no⟩ := ih.2 _ _ its (by simp at hn; omega) ha rv
        exact ⟨_, .tuple ho hc hd hr, no⟩
      | dic h k r2 =>
        rename_i a kvs ds
        have q1 := sz_fst ds
        have q2 := sz_snd ds
        cases r
        obtain ⟨_, ns, vs, kv, o, es, ep, ho, hx, hd, _, pr, _⟩ := dk_rd I.hok h
        have both : ∀ {es : List DictEntry} {vs : List (Key × Value)} {kvs : List (Key × V)}, Pairs (mixKind X.prog X.w) es vs → KV kvs vs → Vals (kvs.map fun p => kV p.1) (es.map (·.key)) ∧ Vals (kvs.map (·.2)) (es.map (·.val)) := by
          intro es vs kvs p
          induction p generalizing kvs with
          | nil => intro z; cases z; exact ⟨.nil, .nil⟩
          | cons i1 i2 _ ih =>
            intro z
            cases z with
            | cons z1 z2 =>
              obtain ⟨g1, g2⟩ := ih z2
              refine ⟨.cons ?_ g1, .cons ?_ g2⟩
              · dsimp only
                rw [z1.1]
                exact keyIs_rel i1
              · dsimp only
                rw [i2]
                exact z1.2
        obtain ⟨b1, b2⟩ := both pr kv
        obtain ⟨as, r1, n1⟩ := ih.2 _ _ _ (by simp at hn; omega) k b1
        obtain ⟨bs, r3, n2⟩ := ih.2 _ _ _ (by simp at hn; omega) r2 b2
        refine ⟨_, .dict ho hx.1 hd r1 r3, fun z => ?_⟩
        rcases List.mem_append.mp z with z | z
        · rcases List.mem_cons.mp z with z | z
          · rw [← z] at ns
            simp at ns
          · exact n1 z
        · exact n2 z
    refine ⟨h1, fun ds vs us hn h r => ?_⟩
    cases h with
    | nil => cases r; exact ⟨_, .nil, by simp⟩
    | cons a b =>
      cases r with
      | cons r1 r2 =>
        obtain ⟨as, q1, n1⟩ := h1 _ _ _ (by simp at hn; omega) a r1
        obtain ⟨bs, q2, n2⟩ := ih.2 _ _ _ (by simp at hn; omega) b r2
        exact ⟨_, .cons q1 q2, fun z => (List.mem_append.mp z).elim n1 n2⟩
def rReprQ (K : PySem.W.Frag) : List V → Hp → VK → Prop := fun xs H Q => ∃ (x : V) (d : PyData), xs = [x] ∧ Dq K H x d ∧ d.showable = true ∧ d.depth ≤ 60 ∧ d.shown.length ≤ sizeLine ∧ Q (.str d.shown) H
theorem call_reprQ (SM : SmK X.K) (g : G0 X.A) (hu : X.A.units + 64 < cLine) : CallR X (.builtin "repr") (rReprQ X.K) := by
  intro pins s σ H xs us Q I r h
  obtain ⟨x, d, rfl, hd, hs, hdp, hz, q⟩ := h
  obtain ⟨u, rfl, ru⟩ := r.one
  obtain ⟨as, hr, no⟩ := (dq_reads SM I (sizeOf d)).1 d x u (Nat.le_refl _) hd ru
  have more : ∀ {a : Addr}, u = .ref a → wpAny (model X.prog X.w) X.A (call (.builtin "repr") [u]) (EP X pins σ Q) X.xe s := fun {a} e => by
    subst e
    exact repr_of_reads' hr hs (fun _ => no) g (by omega) (fun _ _ e => e) (fun h' u tk hk => ⟨.str _, H, I.kept (t' := tk) hk, ⟨_, rfl⟩, q⟩) hz
  cases hd with
  | non => cases ru; exact PySem.P.repr_of_none ⟨.str "None", H, I.tok _, ⟨_, rfl⟩, by simpa only [PyData.shown] using q⟩
  | bl b => cases ru; exact PySem.P.repr_of_bool ⟨.str (if b then "True" else "False"), H, I.tok _, ⟨_, rfl⟩, by simpa only [PyData.shown] using q⟩
  | int i => obtain ⟨t, rfl⟩ := ru; exact PySem.P.repr_of_int (by simpa [PyData.showable] using hs) ⟨.str (toString i), H, I.tok _, ⟨_, rfl⟩, by simpa only [PyData.shown] using q⟩
  | str z => obtain ⟨t, rfl⟩ := ru; exact PySem.P.repr_of_str ⟨.str (reprText z), H, I.tok _, ⟨_, rfl⟩, by simpa only [PyData.shown] using q⟩ (by simpa only [PyData.shown] using hz)
  | lst h1 h2 => exact more ru
  | tup h1 h2 => exact more ru
  | dic h1 => exact more ru
end
end Q
namespace Q
open PySem PySem.Spec PyProof.Rows L2
/-! ### the law's own end where its lambdas' code objects are noted in tables -/
section
variable {P : Program} {w : World} {K : PySem.W.Frag} {mg mb : Str → Option Value} {CX : CXT} {k : Nat} {fa a : Addr} {fd : FuncData} {x : Str} {sp : Sp} {s₁ : Shared} {vs : List Value} {ns : List Int} {cs : List (Addr × Addr)}
abbrev emptyT : Obj := { cls := .none, data := .fields #[] }
def isTab (cs : List (Addr × Addr)) (b : Addr) : Prop := ∃ p ∈ cs, p.2 = b
theorem from_heapT (Hh : Hp) (KX : K.In s₁.heap) (hns : s₁.heap.Ns mainGlobals mg) (hb : s₁.heap.Ns builtinsNs mb)
    (hbb : ∀ y : Str, y ≠ "__name__" → mb y = bootBuiltins y) (hlim : s₁.heap.NoLimit) (hg : s₁.gens = #[])
    (bmain : ∃ (bm : Addr) (ob : Obj), mg "__builtins__" = some (.ref bm) ∧ bm ≠ builtinsNs ∧ s₁.heap.get? bm = some ob ∧ ob.cls = .type "module" ∧ ob.dict = some builtinsNs ∧ ob.data = .plain)
    (hobj : s₁.heap.get? a = some { cls := .type "list", data := .seq vs.toArray }) (hr : Room k callerA)
    (hd : ∀ p ∈ cs, PySem.W.codeHdIn K p.1 p.2 = true) (off : ∀ p ∈ cs, K.lookup p.2 = none) (empty : ∀ p ∈ cs, s₁.heap.get? p.2 = some emptyT)
    (F : ∀ b0 : Heap, K.In b0 → b0.Ns mainGlobals mg → (∀ p ∈ cs, LamX.TabB b0 mg p.1 p.2) → FnA P w K mg b0 CX k fa fd [x] sp)
    (hbind : ∀ (s : Shared) (u : Value), BindsTo s fd ⟨[u], []⟩ [(x, u)]) (told : HOk P w Hh s₁.heap)
    (only : ∀ b, Hh b = none ∨ isTab cs b ∨ ∃ o xs, Hh b = some (.frz o (.lst xs))) (tabs : ∀ p ∈ cs, Hh p.2 = some (.tbl #[]))
    (hsp : sp [.ref a] Hh (fun v _ => v = .bl true) fun _ _ _ => False) (hCX : ∀ e s', CX [] Hh s₁ (fun _ _ _ => False) e s' → False)
    (alone : ∀ b, Hh b ≠ none → b = a ∨ isTab cs b) (apart : Hh a ≠ none → K.lookup a = none) :
    codeAny (model P w) callerA (.call (.ref fa) ⟨[.ref a], []⟩) (fun r t => r = .ok (.ret (.bool true)) ∧ OldK s₁.heap t.heap ∧ t.os = s₁.os ∧ AllBare t.gens) s₁ := by
  let base := hidT s₁.heap Hh
  have seen : ∀ {b : Addr} {o : Obj}, s₁.heap.get? b = some o → Hh b = none → base.get? b = some o := fun z n => hidT_get z n
  have other : ∀ {b : Addr} {o : Obj}, s₁.heap.get? b = some o → (∀ us n, o.data ≠ .seq us n) → o.data ≠ .fields #[] → Hh b = none := by
    intro b o z n1 n2
    by_cases q : Hh b = none
    · exact q
    · rcases alone b q with e | ⟨p, hp, e⟩
      · rw [e, hobj] at z
        obtain rfl := Option.some.inj z
        exact absurd rfl (n1 _ _)
      · rw [← e, empty p hp] at z
        obtain rfl := Option.some.inj z
        exact absurd rfl n2
  have dicts : ∀ {b : Addr} {o : Obj} {es : Array DictEntry} {ep : Nat}, s₁.heap.get? b = some o → o.data = .dict es ep → Hh b = none := fun {b o es ep} z d =>
    other z (fun us n y => by rw [d] at y; cases y) fun y => by rw [d] at y; cases y
  have names : ∀ {b : Addr} {m : Str → Option Value}, s₁.heap.Ns b m → base.Ns b m := by
    rintro b m ⟨o, es, ep, z, d, r⟩
    exact ⟨o, es, ep, seen z (dicts z d), d, r⟩
  have inB : K.In base := by
    intro b o z
    refine seen (KX b o z) ?_
    by_cases q : Hh b = none
    · exact q
    · rcases alone b q with e | ⟨p, hp, e⟩
      · rw [e] at z q
        rw [apart q] at z
        cases z
      · rw [← e, off p hp] at z
        cases z
  obtain ⟨mc, l1, l2⟩ := hlim
  have md : Mod K mg base := ⟨inB, names hns, ⟨mb, names hb, hbb⟩, ⟨mc, names l1, l2⟩⟩
  have TB : ∀ p ∈ cs, LamX.TabB base mg p.1 p.2 := by
    intro p hp
    have notG : mainGlobals ≠ p.2 := fun e => by
      obtain ⟨o, es, ep, z, d, _⟩ := hns
      rw [e, empty p hp] at z
      obtain rfl := Option.some.inj z
      cases d
    obtain ⟨bm, ob, b1, b2, b3, b4, b5, b6⟩ := bmain
    have bg : bm ≠ mainGlobals := fun e => by
      obtain ⟨o, es, ep, z, d, _⟩ := hns
      rw [e, z] at b3
      obtain rfl := Option.some.inj b3
      rw [d] at b6
      cases b6
    have bp : bm ≠ p.2 := fun e => by
      rw [e, empty p hp] at b3
      obtain rfl := Option.some.inj b3
      cases b6
    have bo : base.get? bm = some ob := seen b3 (other b3 (fun us n y => by rw [b6] at y; cases y) fun y => by rw [b6] at y; cases y)
    exact ⟨PySem.W.codeHd_of_K inB (hd p hp), ⟨bm, ob, b1, b2, bg, bp, bo, b4, b5, b6⟩, notG⟩
  have env : Env0 P w K mg base callerA [] s₁ Hh := by
    refine ⟨rfl, md, fun b o z => of_hidT z, Nat.le_of_eq (hidT_size _ _), trivial, fun b z => ?_, told, .of_eq hg⟩
    exact absurd (show b ∈ ([] : List Addr) from z) (by simp)
  have go := (F base inB (names hns) TB).run callerA [] s₁ Hh ⟨[.ref a], []⟩ [.ref a] [.ref a] _ _ g0_caller hr env (hbind s₁ (.ref a)) (.cons rfl .nil) hsp
  refine codeAny_mono go fun r t h => ?_
  match r, h with
  | .error e, h => exact (hCX e t h).elim
  | .ok .next, h => exact h.elim
  | .ok .brk, h => exact h.elim
  | .ok .cont, h => exact h.elim
  | .ok (.ret u), h =>
    obtain ⟨v, H', os, bare, un, told', ru, q⟩ := h
    have q' : v = .bl true := q
    subst q'
    obtain rfl : u = Value.bool true := ru
    have grown : ∀ p ∈ cs, ∃ more : Array Value, t.heap.get? p.2 = some { cls := .none, data := .fields more } := by
      intro p hp
      obtain ⟨more, y⟩ := un.tbls p.2 #[] (tabs p hp)
      exact ⟨_, told' p.2 _ y⟩
    have stays : ∀ b o, ¬ isTab cs b → s₁.heap.get? b = some o → t.heap.get? b = some o := by
      intro b o nt z
      by_cases n : Hh b = none
      · exact un.keep b o z n (by intro y; exact absurd (show b ∈ ([] : List Addr) from y) (by simp)) (by simp)
      · rcases only b with y | y | ⟨ob, xs, y⟩
        · exact absurd y n
        · exact absurd y nt
        · obtain ⟨e1, _⟩ := told b _ y
          obtain ⟨e2, _⟩ := told' b _ (un.frzs b ob _ y)
          rw [z] at e1
          obtain rfl := Option.some.inj e1
          exact e2
    refine ⟨rfl, ⟨fun b o z => ?_, fun b o z => ?_⟩, os, bare⟩
    · by_cases tb : isTab cs b
      · obtain ⟨p, hp, e⟩ := tb
        subst e
        obtain ⟨more, hm⟩ := grown p hp
        rw [empty p hp] at z
        obtain rfl := Option.some.inj z
        have code := (PySem.W.codeHd_of_K KX (hd p hp)).tab (empty p hp)
        exact .inr (.inl ⟨code.isCodeTable, rfl, #[], more, rfl, by rw [Array.empty_append]; exact hm⟩)
      · exact .inl (stays b o tb z)
    · by_cases tb : isTab cs b
      · obtain ⟨p, hp, e⟩ := tb
        subst e
        obtain ⟨more, hm⟩ := grown p hp
        exact ⟨_, hm⟩
      · exact ⟨o, stays b o tb z⟩
/-- nothing but the script and the tables is told -/
def OnlyT (cs : List (Addr × Addr)) (H : Hp) : Prop := ∀ b, H b = none ∨ isTab cs b ∨ ∃ o xs, H b = some (.frz o (.lst xs))
theorem end_AT (KX : K.In s₁.heap) (hns : s₁.heap.Ns mainGlobals mg) (hb : s₁.heap.Ns builtinsNs mb)
    (hbb : ∀ y : Str, y ≠ "__name__" → mb y = bootBuiltins y) (hlim : s₁.heap.NoLimit) (hg : s₁.gens = #[])
    (bmain : ∃ (bm : Addr) (ob : Obj), mg "__builtins__" = some (.ref bm) ∧ bm ≠ builtinsNs ∧ s₁.heap.get? bm = some ob ∧ ob.cls = .type "module" ∧ ob.dict = some builtinsNs ∧ ob.data = .plain)
    (hobj : s₁.heap.get? a = some { cls := .type "list", data := .seq vs.toArray }) (hi : IntsAre vs ns) (hl : ns.length ≤ sizeLine) (hr : Room k callerA)
    (hd : ∀ p ∈ cs, PySem.W.codeHdIn K p.1 p.2 = true) (off : ∀ p ∈ cs, K.lookup p.2 = none) (empty : ∀ p ∈ cs, s₁.heap.get? p.2 = some emptyT)
    (F : ∀ b0 : Heap, K.In b0 → b0.Ns mainGlobals mg → (∀ p ∈ cs, LamX.TabB b0 mg p.1 p.2) → FnA P w K mg b0 CX k fa fd [x] sp)
    (hbind : ∀ (s : Shared) (u : Value), BindsTo s fd ⟨[u], []⟩ [(x, u)])
    (hsp : ∀ Hh : Hp, OnlyT cs Hh → (∀ p ∈ cs, Hh p.2 = some (.tbl #[])) → SqL K Hh a (ns.map V.int) → sp [.ref a] Hh (fun v _ => v = .bl true) fun _ _ _ => False)
    (hCX : ∀ Hh e s', CX [] Hh s₁ (fun _ _ _ => False) e s' → False) :
    codeAny (model P w) callerA (.call (.ref fa) ⟨[.ref a], []⟩) (fun r t => r = .ok (.ret (.bool true)) ∧ OldK s₁.heap t.heap ∧ t.os = s₁.os ∧ AllBare t.gens) s₁ := by
  have rv := vals_ints hi
  have nv := hi.length
  have dec : ∀ b, Decidable (isTab cs b) := fun b => Classical.propDecidable _
  have notA : ¬ isTab cs a := fun ⟨p, hp, e⟩ => by
    have z := empty p hp
    rw [e, hobj] at z
    have y : Data.seq vs.toArray _ = Data.fields #[] := congrArg Obj.data (Option.some.inj z)
    cases y
  let H0 : Hp := fun b => @ite _ (isTab cs b) (dec b) (some (.tbl #[])) none
  have on : ∀ b, isTab cs b → H0 b = some (.tbl #[]) := fun b h => if_pos h
  have no : ∀ b, ¬ isTab cs b → H0 b = none := fun b h => if_neg h
  have tabOk : ∀ (Hh : Hp) b, isTab cs b → ObjOk P w Hh s₁.heap b (.tbl #[]) := fun Hh b ⟨p, hp, e⟩ => by
    rw [← e]
    exact empty p hp
  by_cases q : ∃ o, K.lookup a = some o
  · obtain ⟨o, lk⟩ := q
    have z := KX a o lk
    rw [hobj] at z
    obtain rfl := Option.some.inj z
    have only : OnlyT cs H0 := fun b => by
      by_cases n : isTab cs b
      · exact .inr (.inl n)
      · exact .inl (no b n)
    refine from_heapT H0 KX hns hb hbb hlim hg bmain hobj hr hd off empty F hbind (fun b u y => ?_) only (fun p hp => on _ ⟨p, hp, rfl⟩) (hsp _ only (fun p hp => on _ ⟨p, hp, rfl⟩) (.inr ⟨_, vs.toArray, _, lk, rfl, rfl, rfl, ?_, ?_⟩)) (hCX _) (fun b y => ?_) fun y => absurd (no a notA) y
    · by_cases n : isTab cs b
      · rw [on b n] at y
        rw [← Option.some.inj y]
        exact tabOk _ b n
      · rw [no b n] at y
        cases y
    · rw [List.size_toArray, nv]; exact hl
    · simpa using rv
    · by_cases n : isTab cs b
      · exact .inr n
      · exact absurd (no b n) y
  · have lk : K.lookup a = none := by
      cases z : K.lookup a with
      | none => rfl
      | some o => exact absurd ⟨o, z⟩ q
    let Hh : Hp := upd H0 a (.frz { cls := .type "list", data := .seq vs.toArray } (.lst (ns.map V.int)))
    have at_a : Hh a = some (.frz { cls := .type "list", data := .seq vs.toArray } (.lst (ns.map V.int))) := upd_same
    have atT : ∀ p ∈ cs, Hh p.2 = some (.tbl #[]) := fun p hp => by
      show upd H0 a _ p.2 = _
      rw [upd_ne (fun e => notA ⟨p, hp, e⟩)]
      exact on _ ⟨p, hp, rfl⟩
    have atO : ∀ b, b ≠ a → Hh b = H0 b := fun b n => upd_ne n
    have only : OnlyT cs Hh := fun b => by
      by_cases n : b = a
      · exact .inr (.inr ⟨_, _, by rw [n]; exact at_a⟩)
      · by_cases m : isTab cs b
        · exact .inr (.inl m)
        · exact .inl (by rw [atO b n]; exact no b m)
    refine from_heapT Hh KX hns hb hbb hlim hg bmain hobj hr hd off empty F hbind (fun b u y => ?_) only atT (hsp _ only atT (.inl (.inr ⟨_, at_a⟩))) (hCX _) (fun b y => ?_) fun _ => lk
    · by_cases n : b = a
      · rw [n, at_a] at y
        obtain rfl := Option.some.inj y
        rw [n]
        exact ⟨hobj, by rw [List.length_map]; exact hl, vs, _, rv, hobj⟩
      · rw [atO b n] at y
        by_cases m : isTab cs b
        · rw [on b m] at y
          rw [← Option.some.inj y]
          exact tabOk _ b m
        · rw [no b m] at y
          cases y
    · by_cases n : b = a
      · exact .inl n
      · rw [atO b n] at y
        by_cases m : isTab cs b
        · exact .inr m
        · exact absurd (no b m) y
end
theorem walk_ofAT {l : PySem.W.OpenLaw} {n k : Nat} {q : Program} {loose : List Str} {XP : (Str → Option Value) → Heap → Prop} {YP : World → Heap → Prop} {d : DefRec} {CX : CXT} {x : Str}
    (hn : l.most = some n) (hn2 : n ≤ sizeLine) (hdf : d.params.defaults = []) (hr : Room k callerA)
    (F : ∀ (w : World) (mg : Str → Option Value) (fa : Addr) (h : Heap), YP w h → h.Ns mainGlobals mg → mg d.name = some (.ref fa) →
      ∃ (K : PySem.W.Frag) (fd : FuncData) (cs : List (Addr × Addr)) (sp : Sp), K.In h ∧ (∀ p ∈ cs, PySem.W.codeHdIn K p.1 p.2 = true) ∧ (∀ p ∈ cs, K.lookup p.2 = none) ∧ (∀ p ∈ cs, h.get? p.2 = some emptyT) ∧ (∀ (s : Shared) (u : Value), BindsTo s fd ⟨[u], []⟩ [(x, u)]) ∧
        (∀ (Hh : Hp) (a : Addr) (ns : List Int), ns.length ≤ n → OnlyT cs Hh → (∀ p ∈ cs, Hh p.2 = some (.tbl #[])) → SqL K Hh a (ns.map V.int) → sp [.ref a] Hh (fun v _ => v = .bl true) fun _ _ _ => False) ∧
        ∀ b0 : Heap, K.In b0 → b0.Ns mainGlobals mg → (∀ p ∈ cs, LamX.TabB b0 mg p.1 p.2) → FnA l.prog w K mg b0 CX k fa fd [x] sp)
    (hCX : ∀ (Hh : Hp) (s : Shared) (e : Value) (s' : Shared), CX [] Hh s (fun _ _ _ => False) e s' → False) :
    PySem.W.WalkO q loose XP YP l.row.toRowW d [] (fun f vs => PySem.call f vs) := by
  refine Att.attach_call hn hdf fun w s₀ s₁ mg mb fa o pm cd doc a vs ns G Y ho hd hcd hmg hobj hints hlen hg => ?_
  obtain ⟨K, fd, cs, sp, KX, h1, h2, h3, hb, hsp, hF⟩ := F w mg fa _ Y G.T.g hmg
  refine end_AT KX G.T.g G.T.b G.T.builtins G.T.nolimit hg G.T.bmain hobj hints (Nat.le_trans hlen hn2) hr h1 h2 h3 hF hb ?_ fun Hh e s' => hCX Hh s₁ e s'
  exact fun Hh hO hT hS => hsp Hh a ns hlen hO hT hS
/-! ### a hook that knows defs' code objects and their tables -/
def codeA (K : PySem.W.Frag) (f : Addr) : Addr := match K.lookup f with
  | some ⟨_, _, .func fd, _⟩ => (match fd.code with
    | .ref c => c
    | _ => 0)
  | _ => 0
/-- the code object of the def at f, its table -/
def cTA (K : PySem.W.Frag) (f : Addr) : Addr × Addr := (codeA K f, He.tabOf K (codeA K f))
def asQ (g : Addr → Option Obj) (n : Nat) : List Addr := He5.asA g n ++ [sysModules]
def tabsQ (g : Addr → Option Obj) (tf : List (PySem.W.Frag → Addr)) (K : PySem.W.Frag) : Bool := tf.all fun p => PySem.W.codeHdIn K (cTA K (p K)).1 (cTA K (p K)).2 && (match g (cTA K (p K)).2 with
  | some o => He.emptyTab o
  | none => false)
def smB (K : PySem.W.Frag) : Bool := match K.lookup sysModules with
  | some o => decide (o.cls = .type "dict")
  | none => false
theorem smB_ok {K : PySem.W.Frag} (h : smB K = true) : SmK K := by
  unfold smB at h
  split at h
  · rename_i o e
    exact ⟨o, e, of_decide_eq_true h⟩
  · cases h
abbrev AlR : Type := He.AlD × Bool
def obsR (n : Nat) (fa : List He.Fa) (fn : List He5.DefA) (tf : List (PySem.W.Frag → Addr)) (ex : PySem.W.Frag → Bool) (g : Addr → Option Obj) : AlR := (He5.obsA fa fn (He.frT g (asQ g n)), ex (He.frT g (asQ g n)) && tabsQ g tf (He.frT g (asQ g n)))
structure SaysR (fa : List He.Fa) (fn : List He5.DefA) (tf : List (PySem.W.Frag → Addr)) (ex : PySem.W.Frag → Bool) (h : Heap) (K : PySem.W.Frag) : Prop where
  t : He5.SaysA fa fn K
  more : ex K = true
  hd : ∀ p ∈ tf, PySem.W.codeHdIn K (cTA K (p K)).1 (cTA K (p K)).2 = true
  out : ∀ p ∈ tf, K.lookup (cTA K (p K)).2 = none
  empty : ∀ p ∈ tf, h.get? (cTA K (p K)).2 = some emptyT
theorem saysR_of {n : Nat} {fa : List He.Fa} {fn : List He5.DefA} {tf : List (PySem.W.Frag → Addr)} {ex : PySem.W.Frag → Bool} {h : Heap} (e : obsR n fa fn tf ex h.get? = (He5.valA fn, true)) : SaysR fa fn tf ex h (He.frT h.get? (asQ h.get? n)) := by
  have e1 : He5.obsA fa fn (He.frT h.get? (asQ h.get? n)) = He5.valA fn := congrArg (fun z : AlR => z.1) e
  have e2 : (ex (He.frT h.get? (asQ h.get? n)) && tabsQ h.get? tf (He.frT h.get? (asQ h.get? n))) = true := congrArg (fun z : AlR => z.2) e
  obtain ⟨h1, h2⟩ := He.ba e2
  have each : ∀ p ∈ tf, PySem.W.codeHdIn (He.frT h.get? (asQ h.get? n)) (cTA (He.frT h.get? (asQ h.get? n)) (p (He.frT h.get? (asQ h.get? n)))).1 (cTA (He.frT h.get? (asQ h.get? n)) (p (He.frT h.get? (asQ h.get? n)))).2 = true ∧
      ∃ o, h.get? (cTA (He.frT h.get? (asQ h.get? n)) (p (He.frT h.get? (asQ h.get? n)))).2 = some o ∧ He.emptyTab o = true := by
    intro p hp
    obtain ⟨h3, h4⟩ := He.ba (List.all_eq_true.mp h2 p hp)
    refine ⟨h3, ?_⟩
    split at h4
    · rename_i o q
      exact ⟨o, q, h4⟩
    · cases h4
  refine ⟨e1, h1, fun p hp => (each p hp).1, fun p hp => ?_, fun p hp => ?_⟩
  · obtain ⟨_, o, q, z⟩ := each p hp
    exact He.frT_none q z
  · obtain ⟨_, o, q, z⟩ := each p hp
    rw [q, He.emptyTab_eq z]
def hookR (n : Nat) (fa : List He.Fa) (fn : List He5.DefA) (tf : List (PySem.W.Frag → Addr)) (ex : PySem.W.Frag → Bool) : PySem.W.Hook where
  α := AlR
  obs := fun s => obsR n fa fn tf ex s.heap.get?
  val := fun _ => (He5.valA fn, true)
  says := fun _ h => ∃ K : PySem.W.Frag, K.In h ∧ SaysR fa fn tf ex h K
  of := fun _ _ e => ⟨_, He.frT_in, saysR_of e⟩
  keeps := fun _ _ _ ⟨K, hK, c⟩ k => ⟨K, PySem.W.Frag.In.keeps hK k, c.t, c.more, c.hd, c.out, fun p hp => k _ _ (c.empty p hp)⟩
theorem obsR_eq {n : Nat} {fa : List He.Fa} {fn : List He5.DefA} {tf : List (PySem.W.Frag → Addr)} {ex : PySem.W.Frag → Bool} {g : Addr → Option Obj} {s : Shared} (h : ∀ a, g a = s.heap.get? a) : obsR n fa fn tf ex g = (hookR n fa fn tf ex).obs s := by
  obtain rfl : g = s.heap.get? := funext h
  rfl
/-! ### a def whose code object is known -/
theorem fnP_okAT {P : Program} {w : World} {K : PySem.W.Frag} {mg : Str → Option Value} {base : Heap} {x qual : Str} {st : Stmt} {f : Addr} {fd : FuncData} {N ps : List Str} {k : Nat} {sp : Sp} {dvs : List V} (F : FnP K x qual st dvs f fd) (S : FnScope N ps (defScope st)) (len : ∀ vs H Q E, sp vs H Q E → vs.length = ps.length)
    (body : ∀ (A : Around) (outer : List Env) (s : Shared) (H : Hp) (vs : List V) (Q : VK) (E : XK), G0 (A.deeper (envOfC qual (defScope st) s.heap.objs.size f (.ref (codeA K f)))) → Room k (A.deeper (envOfC qual (defScope st) s.heap.objs.size f (.ref (codeA K f)))) → sp vs H Q E →
      ∃ t, PSs (cxOf CX0 P w K mg base N qual (defScope st) f (.ref (codeA K f)) A outer s H E).nox (defBody st) t ∧ t { nx := fun _ H' => Q .non H', rt := Q } (start N vs) H) :
    FnA P w K mg base CX0 (k + 1) f fd ps sp := by
  obtain ⟨oc, od, dV, kV, doc, pm, an, cdv, ct, osl, rfl, lk, hcd, _, _⟩ := F.ex
  obtain ⟨c, rfl⟩ := He.codeIn_ref hcd
  have ec : codeA K f = c := by
    unfold codeA
    rw [lk] <;> rfl
  refine ⟨len, fun A outer s H args us vs Q E g hr e0 hb r h => ?_⟩
  refine LamX.run_ofS lk hcd S hr e0 hb r (len _ _ _ _ h) fun hr2 => ?_
  rw [ec] at body
  obtain ⟨t, h1, q⟩ := body A outer s H vs Q E (g0_deeper g) hr2 h
  exact ⟨t, h1.nox, q⟩
end Q
namespace Q
open PySem PySem.Spec PyProof.Rows L2
theorem passX0 {X : Cx} {P : Program} {w : World} : Passes (L2.CX P w) X E0 := fun _ _ _ _ _ _ _ h => by
  obtain ⟨_, _, _, _, _, _, _, _, _, _, _, _, z⟩ := h
  exact z.elim
/-- an error of the class cls with f = v leaves a def that changes nothing -/
def RetX (G H : Hp) (cls : Addr) (f : Str) (v : V) (E : XK) : Prop := ∀ d H' G', Same H H' → Gh G' H' → Same G G' → (∀ a, H a ≠ none → G' a = G a) → G' d = some (.xd [(f, v)]) → E (.ref cls) (some d) H'
theorem retX_of {G H G' H' : Hp} {M : List Addr} {cls d : Addr} {f : Str} {v : V} {E : XK} (k : RetX G H cls f v E) (w : Wd ⟨H, G, [], []⟩ G' H' M) (hd : G' d = some (.xd [(f, v)])) : E (.ref cls) (some d) H' :=
  k d H' G' (fun a o h => w.kp a o (by simp) h) w.gh w.gr w.fr hd
theorem retX_use {e : En} {G H : Hp} {M : List Addr} {cls : Addr} {f : Str} {v : V} {E : XK} (w : Wd e G H M) (k : ∀ d G' H', Wd e G' H' M → Same G G' → Same H H' → G' d = some (.xd [(f, v)]) → E (.ref cls) (some d) H') : RetX G H cls f v E :=
  fun d H' G' s1 s2 s3 fr hd => ret_use (P := fun _ G' => G' d = some (.xd [(f, v)])) (Q := fun _ H' => E (.ref cls) (some d) H') w (fun _ G' H' w' a b p => k d G' H' w' a b p) .non H' G' s1 s2 s3 fr hd
def spStat (K : PySem.W.Frag) (C Cn Cm Cs : Addr) (b : Bool) : Sp := fun vs H Q E => ∃ (G : Hp) (x y : V) (tx ty : Value), vs = [x, y] ∧ Gh G H ∧ Kd K G x tx ∧ Kd K G y ty ∧ (∀ s, x = .str s → s.length ≤ 1000000) ∧
  (∀ cls f v, sayFault Cn Cm Cs x y (.bl b) = some (cls, f, v) → RetX G H cls f v E) ∧ (∀ s i, x = .str s → y = .int i → Right s i → Ret G H (fun v G' => ∃ a, v = .ref a ∧ SayAt C G' a s i b) Q)
theorem u_stat {K : PySem.W.Frag} {C Cn Cm Cs : Addr} {b : Bool} {e : En} {G H : Hp} {M : List Addr} {x y : V} {tx ty : Value} {Q : VK} {E : XK} (w : Wd e G H M) (kx : Kd K G x tx) (ky : Kd K G y ty) (hs : ∀ s, x = .str s → s.length ≤ 1000000)
    (bad : ∀ cls f v, sayFault Cn Cm Cs x y (.bl b) = some (cls, f, v) → ∀ d G' H', Wd e G' H' M → Same G G' → Same H H' → G' d = some (.xd [(f, v)]) → E (.ref cls) (some d) H')
    (good : ∀ s i, x = .str s → y = .int i → Right s i → ∀ a G' H', Wd e G' H' M → Same G G' → Same H H' → SayAt C G' a s i b → Q (.ref a) H') : spStat K C Cn Cm Cs b [x, y] H Q E :=
  ⟨G, x, y, tx, ty, rfl, w.gh, kx, ky, hs, fun cls f v h => retX_use w (bad cls f v h), fun s i e1 e2 r => ret_use w fun v G' H' w' s1 s2 ⟨a, e3, h⟩ => by subst e3; exact good s i e1 e2 r a G' H' w' s1 s2 h⟩
def spInv (C : Addr) : Sp := fun vs H Q _ => ∃ (G : Hp) (a : Addr) (z : Str) (i : Int) (b : Bool), vs = [.ref a] ∧ Gh G H ∧ SayAt C G a z i b ∧ Ret G H (fun v G' => ∃ c, v = .ref c ∧ SayAt C G' c z i (!b)) Q
theorem u_inv {C a : Addr} {e : En} {G H : Hp} {M : List Addr} {z : Str} {i : Int} {b : Bool} {Q : VK} {E : XK} (w : Wd e G H M) (h : SayAt C G a z i b) (k : ∀ c G' H', Wd e G' H' M → Same G G' → Same H H' → SayAt C G' c z i (!b) → Q (.ref c) H') : spInv C [.ref a] H Q E :=
  ⟨G, a, z, i, b, rfl, w.gh, h, ret_use w fun v G' H' w' s1 s2 ⟨c, e1, h1⟩ => by subst e1; exact k c G' H' w' s1 s2 h1⟩
/-- a right saying is made by the def that may refuse -/
theorem fault_none {Cn Cm Cs : Addr} {s : Str} {i : Int} {b : Bool} (r : Right s i) : sayFault Cn Cm Cs (.str s) (.int i) (.bl b) = none := by
  unfold sayFault
  rw [r.name, r.mom]
  rfl
theorem u_sayR {K : PySem.W.Frag} {C Cn Cm Cs : Addr} {e : En} {G H : Hp} {M : List Addr} {s : Str} {i : Int} {b : Bool} {Qv : VK} {E : XK} (w : Wd e G H M) (r : Right s i)
    (k : ∀ a G' H', Wd e G' H' M → Same G G' → Same H H' → SayAt C G' a s i b → Qv (.ref a) H') : MakeGo C (spSayX K C Cn Cm Cs) [.str s, .int i, .bl b] E H Qv :=
  u_sayX w (kd_str s) (kd_int i) (kd_bl b) (fun z e => by cases e; have := r.len; omega) (fun cls f v h => by rw [fault_none r] at h; cases h) fun s' i' b' e1 e2 e3 _ a G' H' w' s1 s2 h => by
    cases e1; cases e2; cases e3; exact k a G' H' w' s1 s2 h
/-- an instance is made by keywords -/
def MakeGoK (C : Addr) (sp : Sp) (gV : List V → List V → List V) (vs zs : List V) (E : XK) (H : Hp) (Q : VK) : Prop := ∀ x dx, H x = none → H dx = none → dx ≠ x → sp (gV (.ref x :: vs) zs) (upd (upd H dx (.own x)) x (.ins C dx [])) (fun v H2 => v = .non ∧ Q (.ref x) H2) E
theorem r_tMakeK {C : Addr} {n m : Nat} {sp : Sp} {gV : List V → List V → List V} {E : XK} {t tk : TA} {σ : L2.St} {H : Hp} {Q : VK} (q : t σ H fun vs H1 => tk σ H1 fun zs H2 => vs.length = n ∧ zs.length = m ∧ MakeGoK C sp gV vs zs E H2 Q) : tMakeK C n m sp gV E t tk σ H Q := q
theorem mkk_of {C : Addr} {sp : Sp} {gV : List V → List V → List V} {vs zs us : List V} {E : XK} {H : Hp} {Q : VK} (h : ∀ x, gV (.ref x :: vs) zs = .ref x :: us) (q : MakeGo C sp us E H Q) : MakeGoK C sp gV vs zs E H Q := fun x dx hx hd ne => by
  rw [h x]
  exact q x dx hx hd ne
/-- an odd value, told: its data, its kinds -/
structure Odd (K : PySem.W.Frag) (G : Hp) (v : V) (d : PyData) : Prop where
  dq : Dq K G v d
  kd : ∃ t, Kd K G v t
  sh : d.showable = true
  dp : d.depth ≤ 10
  sz : d.shown.length ≤ 1000
  st : ∀ s, v = .str s → s.length ≤ 1000
theorem Odd.same {K : PySem.W.Frag} {G G' : Hp} {v : V} {d : PyData} (h : Odd K G v d) (s : Same G G') : Odd K G' v d := ⟨same_dq s h.dq, h.kd.elim fun t k => ⟨t, k.same s⟩, h.sh, h.dp, h.sz, h.st⟩
section
variable {X : Cx} {CX : CXT} {k j : Nat} {C : Addr} {ks : List Str} {gV : List V → List V → List V} {sp : Sp} {E : XK} {x : Str} {p pos : Pos} {kws : List Keyword} {tk : TA}
theorem pe_makeKD (D : MkK X.prog X.w X.K X.mg X.base CX k x C 1 ks gV sp) (hr : Room j X.A) (hx : Passes CX X E) (hkw : PK X kws tk) (hj : k + 1 ≤ j := by decide) (hg : Gl X x := by rfl)
    (hall : (backToKw pos (keywordEach kws X.env)).all (·.1.isSome) = true := by rfl) (hks : (backToKw pos (keywordEach kws X.env)).filterMap (·.1) = ks := by rfl) (hdb : (x == ("__debug__" : Str)) = false := by decide)
    (hpl : ((backTo pos (starEach [] X.env)).any (·.1) || (backToKw pos (keywordEach kws X.env)).any (·.1.isNone)) = false := by rfl) : PE X (.Call (.Name x p) [] kws pos) (tMakeK C 0 ks.length sp gV E tNil tk) := by
  obtain ⟨f, fd, ps, g, h1, h2, h3, h4⟩ := D.ex
  exact pe_makeK0 h2 h4 (hr.mono hj) hg h1 h3 hx hkw hall hks hdb hpl
end
end Q
namespace Q
open PySem PySem.Spec PyProof.Rows L2
/-! ### odd values -/
section
variable {H : Hp} {Qv : VK} {σ : L2.St}
theorem r_dnewK (q : Lay 0 (.dK []) Qv H) : tDNewK σ H Qv := q.2
theorem r_rep {l : Addr} {k : Int} {xs : List V} (h : H l = some (.lst xs)) (h1 : -(2 ^ 63) ≤ k) (h2 : k < 2 ^ 63) (hz : xs.length * k.toNat ≤ sizeLine) (q : Lay 0 (.lst (List.replicate k.toNat xs).flatten) Qv H) : rRep (.ref l) (.int k) H Qv :=
  ⟨l, k, xs, rfl, rfl, h, h1, h2, hz, q.2⟩
theorem r_neg {a : Int} (q : Qv (.int (-a)) H) : rU (fun i => .int (-i)) (.int a) H Qv := ⟨a, rfl, q⟩
end
section
variable {K : PySem.W.Frag} {G : Hp}
theorem odd_str {z : Str} (h1 : (PyData.str z).shown.length ≤ 1000) (h2 : z.length ≤ 1000) : Odd K G (.str z) (.str z) := ⟨.str z, ⟨_, kd_str z⟩, rfl, by simp [PyData.depth], h1, fun s e => by cases e; exact h2⟩
theorem odd_int {i : Int} (h1 : (PyData.int i).shown.length ≤ 1000) (h2 : (PyData.int i).showable = true) : Odd K G (.int i) (.int i) := ⟨.int i, ⟨_, kd_int i⟩, h2, by simp [PyData.depth], h1, fun s e => by cases e⟩
theorem odd_bl {b : Bool} : Odd K G (.bl b) (.bool b) := ⟨.bl b, ⟨_, kd_bl b⟩, by cases b <;> rfl, by simp [PyData.depth], by cases b <;> decide +kernel, fun s e => by cases e⟩
theorem odd_non : Odd K G .non .none := ⟨.non, ⟨_, kd_non⟩, rfl, by decide, by decide +kernel, fun s e => by cases e⟩
theorem odd_lst {a : Addr} {xs : List V} {ds : List PyData} (h : G a = some (.lst xs)) (r : DqAll K G xs ds) (s1 : (PyData.list ds).showable = true) (s2 : (PyData.list ds).depth ≤ 10) (s3 : (PyData.list ds).shown.length ≤ 1000) : Odd K G (.ref a) (.list ds) :=
  ⟨.lst (SqL.of h) r, ⟨_, kd_lst h⟩, s1, s2, s3, fun s e => by cases e⟩
theorem odd_tup {a : Addr} {xs : List V} {ds : List PyData} (h : G a = some (.tup xs)) (r : DqAll K G xs ds) (s1 : (PyData.tuple ds).showable = true) (s2 : (PyData.tuple ds).depth ≤ 10) (s3 : (PyData.tuple ds).shown.length ≤ 1000) : Odd K G (.ref a) (.tuple ds) :=
  ⟨.tup (SqT.of h) r, ⟨_, kd_tup h⟩, s1, s2, s3, fun s e => by cases e⟩
theorem odd_dic {a : Addr} (h : G a = some (.dK [])) : Odd K G (.ref a) (.dict []) := ⟨.dic (ds := []) (.inl h) .nil .nil, ⟨_, kd_dK h⟩, rfl, by decide, by decide +kernel, fun s e => by cases e⟩
end
theorem words_odd : ∀ s ∈ resS, nmOk s = false ∧ (PyData.str s).shown.length ≤ 1000 ∧ s.length ≤ 1000 := by decide +kernel
def spOddN (K : PySem.W.Frag) : Sp := fun vs H Q _ => ∃ (G : Hp) (p c : Addr) (n : Nat), vs = [.ref p] ∧ Gh G H ∧ G p = none ∧ Cells c G ∧ PenAt p c n H ∧ n ≤ 1048000 ∧ RetP p c (n + 2) G H (fun v G' => nameV v = false ∧ ∃ d, Odd K G' v d) Q
theorem u_oddN {K : PySem.W.Frag} {e : En} {G H : Hp} {M : List Addr} {p c : Addr} {n : Nat} {Q : VK} {E : XK} (w : Wd e G H M) (hm : p ∈ M) (hc : Cells c G) (P : PenAt p c n H) (hn : n ≤ 1048000)
    (k : ∀ (v : V) (d : PyData) (G' H' : Hp), Wd e G' H' M → Same G G' → But p H H' → PenAt p c (n + 2) H' → nameV v = false → Odd K G' v d → Q v H') : spOddN K [.ref p] H Q E :=
  ⟨G, p, c, n, rfl, w.gh, (w.mu p hm).1, hc, P, hn, retP_use w hm fun v G' H' w' s b P' ⟨e1, d, e2⟩ => k v d G' H' w' s b P' e1 e2⟩
def spOddM (K : PySem.W.Frag) : Sp := fun vs H Q _ => ∃ (G : Hp) (p c : Addr) (n : Nat), vs = [.ref p] ∧ Gh G H ∧ G p = none ∧ Cells c G ∧ PenAt p c n H ∧ n ≤ 1048000 ∧ RetP p c (n + 1) G H (fun v G' => momV v 0 = false ∧ ∃ d, Odd K G' v d) Q
theorem u_oddM {K : PySem.W.Frag} {e : En} {G H : Hp} {M : List Addr} {p c : Addr} {n : Nat} {Q : VK} {E : XK} (w : Wd e G H M) (hm : p ∈ M) (hc : Cells c G) (P : PenAt p c n H) (hn : n ≤ 1048000)
    (k : ∀ (v : V) (d : PyData) (G' H' : Hp), Wd e G' H' M → Same G G' → But p H H' → PenAt p c (n + 1) H' → momV v 0 = false → Odd K G' v d → Q v H') : spOddM K [.ref p] H Q E :=
  ⟨G, p, c, n, rfl, w.gh, (w.mu p hm).1, hc, P, hn, retP_use w hm fun v G' H' w' s b P' ⟨e1, d, e2⟩ => k v d G' H' w' s b P' e1 e2⟩
end Q
namespace Q
open PySem PySem.Spec PyProof.Rows L2
/-! ### how long a shown datum is -/
theorem shownAll_map : ∀ ds : List PyData, PyData.shownAll ds = ds.map PyData.shown
  | [] => by simp [PyData.shownAll]
  | d :: r => by simp [PyData.shownAll, shownAll_map r]
theorem sh_list (ds : List PyData) {m : Nat} (h : (ds.map fun d => d.shown.length).sum ≤ m) : (PyData.list ds).shown.length ≤ m + 2 * ds.length + 3 := by
  have z := listText_len_le (PyData.shownAll ds)
  rw [shownAll_map, List.map_map, List.length_map] at z
  have e : (PyData.list ds).shown = listText (ds.map PyData.shown) := by rw [← shownAll_map]; simp [PyData.shown]
  rw [e]
  exact Nat.le_trans z (by have h' : (List.map ((fun x : Str => x.length) ∘ PyData.shown) ds).sum ≤ m := h; omega)
theorem sh_tup (ds : List PyData) {m : Nat} (h : (ds.map fun d => d.shown.length).sum ≤ m) : (PyData.tuple ds).shown.length ≤ m + 2 * ds.length + 3 := by
  have z := tupleText_len_le (PyData.shownAll ds)
  rw [shownAll_map, List.map_map, List.length_map] at z
  have e : (PyData.tuple ds).shown = tupleText (ds.map PyData.shown) := by rw [← shownAll_map]; simp [PyData.shown]
  rw [e]
  exact Nat.le_trans z (by have h' : (List.map ((fun x : Str => x.length) ∘ PyData.shown) ds).sum ≤ m := h; omega)
theorem sh_str {z : Str} {i : Int} (r : Right z i) : (PyData.str z).shown.length ≤ 82 := by
  have h := nmOk_str r.1
  unfold PyData.strOk at h
  rw [Array.all_eq_true_iff_forall_mem] at h
  have b := StrLaws.reprText_len z fun c hc => by
    have y := of_decide_eq_true (h c (Array.mem_toList_iff.mp hc))
    exact Nat.lt_trans y (by decide)
  have e : (PyData.str z).shown = reprText z := by simp [PyData.shown]
  have l := r.len
  rw [e]
  omega
theorem sh_int {i : Int} (h0 : 0 ≤ i) (h1 : i ≤ 1000000000000000000000000000000) : (PyData.int i).shown.length ≤ 31 := by
  have e : (PyData.int i).shown = Str.ofString (toString i) := by simp [PyData.shown]
  rw [e]
  exact lenZ h0 h1
theorem sh_bl {b : Bool} : (PyData.bool b).shown.length ≤ 5 := by cases b <;> decide +kernel
def toldD (z : Str) (i : Int) (b : Bool) : PyData := .list [.str z, .int i, .bool b, .tuple [.str z, .int i]]
def otherD (z : Str) (i : Int) (b : Bool) : PyData := .list [.str z, .int i, .bool b]
section
variable {z : Str} {i : Int} {b : Bool}
theorem told_show (r : Right z i) : (toldD z i b).showable = true ∧ (toldD z i b).depth ≤ 60 ∧ (toldD z i b).shown.length ≤ sizeLine := by
  have l := logZ r.2.1 r.2.2
  refine ⟨by simp [toldD, PyData.showable, PyData.showableAll, l], by simp [toldD, PyData.depth, PyData.depthAll], sz_m ?_⟩
  have a := sh_str r
  have c := sh_int r.2.1 r.2.2
  have d := sh_bl (b := b)
  have t := sh_tup [.str z, .int i] (m := 113) (by simp; omega)
  have f := sh_list [.str z, .int i, .bool b, .tuple [.str z, .int i]] (m := 400) (by simp at t ⊢; omega)
  exact Nat.le_trans f (by simp)
theorem other_show (r : Right z i) : (otherD z i b).showable = true ∧ (otherD z i b).depth ≤ 60 ∧ (otherD z i b).shown.length ≤ sizeLine := by
  have l := logZ r.2.1 r.2.2
  refine ⟨by simp [otherD, PyData.showable, PyData.showableAll, l], by simp [otherD, PyData.depth, PyData.depthAll], sz_m ?_⟩
  have a := sh_str r
  have c := sh_int r.2.1 r.2.2
  have d := sh_bl (b := b)
  have f := sh_list [.str z, .int i, .bool b] (m := 400) (by simp; omega)
  exact Nat.le_trans f (by simp)
theorem eqv_face {z : Str} {i : Int} {b b' : Bool} : PyData.eqv (faceD z i b) (faceD z i b') = (b == b') := by
  simp [faceD, PyData.eqv, PyData.eqvAll]
end
def spRight (C : Addr) : Sp := fun vs H Q _ => ∃ (G : Hp) (a : Addr) (z : Str) (i : Int) (b : Bool), vs = [.ref a, .str z, .int i, .bl b] ∧ Gh G H ∧ SayAt C G a z i b ∧ Ret G H (fun v _ => v = .bl true) Q
theorem u_right {C a : Addr} {e : En} {G H : Hp} {M : List Addr} {z : Str} {i : Int} {b : Bool} {Q : VK} {E : XK} (w : Wd e G H M) (h : SayAt C G a z i b) (k : ∀ G' H', Wd e G' H' M → Same G G' → Same H H' → Q (.bl true) H') : spRight C [.ref a, .str z, .int i, .bl b] H Q E :=
  ⟨G, a, z, i, b, rfl, w.gh, h, ret_use w fun v G' H' w' s1 s2 p => by subst p; exact k G' H' w' s1 s2⟩
end Q
namespace Q
open PySem PySem.Spec PyProof.Rows L2
/-! ### what is due: the odd values in order, heard or kept -/
inductive Dues (G : Hp) : List V → List (Str × V) → Prop
  | nil : Dues G [] []
  | cons {l : Addr} {s : Str} {u : V} {xs : List V} {ks : List (Str × V)} (h : G l = some (.tup [.str s, u])) (r : Dues G xs ks) : Dues G (.ref l :: xs) ((s, u) :: ks)
theorem Dues.same {G G' : Hp} {xs : List V} {ks : List (Str × V)} (h : Dues G xs ks) (s : Same G G') : Dues G' xs ks := by
  induction h with
  | nil => exact .nil
  | cons h _ ih => exact .cons (s _ _ h) ih
theorem Dues.snoc {G : Hp} {xs : List V} {ks : List (Str × V)} {l : Addr} {s : Str} {u : V} (r : Dues G xs ks) (h : G l = some (.tup [.str s, u])) : Dues G (xs ++ [.ref l]) (ks ++ [(s, u)]) := by
  induction r with
  | nil => exact .cons h .nil
  | cons h2 _ ih => exact .cons h2 ih
theorem Dues.len {G : Hp} {xs : List V} {ks : List (Str × V)} (r : Dues G xs ks) : xs.length = ks.length := by
  induction r with
  | nil => rfl
  | cons _ _ ih => simp [ih]
theorem Dues.get {G : Hp} {xs : List V} {ks : List (Str × V)} (r : Dues G xs ks) : ∀ {j : Nat} {x : V}, xs[j]? = some x → ∃ l s u, x = .ref l ∧ ks[j]? = some (s, u) ∧ G l = some (.tup [.str s, u]) := by
  induction r with
  | nil => intro j x h; simp at h
  | cons h2 _ ih =>
    intro j x h
    cases j with
    | zero => exact ⟨_, _, _, (Option.some.inj h).symm, rfl, h2⟩
    | succ j => exact ih (by simpa using h)
def pickK (bs : List (Bool × Str × V)) (i : Nat) : List (Str × V) := (bs.take i).filterMap fun t => if t.1 = true then some t.2 else none
theorem pick_succ {bs : List (Bool × Str × V)} {i : Nat} {b : Bool} {s : Str} {u : V} (h : bs[i]? = some (b, s, u)) : pickK bs (i + 1) = pickK bs i ++ (if b = true then [(s, u)] else []) := by
  unfold pickK
  rw [List.take_add_one, h, List.filterMap_append]
  cases b <;> rfl
/-- what a law expects to be shown: None, or the first of the due -/
structure DueD (K : PySem.W.Frag) (G : Hp) (o : Option (Str × V)) (D : PyData) : Prop where
  non : o = none → D = .none
  som : ∀ s u, o = some (s, u) → ∃ d, Dq K G u d ∧ D = .tuple [.str s, d]
  sh : D.showable = true
  dp : D.depth ≤ 60
  sz : D.shown.length ≤ sizeLine
theorem DueD.same {K : PySem.W.Frag} {G G' : Hp} {o : Option (Str × V)} {D : PyData} (h : DueD K G o D) (s : Same G G') : DueD K G' o D :=
  ⟨h.non, fun a u e => (h.som a u e).elim fun d x => ⟨d, same_dq s x.1, x.2⟩, h.sh, h.dp, h.sz⟩
theorem sign_len : ∀ s ∈ [("name" : Str), "moment", "saying"], (PyData.str s).shown.length ≤ 20 := by decide +kernel
theorem dueD_of {K : PySem.W.Frag} {G : Hp} (o : Option (Str × V)) (h : ∀ s u, o = some (s, u) → s ∈ [("name" : Str), "moment", "saying"] ∧ ∃ d, Odd K G u d) : ∃ D, DueD K G o D := by
  cases o with
  | none => exact ⟨.none, fun _ => rfl, fun s u e => (by cases e), rfl, by decide, sz_m (by decide +kernel)⟩
  | some t =>
    obtain ⟨s, u⟩ := t
    obtain ⟨hs, d, od⟩ := h s u rfl
    have l1 := sign_len s hs
    have l2 := od.sz
    have l3 := od.dp
    refine ⟨.tuple [.str s, d], fun e => (by cases e), fun s' u' e => ?_, by simp [PyData.showable, PyData.showableAll, od.sh], ?_, sz_m ?_⟩
    · cases e
      exact ⟨d, od.dq, rfl⟩
    · simp [PyData.depth, PyData.depthAll]
      omega
    · have z := sh_tup [.str s, d] (m := 1020) (by simp; omega)
      exact Nat.le_trans z (by simp)
theorem dueD_list {K : PySem.W.Frag} {G : Hp} {xs : List V} {ks : List (Str × V)} {D : PyData} (r : Dues G xs ks) (h : DueD K G ks.head? D) : ∃ v, atI (xs ++ [V.non]) 0 = some v ∧ Dq K G v D := by
  cases r with
  | nil =>
    rw [h.non rfl]
    exact ⟨.non, rfl, .non⟩
  | cons h1 _ =>
    obtain ⟨d, q, e⟩ := h.som _ _ rfl
    rw [e]
    exact ⟨_, atI_nat (j := 0) rfl, .tup (SqT.of h1) (.cons (.str _) (.cons q .nil))⟩
def FaultO (kd : List (Addr × Str × Str)) (F : Option (Addr × Str × V)) (o : Option (Str × V)) : Prop := (F = none → o = none) ∧ ∀ cls f v, F = some (cls, f, v) → ∃ sg, o = some (sg, v) ∧ (cls, sg, f) ∈ kd
theorem faultO_some {kd : List (Addr × Str × Str)} {F : Option (Addr × Str × V)} {o : Option (Str × V)} {cls : Addr} {f sg : Str} {v : V} (h : F = some (cls, f, v)) (ho : o = some (sg, v)) (hk : (cls, sg, f) ∈ kd) : FaultO kd F o :=
  ⟨fun e => (by rw [h] at e; cases e), fun c g u e => (by rw [h] at e; cases e; exact ⟨sg, ho, hk⟩)⟩
theorem faultO_none {kd : List (Addr × Str × Str)} {F : Option (Addr × Str × V)} {o : Option (Str × V)} (h : F = none) (ho : o = none) : FaultO kd F o := ⟨fun _ => ho, fun c g u e => (by rw [h] at e; cases e)⟩
abbrev kdL (Cn Cm Cs : Addr) : List (Addr × Str × Str) := [(Cn, "name", "name"), (Cm, "moment", "moment"), (Cs, "saying", "value")]
abbrev bsL (c0 c1 c2 : Bool) (v1 v2 v3 : V) : List (Bool × Str × V) := [(c0, "name", v1), (c1, "moment", v2), (c2, "saying", v3)]
def noSay (t : Str × V) : Bool := !decide (t.1 = ("saying" : Str))
section
variable {K : PySem.W.Frag} {G : Hp} {Cn Cm Cs : Addr} {c0 c1 c2 : Bool} {v1 v2 v3 : V} {z : Str} {n : Int} {b : Bool}
theorem faultO3 (h1 : nameV v1 = false) (h2 : momV v2 0 = false) (h3 : isB v3 = false) (r : Right z n) : FaultO (kdL Cn Cm Cs) (sayFault Cn Cm Cs (if c0 = true then v1 else .str z) (if c1 = true then v2 else .int n) (if c2 = true then v3 else .bl b)) (pickK (bsL c0 c1 c2 v1 v2 v3) 3).head? := by
  cases c0 with
  | true => exact faultO_some (fault_n h1) rfl (by simp)
  | false =>
    cases c1 with
    | true => exact faultO_some (fault_m r.name h2) rfl (by simp)
    | false =>
      cases c2 with
      | true => exact faultO_some (fault_s r.name r.mom h3) rfl (by simp)
      | false => exact faultO_none (fault_none r) rfl
theorem faultO2 (h1 : nameV v1 = false) (h2 : momV v2 0 = false) (r : Right z n) : FaultO (kdL Cn Cm Cs) (sayFault Cn Cm Cs (if c0 = true then v1 else .str z) (if c1 = true then v2 else .int n) (.bl b)) ((pickK (bsL c0 c1 c2 v1 v2 v3) 3).filter noSay).head? := by
  cases c0 with
  | true => exact faultO_some (fault_n h1) (by cases c1 <;> cases c2 <;> rfl) (by simp)
  | false =>
    cases c1 with
    | true => exact faultO_some (fault_m r.name h2) (by cases c2 <;> rfl) (by simp)
    | false => exact faultO_none (fault_none r) (by cases c2 <;> rfl)
theorem odd_any {s : Str} {u : V} {d1 d2 d3 : PyData} (o1 : Odd K G v1 d1) (o2 : Odd K G v2 d2) (o3 : Odd K G v3 d3) (h : (s, u) ∈ pickK (bsL c0 c1 c2 v1 v2 v3) 3) : s ∈ [("name" : Str), "moment", "saying"] ∧ ∃ d, Odd K G u d := by
  obtain ⟨t, ht, e⟩ := List.mem_filterMap.mp h
  simp only [List.take_succ_cons, List.take_zero, List.mem_cons, List.not_mem_nil, or_false] at ht
  rcases ht with rfl | rfl | rfl
  · cases c0
    · cases e
    · cases e; exact ⟨by simp, _, o1⟩
  · cases c1
    · cases e
    · cases e; exact ⟨by simp, _, o2⟩
  · cases c2
    · cases e
    · cases e; exact ⟨by simp, _, o3⟩
end
section
variable {K : PySem.W.Frag} {C Cn Cm Cs : Addr} {e : En} {G H : Hp} {M : List Addr} {x y z : V} {tx ty tz : Value} {Q Q' : VK} {E : XK} {D : PyData} {o : Option (Str × V)} {kd : List (Addr × Str × Str)} {b : Bool}
theorem hear_bad (hE : ∀ cls d H1, HearX kd Q cls d H1 → E cls d H1) (hD : DueD K G o D) (k : ∀ x G' H', Wd e G' H' M → Same G G' → Same H H' → Dq K G' x D → Q x H') {cls : Addr} {f sg : Str} {v : V} (ho : o = some (sg, v)) (hk : (cls, sg, f) ∈ kd)
    {d : Addr} {G' H' : Hp} (w' : Wd e G' H' M) (s' : Same G G') (t' : Same H H') (hd : G' d = some (.xd [(f, v)])) : E (.ref cls) (some d) H' := by
  refine hE _ _ _ ⟨e, G', M, cls, sg, f, v, d, w', rfl, rfl, hd, hk, fun l G2 H2 w2 s2 t2 hl => ?_⟩
  obtain ⟨dv, q, eD⟩ := hD.som _ _ ho
  have s3 := s'.trans s2
  refine k _ G2 H2 w2 s3 (t'.trans t2) ?_
  rw [eD]
  exact .tup (SqT.of hl) (.cons (.str _) (.cons (same_dq s3 q) .nil))
theorem hear_good (hQ : ∀ v H1, HearN Q H1 → Q' v H1) (hD : DueD K G o D) (k : ∀ x G' H', Wd e G' H' M → Same G G' → Same H H' → Dq K G' x D → Q x H') (ho : o = none) {G' H' : Hp} (w' : Wd e G' H' M) (s' : Same G G') (t' : Same H H') (v : V) : Q' v H' := by
  refine hQ _ _ ⟨e, G', M, w', fun G2 H2 w2 s2 t2 => k _ G2 H2 w2 (s'.trans s2) (t'.trans t2) ?_⟩
  rw [hD.non ho]
  exact .non
theorem u_hear3 (w : Wd e G H M) (kx : Kd K G x tx) (ky : Kd K G y ty) (kz : Kd K G z tz) (hs : ∀ s, x = .str s → s.length ≤ 1000000) (hD : DueD K G o D) (hF : FaultO kd (sayFault Cn Cm Cs x y z) o)
    (hE : ∀ cls d H1, HearX kd Q cls d H1 → E cls d H1) (hQ : ∀ v H1, HearN Q H1 → Q' v H1) (k : ∀ x G' H', Wd e G' H' M → Same G G' → Same H H' → Dq K G' x D → Q x H') : MakeGo C (spSayX K C Cn Cm Cs) [x, y, z] E H Q' := by
  refine u_sayX w kx ky kz hs (fun cls f v hf d G' H' w' s' t' hd => ?_) fun s i b e1 e2 e3 r a G' H' w' s' t' _ => ?_
  · obtain ⟨sg, ho, hk⟩ := hF.2 cls f v hf
    exact hear_bad hE hD k ho hk w' s' t' hd
  · subst e1 e2 e3
    exact hear_good hQ hD k (hF.1 (fault_none r)) w' s' t' _
theorem u_hear2 (w : Wd e G H M) (kx : Kd K G x tx) (ky : Kd K G y ty) (hs : ∀ s, x = .str s → s.length ≤ 1000000) (hD : DueD K G o D) (hF : FaultO kd (sayFault Cn Cm Cs x y (.bl b)) o)
    (hE : ∀ cls d H1, HearX kd Q cls d H1 → E cls d H1) (hQ : ∀ v H1, HearN Q H1 → Q' v H1) (k : ∀ x G' H', Wd e G' H' M → Same G G' → Same H H' → Dq K G' x D → Q x H') : spStat K C Cn Cm Cs b [x, y] H Q' E := by
  refine u_stat w kx ky hs (fun cls f v hf d G' H' w' s' t' hd => ?_) fun s i e1 e2 r a G' H' w' s' t' _ => ?_
  · obtain ⟨sg, ho, hk⟩ := hF.2 cls f v hf
    exact hear_bad hE hD k ho hk w' s' t' hd
  · subst e1 e2
    exact hear_good hQ hD k (hF.1 (fault_none r)) w' s' t' _
end
/-! ### a lambda is handed to the def that hears -/
theorem r_lam {T : List (Addr × Str)} {kd : List (Addr × Str × Str)} {t : XK → TE} {σ : L2.St} {e : En} {G H : Hp} {M : List Addr} {Q : VK} (w : Wd e G H M) (eT : e.T = T) (cov : ∀ a, e.H0 a ≠ none → (∃ q, (a, q) ∈ e.T) ∨ (a ∉ e.P0 ∧ ∀ o, e.H0 a = some o → NoT o)) (inP : ∀ p ∈ e.T, p.1 ∈ e.P0)
    (k : ∀ (H1 : Hp) (E : XK) (Q' : VK), Wd e G H1 M → LamX.ExtN H H1 → (∀ cls d H2, HearX kd Q cls d H2 → E cls d H2) → (∀ v H2, HearN Q H2 → Q' v H2) → t E σ H1 Q') : LamX.tLam T (THeard kd) t σ H Q := by
  subst eT
  exact ⟨w.tb, fun H1 x tb E Q' hE hQ => k H1 E Q' (wd_lam w x tb cov inP) x hE hQ⟩
theorem PenAt.ext {p c : Addr} {n : Nat} {H H1 : Hp} (P : PenAt p c n H) (x : LamX.ExtN H H1) : PenAt p c n H1 := by
  obtain ⟨a, g, h1, h2, h3⟩ := P
  exact ⟨a, g, x _ _ h1 (fun ps z => by cases z), h2, h3⟩
theorem gh_of {c t : Addr} {H : Hp} (only : OnlyT [(c, t)] H) : Gh (L2.del H t) H := by
  have off : ∀ a o, L2.del H t a = some o → a ≠ t := fun a o z y => by
    rw [y, del_same] at z
    cases z
  refine ⟨fun a o z => ?_, fun a o z => ?_⟩
  · rw [del_ne (off a o z)] at z
    exact z
  · have n := off a o z
    rw [del_ne n] at z
    rcases only a with y | ⟨p, hp, y⟩ | ⟨u, xs, y⟩
    · rw [y] at z; cases z
    · rw [List.mem_singleton.mp hp] at y
      exact absurd y.symm n
    · rw [y] at z
      cases z
      intro ps q
      cases q
theorem sqL_of {K : PySem.W.Frag} {H : Hp} {a t : Addr} {xs : List V} (h : SqL K H a xs) (ht : H t = some (.tbl #[])) : SqL K (L2.del H t) a xs := by
  have n : (∃ o, H a = some o ∧ ∀ ps, o ≠ .tbl ps) → L2.del H t a = H a := fun ⟨o, z, no⟩ => by
    refine del_ne (fun y => ?_)
    rw [y, ht] at z
    exact no _ (Option.some.inj z).symm
  rcases h with (h | ⟨o, h⟩) | h
  · exact .inl (.inl ((n ⟨_, h, fun ps z => by cases z⟩).trans h))
  · exact .inl (.inr ⟨o, (n ⟨_, h, fun ps z => by cases z⟩).trans h⟩)
  · exact .inr h
def rReprQK (K : PySem.W.Frag) : List V → Hp → VK → Prop := rReprQ K
theorem r_reprQ {K : PySem.W.Frag} {H : Hp} {x : V} {d : PyData} {Qv : VK} (h : Dq K H x d) (h1 : d.showable = true) (h2 : d.depth ≤ 60) (h3 : d.shown.length ≤ sizeLine) (q : Qv (.str d.shown) H) : rReprQ K [x] H Qv := ⟨x, d, rfl, h, h1, h2, h3, q⟩
theorem r_cval {K : PySem.W.Frag} {ta : TE} {f : Str} {σ : L2.St} {H : Hp} {Q : VK} (q : ta σ H fun x H1 => ∃ C mc v u, x = .ref C ∧ ClX.CRead K C mc ∧ ClX.CVal K C mc f v u ∧ Q v H1) : ClX.tCVal K ta f σ H Q := q
end Q
namespace Q
open PySem PySem.Spec PyProof.Rows L2
/-! ### Bools that tell what a class is -/
def oexObj (K : PySem.W.Frag) (D : Addr) : Bool := match K.lookup D with
  | some ⟨.type "type", _, .cls r, slots⟩ => (match r.mro, slots.toList with
    | .ref E :: tail, [_, _, _, _, some (.builtin id), _] => decide (E = D) && (decide (id = "ValueError.__new__") && (!r.hasDel && (r.hasDict && PySem.HandSPX.refsVE tail)))
    | _, _ => false)
  | _ => false
def oexB (K : PySem.W.Frag) (D : Addr) : Bool := oexObj K D && (He.eqO (PySem.W.findIn K (.ref D) "__setattr__") (some (some (.builtin "object.__setattr__"))) &&
  (decide (PySem.W.subIn K (.ref D) (.type "BaseException") = some true) && (decide (PySem.W.typeIn K (.ref D) = some (.type "type")) && PySem.W.keepIn K (.ref D))))
theorem oexB_ok {K : PySem.W.Frag} {D : Addr} (h : oexB K D = true) : OexC K D := by
  obtain ⟨h0, h⟩ := He.ba h
  obtain ⟨h1, h⟩ := He.ba h
  obtain ⟨h2, h⟩ := He.ba h
  obtain ⟨h3, h4⟩ := He.ba h
  refine ⟨?_, He.eqO_ok h1, of_decide_eq_true h2, of_decide_eq_true h3, h4⟩
  clear h h1 h2 h3 h4
  unfold oexObj at h0
  split at h0
  · rename_i od r slots lk
    split at h0
    · rename_i E tail s0 s1 s2 s3 id s5 em es
      obtain ⟨g1, g⟩ := He.ba h0
      obtain ⟨g2, g⟩ := He.ba g
      obtain ⟨g3, g⟩ := He.ba g
      obtain ⟨g4, g5⟩ := He.ba g
      have q1 := of_decide_eq_true g1
      have q2 := of_decide_eq_true g2
      subst q1 q2
      cases r
      simp only [Bool.not_eq_true'] at g3
      dsimp only at em g3 g4
      subst em g3 g4
      have sl : slots = #[s0, s1, s2, s3, some (.builtin "ValueError.__new__"), s5] := Array.toList_inj.mp es
      subst sl
      exact ⟨_, _, _, _, _, _, _, _, _, _, _, _, _, _, _, lk, g5⟩
    · cases h0
  · cases h0
def hdB (K : PySem.W.Frag) (D : Addr) (f : Str) : Bool := xfB K D && (He.eqO (PySem.W.findIn K (.ref D) "__class__") (some (some (.builtin "object.__class__"))) && (He.eqO (PySem.W.findIn K (.ref D) f) (some none) &&
  decide ((PySem.W.specialIn K (.builtin "object.__class__") "__get__" = some (some (.builtin "getset_descriptor.__get__")) ∧ PySem.W.takesIn K (.builtin "object.__class__") = some true) ∧ PySem.W.mroIn K D (.type "object") = some true ∧ PySem.W.kitOne K (.ref D) (.type "ValueError") = some true)))
theorem hdB_ok {K : PySem.W.Frag} {D : Addr} {f : Str} (h : hdB K D f = true) : HdC K D f := by
  obtain ⟨h0, h⟩ := He.ba h
  obtain ⟨h1, h⟩ := He.ba h
  obtain ⟨h2, h3⟩ := He.ba h
  obtain ⟨⟨a, b⟩, c, d⟩ := of_decide_eq_true h3
  have x := xfB_ok h0
  exact ⟨x, ⟨x.ga, x.gg, x.exC, x.hdC, He.eqO_ok h1, a, b, c⟩, He.eqO_ok h2, d⟩
def readB (K : PySem.W.Frag) (D : Addr) : Bool := PySem.W.readsIn K D (.type "type") && He.eqO (PySem.W.specialIn K (.ref D) "__getattribute__") (some (some (.builtin "type.__getattribute__")))
theorem readB_ok {K : PySem.W.Frag} {D : Addr} (h : readB K D = true) : ClX.CRead K D (.type "type") := by
  obtain ⟨h0, h1⟩ := He.ba h
  exact ⟨h0, He.eqO_ok h1⟩
def cvalB (K : PySem.W.Frag) (D : Addr) (f : Str) (v : V) : Bool := match PySem.W.findCls K (.ref D) (.type "type") f with
  | some (.val u) => He.relB v u
  | _ => false
theorem cvalB_ok {K : PySem.W.Frag} {D : Addr} {f : Str} {v : V} (h : cvalB K D f v = true) : ∃ u, ClX.CVal K D (.type "type") f v u := by
  unfold cvalB at h
  split at h
  · rename_i u e
    exact ⟨u, e, He.relB_ok h⟩
  · cases h
def statB (K : PySem.W.Frag) (D : Addr) (m : Str) : Bool := He5.wrapB K D "staticmethod" "staticmethod.__get__" m && PySem.W.keepIn K (.ref (He5.wf K D "staticmethod" m))
theorem statB_ok {K : PySem.W.Frag} {D : Addr} {m : Str} (h : statB K D m = true) : CStat K D (.type "type") m (He.ma K D m) (He5.wf K D "staticmethod" m) := by
  obtain ⟨h0, h1⟩ := He.ba h
  obtain ⟨h2, h3⟩ := He5.wrapB_ok h0
  exact ⟨h2, h3, h1⟩
theorem isFn_ty {K : PySem.W.Frag} {v : Value} (h : PySem.W.isFn K v = true) : PySem.W.typeIn K v = some (.type "function") := by
  unfold PySem.W.isFn at h
  exact beq_iff_eq.mp h
end Q
namespace Q
open PySem PySem.Spec PyProof.Rows L2
/-! ### isinstance of a kept exception, several classes -/
theorem refs_of {cs : List Addr} : ∀ {us : List Value}, Vals (cs.map V.ref) us → us = cs.map Value.ref := by
  induction cs with
  | nil => intro us r; cases r; rfl
  | cons c cs ih =>
    intro us r
    cases r with
    | cons h t =>
      rw [ih t]
      cases (show _ = Value.ref c from h)
      rfl
def rIsKT (K : PySem.W.Frag) : List V → Hp → VK → Prop := fun xs H Q => ∃ (a C : Addr) (d : Option Addr) (tp : Addr) (cs : List Addr) (b : Bool), xs = [.ref a, .ref tp] ∧ H a = some (ExK (.ref C) d a) ∧ (∀ dd, d = some dd → ∃ fs, H dd = some (.xd fs)) ∧ H tp = some (.tup (cs.map V.ref)) ∧
  ExcC K C ∧ PySem.W.kitAny K (.ref C) (cs.map Value.ref) = some b ∧ Q (.bl b) H
theorem call_isKT {X : Cx} : CallR X (.builtin "isinstance") (rIsKT X.K) := by
  intro pins s σ H xs us Q I r h
  obtain ⟨a, C, d, tp, cs, b, rfl, ea, dd, et, T, e, q⟩ := h
  obtain ⟨u1, u2, rfl, r1, r2⟩ := r.two
  cases (show u1 = Value.ref a from r1)
  cases (show u2 = Value.ref tp from r2)
  obtain ⟨oe, vs, here, z, hd⟩ := exK_at I ea
  have nc : PySem.W.notCls oe = true := by
    unfold PySem.W.notCls
    rw [hd] <;> rfl
  have J : ∃ od, PySem.W.InstAt s.heap a oe C od := by
    cases d with
    | none => exact ⟨none, here, z.1, nc, by rw [z.2]; trivial⟩
    | some d0 =>
      obtain ⟨fs, ed⟩ := dd d0 rfl
      obtain ⟨mA, names, _⟩ := (show ObjOk X.prog X.w H s.heap d0 (.xd fs) from I.hok d0 _ ed)
      obtain ⟨od, ho, _⟩ := lookIn_ns names
      exact ⟨some od, here, z.1, nc, by rw [z.2]; exact ho⟩
  obtain ⟨od, J⟩ := J
  have hcl : (PySem.W.clsIn X.K C).isSome = true := by
    obtain ⟨cd, hc, _⟩ := PySem.W.any_some T.hd
    rw [hc]
    rfl
  obtain ⟨_, its, rv, ot, g1, g2, n, g3⟩ := (show ObjOk X.prog X.w H s.heap tp (.tup (cs.map V.ref)) from I.hok tp _ et)
  have eu := refs_of rv
  subst eu
  obtain ⟨oc, od2, dt, sl⟩ := ot
  dsimp only at g2 g3
  subst g2 g3
  exact PySem.W.kia_tup (PySem.W.kitx_exc hcl T.hg T.hk T.hs T.ha T.hn T.ht T.hm) I.kIn J g1 e (fun z => nomatch z) fun tk => ⟨.bl b, H, I.kept (t' := tk) fun _ _ z => z, rfl, q⟩
end Q
namespace Q
open PySem PySem.Spec PyProof.Rows L2
/-! ### a saying moved in time, renamed -/
def spLater (C Cm : Addr) : Sp := fun vs H Q E => ∃ (G : Hp) (a : Addr) (z : Str) (i : Int) (b : Bool) (k : Int), vs = [.ref a, .int k] ∧ Gh G H ∧ SayAt C G a z i b ∧ (Right z (i + k) → Ret G H (fun v G' => ∃ c, v = .ref c ∧ SayAt C G' c z (i + k) b) Q) ∧
  (momV (.int (i + k)) 0 = false → RetX G H Cm "moment" (.int (i + k)) E)
theorem u_later {C Cm a : Addr} {e : En} {G H : Hp} {M : List Addr} {z : Str} {i k : Int} {b : Bool} {Q : VK} {E : XK} (w : Wd e G H M) (h : SayAt C G a z i b)
    (good : Right z (i + k) → ∀ c G' H', Wd e G' H' M → Same G G' → Same H H' → SayAt C G' c z (i + k) b → Q (.ref c) H')
    (bad : momV (.int (i + k)) 0 = false → ∀ d G' H', Wd e G' H' M → Same G G' → Same H H' → G' d = some (.xd [("moment", .int (i + k))]) → E (.ref Cm) (some d) H') : spLater C Cm [.ref a, .int k] H Q E :=
  ⟨G, a, z, i, b, k, rfl, w.gh, h, fun r => ret_use w fun v G' H' w' s1 s2 ⟨c, e1, h1⟩ => by subst e1; exact good r c G' H' w' s1 s2 h1, fun n => retX_use w (bad n)⟩
def spRenamed (C : Addr) : Sp := fun vs H Q _ => ∃ (G : Hp) (a d : Addr) (z y : Str) (i : Int) (b : Bool) (kvs : List (Key × V)), vs = [.ref a, .ref d] ∧ Gh G H ∧ SayAt C G a z i b ∧ H d = some (.dK kvs) ∧ (valV kvs (.inr z)).getD (.str z) = .str y ∧ Right y i ∧
  Ret G H (fun v G' => ∃ c, v = .ref c ∧ SayAt C G' c y i b) Q
theorem u_renamed {C a d : Addr} {e : En} {G H : Hp} {M : List Addr} {z y : Str} {i : Int} {b : Bool} {kvs : List (Key × V)} {Q : VK} {E : XK} (w : Wd e G H M) (h : SayAt C G a z i b) (hd : H d = some (.dK kvs)) (hy : (valV kvs (.inr z)).getD (.str z) = .str y) (r : Right y i)
    (k : ∀ c G' H', Wd e G' H' M → Same G G' → Same H H' → SayAt C G' c y i b → Q (.ref c) H') : spRenamed C [.ref a, .ref d] H Q E :=
  ⟨G, a, d, z, y, i, b, kvs, rfl, w.gh, h, hd, hy, r, ret_use w fun v G' H' w' s1 s2 ⟨c, e1, h1⟩ => by subst e1; exact k c G' H' w' s1 s2 h1⟩
end Q
namespace Q
open PySem PySem.Spec PyProof.Rows L2
/-! ### what was heard: what one kind of error keeps, or None -/
def HearV (C : Addr) (f : Str) (Q : VK) : XK := fun cls d H1 => ∃ (e : En) (G : Hp) (M : List Addr) (v : V) (dd : Addr), Wd e G H1 M ∧ cls = .ref C ∧ d = some dd ∧ G dd = some (.xd [(f, v)]) ∧ ∀ G' H', Wd e G' H' M → Same G G' → Same H1 H' → Q v H'
def TKept (C : Addr) (f : Str) : (XK → Hp → VK → Prop) → Hp → VK → Prop := fun tl H Q => ∀ (E : XK) (Q' : VK), (∀ cls d H1, HearV C f Q cls d H1 → E cls d H1) → (∀ v H1, HearN Q H1 → Q' v H1) → tl E H Q'
end Q
namespace Q
open PySem PySem.Spec PyProof.Rows L2
/-! ### sorted, a list of pairs of texts -/
def twoT (p : Str × Str) : PyData := .tuple [.str p.1, .str p.2]
inductive PairsAt (H : Hp) : List V → List (Str × Str) → Prop
  | nil : PairsAt H [] []
  | cons {b : Addr} {p : Str × Str} {vs : List V} {ds : List (Str × Str)} (h : H b = some (.tup [.str p.1, .str p.2])) (r : PairsAt H vs ds) : PairsAt H (.ref b :: vs) (p :: ds)
theorem PairsAt.same {H H' : Hp} {vs : List V} {ds : List (Str × Str)} (r : PairsAt H vs ds) (s : Same H H') : PairsAt H' vs ds := by
  induction r with
  | nil => exact .nil
  | cons h _ ih => exact .cons (s _ _ h) ih
theorem PairsAt.snoc {H : Hp} {vs : List V} {ds : List (Str × Str)} {b : Addr} {p : Str × Str} (r : PairsAt H vs ds) (h : H b = some (.tup [.str p.1, .str p.2])) : PairsAt H (vs ++ [.ref b]) (ds ++ [p]) := by
  induction r with
  | nil => exact .cons h .nil
  | cons h2 _ ih => exact .cons h2 ih
theorem PairsAt.at_ {H : Hp} {vs : List V} {ds : List (Str × Str)} (r : PairsAt H vs ds) : ∃ ts : List (Addr × Str × Str), vs = ts.map (fun t => V.ref t.1) ∧ ds = ts.map (·.2) ∧ ∀ t ∈ ts, H t.1 = some (.tup [.str t.2.1, .str t.2.2]) := by
  induction r with
  | nil => exact ⟨[], rfl, rfl, fun t h => by cases h⟩
  | cons h _ ih =>
    rename_i b p vs ds _
    obtain ⟨ts, e1, e2, h2⟩ := ih
    refine ⟨(b, p) :: ts, by rw [e1]; rfl, by rw [e2]; rfl, fun t ht => ?_⟩
    rcases List.mem_cons.mp ht with e | ht
    · rw [e]; exact h
    · exact h2 t ht
theorem pairs_of {H : Hp} : ∀ {ts : List (Addr × Str × Str)}, (∀ t ∈ ts, H t.1 = some (.tup [.str t.2.1, .str t.2.2])) → PairsAt H (ts.map fun t => V.ref t.1) (ts.map (·.2))
  | [], _ => .nil
  | _ :: _, h => .cons (h _ List.mem_cons_self) (pairs_of fun u hu => h u (List.mem_cons_of_mem _ hu))
def keyP (p : Str × Str) : List (Int ⊕ List Nat) := [.inr p.1.cps.toList, .inr p.2.cps.toList]
def leP (p q : Str × Str) : Prop := lexLt itemOrd (keyP q) (keyP p) = false
theorem leP_anti {p q : Str × Str} (h1 : leP p q) (h2 : leP q p) : p = q := by
  have e := lex_total (O := itemOrd) _ _ h2 h1
  obtain ⟨⟨a⟩, ⟨b⟩⟩ := p
  obtain ⟨⟨c⟩, ⟨d⟩⟩ := q
  simp only [keyP, List.cons.injEq, Sum.inr.injEq, and_true] at e
  have e1 : a = c := Array.toList_inj.mp e.1
  have e2 : b = d := Array.toList_inj.mp e.2
  rw [e1, e2]
theorem sorted_one {α : Type} {le : α → α → Prop} (anti : ∀ a b, le a b → le b a → a = b) : ∀ {xs ys : List α}, xs.Perm ys → xs.Pairwise le → ys.Pairwise le → xs = ys
  | [], ys, h, _, _ => (List.nil_perm.mp h).symm
  | x :: xs, [], h, _, _ => (List.perm_nil.mp h)
  | x :: xs, y :: ys, h, h1, h2 => by
    obtain ⟨a1, a2⟩ := List.pairwise_cons.mp h1
    obtain ⟨b1, b2⟩ := List.pairwise_cons.mp h2
    have e : x = y := by
      rcases List.mem_cons.mp (h.mem_iff.mp List.mem_cons_self) with e | hx
      · exact e
      · rcases List.mem_cons.mp (h.mem_iff.mpr List.mem_cons_self) with e | hy
        · exact e.symm
        · exact anti _ _ (a1 _ hy) (b1 _ hx)
    subst e
    rw [sorted_one anti (List.Perm.cons_inv h) a2 b2]
theorem perm_map_ex {α β : Type} (f : α → β) {l m : List β} (h : l.Perm m) : ∀ ts : List α, m = ts.map f → ∃ us : List α, us.Perm ts ∧ l = us.map f := by
  induction h with
  | nil => intro ts e; exact ⟨ts, .refl _, e⟩
  | cons x _ ih =>
    intro ts e
    cases ts with
    | nil => cases e
    | cons t ts =>
      obtain ⟨e1, e2⟩ := List.cons.inj e
      obtain ⟨us, p, q⟩ := ih ts e2
      exact ⟨t :: us, p.cons t, by rw [q, e1]; rfl⟩
  | swap x y l =>
    intro ts e
    match ts, e with
    | a :: b :: ts, e =>
      obtain ⟨e1, e2⟩ := List.cons.inj e
      obtain ⟨e3, e4⟩ := List.cons.inj e2
      exact ⟨b :: a :: ts, .swap _ _ _, by rw [e1, e3, e4]; rfl⟩
  | trans _ _ ih1 ih2 =>
    intro ts e
    obtain ⟨us, p, q⟩ := ih2 ts e
    obtain ⟨vs, p2, q2⟩ := ih1 us q
    exact ⟨vs, p2.trans p, q2⟩
/-- two sorted lists of the same pairs are equal -/
theorem leP_one {xs ys : List (Str × Str)} (h : xs.Perm ys) (h1 : xs.Pairwise leP) (h2 : ys.Pairwise leP) : xs = ys := sorted_one (fun _ _ => leP_anti) h h1 h2
def rSortP (K : PySem.W.Frag) : List V → Hp → VK → Prop := fun xs H Q => ∃ (a : Addr) (vs : List V) (ds : List (Str × Str)), xs = [.ref a] ∧ SqL K H a vs ∧ PairsAt H vs ds ∧ vs.length ≤ 1000 ∧
  ∀ ws es p, PairsAt H ws es → es.Perm ds → es.Pairwise leP → H p = none → Q (.ref p) (upd H p (.lst ws))
theorem cr_sortP {X : Cx} : CallR X (.builtin "sorted") (rSortP X.K) := by
  intro pins s σ H xs us Q I r h
  obtain ⟨a, vs, ds, rfl, hs, hp, hl, q⟩ := h
  obtain ⟨its, rv, hli, _⟩ := I.list hs
  rw [Vals.ref1 r]
  obtain ⟨ts, e1, e2, hts⟩ := hp.at_
  subst e1 e2
  have ei : its = ts.map (fun t => Value.ref t.1) := by
    have := refs_of (cs := ts.map (·.1)) (us := its) (by rw [List.map_map]; exact rv)
    rw [this, List.map_map]
    rfl
  subst ei
  rw [List.length_map] at hl
  have hz : (ts.map fun t => Value.ref t.1).length ≤ sizeLine := by rw [List.length_map]; exact Nat.le_trans hl (by decide)
  have at_ : ∀ t ∈ ts, ∃ (u1 u2 : Tok) (o : Obj) (n : Nat), s.heap.get? t.1 = some o ∧ o.cls = .type "tuple" ∧ o.data = .seq #[.str t.2.1 u1, .str t.2.2 u2] n := by
    intro t ht
    obtain ⟨_, its, rv, o, g1, g2, n, g3⟩ := (show ObjOk X.prog X.w H s.heap t.1 (.tup [.str t.2.1, .str t.2.2]) from I.hok _ _ (hts t ht))
    obtain ⟨w1, w2, rfl, r1, r2⟩ := rv.two
    obtain ⟨u1, rfl⟩ := (show ∃ u, w1 = Value.str t.2.1 u from r1)
    obtain ⟨u2, rfl⟩ := (show ∃ u, w2 = Value.str t.2.2 u from r2)
    exact ⟨u1, u2, o, n, g1, g2, g3⟩
  have key : ∀ t ∈ ts, G.tupKeyC s.heap (fun _ => true) (.ref t.1) = some (keyP t.2) := by
    intro t ht
    obtain ⟨u1, u2, o, n, g1, g2, g3⟩ := at_ t ht
    unfold G.tupKeyC
    have e1 : G.isTupObj s.heap (.ref t.1) = true := by simp [G.isTupObj, g1, g2]
    rw [if_pos e1]
    simp only [tupKey, g1, g3]
    rfl
  have tups : ∀ l : List (Addr × Str × Str), (∀ t ∈ l, t ∈ ts) → ∃ fs, TupsOf s.heap (fun _ => true) (l.map fun t => Value.ref t.1) fs := by
    intro l
    induction l with
    | nil => exact fun _ => ⟨[], .nil⟩
    | cons t l ih =>
      intro hl
      obtain ⟨fs, hf⟩ := ih fun u hu => hl u (List.mem_cons_of_mem _ hu)
      obtain ⟨u1, u2, o, n, g1, g2, g3⟩ := at_ t (hl t List.mem_cons_self)
      exact ⟨_ :: fs, .cons ⟨t.1, o, _, n, rfl, g1, g2, g3, rfl, fun e => absurd e (by decide), fun _ => ⟨_, _, rfl⟩⟩ hf⟩
  obtain ⟨fs, hfs⟩ := tups ts fun _ h => h
  refine G.sorted_tups hli.isList hfs (fun v hv => ?_) hz fun st' hpm hsd _ => ?_
  · obtain ⟨t, ht, rfl⟩ := List.mem_map.mp hv
    exact ⟨_, key t ht⟩
  · have pl := Array.perm_iff_toList_perm.mp hpm
    rw [pairsOf_toList, List.zip_map'] at pl
    obtain ⟨us, pu, eu⟩ := perm_map_ex _ pl ts rfl
    have mem : ∀ u ∈ us, u ∈ ts := fun u hu => pu.mem_iff.mp hu
    have pw := sm_pw_of_sorted (κ := G.tupKindC s.heap (fun _ => true)) (xs := arrOf st') (by rw [hpm.size_eq]; exact hsd)
    rw [eu, List.pairwise_map] at pw
    obtain ⟨ep, he'⟩ := PyProof.Rows.sortedAll_at s.heap (ts.map fun t => Value.ref t.1) ((arrOf st').map (·.2))
    have eo : ((arrOf st').map (·.2)).toList = us.map fun t => Value.ref t.1 := by
      rw [Array.toList_map, eu, List.map_map]
      rfl
    have rv2 : ∀ l : List (Addr × Str × Str), Vals (l.map fun t => V.ref t.1) (l.map fun t => Value.ref t.1) := by
      intro l
      induction l with
      | nil => exact .nil
      | cons t l ih => exact .cons rfl ih
    have hlen : (us.map fun t => V.ref t.1).length ≤ sizeLine := by rw [List.length_map, pu.length_eq]; exact Nat.le_trans hl (by decide)
    refine ⟨.ref _, upd H (s.heap.objs.size + 1) (.lst (us.map fun t => V.ref t.1)), I.laid (t' := s.toks) (fun _ _ => PyProof.Rows.sortedAll_old) (Nat.le_succ _) ⟨hlen, ((arrOf st').map (·.2)).toList, ep, by rw [eo]; exact rv2 us, he'⟩, rfl,
      q _ _ _ (pairs_of fun u hu => hts u (mem u hu)) (pu.map _) ?_ (I.hok.fresh (Nat.le_succ _))⟩
    rw [List.pairwise_map]
    refine List.Pairwise.imp_of_mem (fun {t u} ht hu h => ?_) pw
    have k1 := key t (mem t ht)
    have k2 := key u (mem u hu)
    have h' : lexLt itemOrd ((G.tupKeyC s.heap (fun _ => true) (.ref u.1)).getD []) ((G.tupKeyC s.heap (fun _ => true) (.ref t.1)).getD []) = false := h
    rw [k1, k2] at h'
    exact h'
theorem r_sortP {K : PySem.W.Frag} {H : Hp} {a : Addr} {vs : List V} {ds : List (Str × Str)} {Qv : VK} (h : SqL K H a vs) (p : PairsAt H vs ds) (l : vs.length ≤ 1000) (q : ∀ ws es, PairsAt H ws es → es.Perm ds → es.Pairwise leP → Lay 0 (.lst ws) Qv H) : rSortP K [.ref a] H Qv :=
  ⟨a, vs, ds, rfl, h, p, l, fun ws es p' h1 h2 h3 h4 => (q ws es h1 h2 h3).2 p' h4⟩
theorem PairsAt.dq {K : PySem.W.Frag} {H : Hp} {vs : List V} {ds : List (Str × Str)} (r : PairsAt H vs ds) : DqAll K H vs (ds.map twoT) := by
  induction r with
  | nil => exact .nil
  | cons h _ ih => exact .cons (.tup (SqT.of h) (.cons (.str _) (.cons (.str _) .nil))) ih
/-- how a list of pairs of names is shown -/
theorem pairs_show {ds : List (Str × Str)} (hn : ∀ p ∈ ds, nmOk p.1 = true ∧ nmOk p.2 = true) (hl : ds.length ≤ 1000) : (PyData.list (ds.map twoT)).showable = true ∧ (PyData.list (ds.map twoT)).depth ≤ 60 ∧ (PyData.list (ds.map twoT)).shown.length ≤ sizeLine := by
  have one : ∀ p ∈ ds, (twoT p).showable = true ∧ (twoT p).depth ≤ 10 ∧ (twoT p).shown.length ≤ 200 := fun p hp => by
    obtain ⟨h1, h2⟩ := hn p hp
    have a := sh_str (z := p.1) (i := 0) ⟨h1, by decide, by decide⟩
    have b := sh_str (z := p.2) (i := 0) ⟨h2, by decide, by decide⟩
    refine ⟨by simp [twoT, PyData.showable, PyData.showableAll], by simp [twoT, PyData.depth, PyData.depthAll], ?_⟩
    have t := sh_tup [.str p.1, .str p.2] (m := 164) (by simp; omega)
    exact Nat.le_trans t (by simp)
  clear hn
  have all : ∀ l : List (Str × Str), (∀ p ∈ l, (twoT p).showable = true ∧ (twoT p).depth ≤ 10 ∧ (twoT p).shown.length ≤ 200) → PyData.showableAll (l.map twoT) = true ∧ PyData.depthAll (l.map twoT) ≤ 10 ∧ ((l.map twoT).map fun d => d.shown.length).sum ≤ 200 * l.length := by
    intro l
    induction l with
    | nil => exact fun _ => ⟨by simp [PyData.showableAll], by simp [PyData.depthAll], by simp⟩
    | cons p l ih =>
      intro h
      obtain ⟨i1, i2, i3⟩ := ih fun q hq => h q (List.mem_cons_of_mem _ hq)
      obtain ⟨p1, p2, p3⟩ := h p List.mem_cons_self
      refine ⟨by simp [PyData.showableAll, p1, i1], ?_, ?_⟩
      · simp only [List.map_cons, PyData.depthAll]
        omega
      · simp only [List.map_cons, List.sum_cons, List.length_cons]
        omega
  obtain ⟨a1, a2, a3⟩ := all ds one
  refine ⟨by simp only [PyData.showable]; exact a1, ?_, sz_m ?_⟩
  · simp only [PyData.depth]
    omega
  · have f := sh_list (ds.map twoT) (m := 200 * ds.length) a3
    rw [List.length_map] at f
    omega
/-! ### a dict of names -/
def NmKvs (kvs : List (Key × V)) : Prop := ∀ kv ∈ kvs, ∃ s t, kv = (.inr s, .str t) ∧ nmOk s = true ∧ nmOk t = true
theorem NmKvs.put {kvs : List (Key × V)} {s t : Str} (h : NmKvs kvs) (hs : nmOk s = true) (ht : nmOk t = true) : NmKvs (putK kvs (.inr s) (.str t)) := by
  intro kv hkv
  unfold putK at hkv
  split at hkv
  · obtain ⟨kw, h1, h2⟩ := List.mem_map.mp hkv
    obtain ⟨a, b, rfl, ha, hb⟩ := h kw h1
    by_cases e : (Sum.inr a : Key) = .inr s
    · rw [if_pos e] at h2
      exact ⟨a, t, h2.symm, ha, ht⟩
    · rw [if_neg e] at h2
      exact ⟨a, b, h2.symm, ha, hb⟩
  · rcases List.mem_append.mp hkv with h1 | h1
    · exact h kv h1
    · exact ⟨s, t, List.mem_singleton.mp h1, hs, ht⟩
theorem NmKvs.val {kvs : List (Key × V)} (h : NmKvs kvs) (k : Key) : valV kvs k = none ∨ ∃ t, valV kvs k = some (.str t) ∧ nmOk t = true := by
  unfold valV
  cases e : kvs.find? fun kv => decide (kv.1 = k) with
  | none => exact .inl rfl
  | some kv =>
    obtain ⟨a, b, rfl, _, hb⟩ := h kv (List.mem_of_find?_eq_some e)
    exact .inr ⟨b, rfl, hb⟩
theorem NmKvs.get {kvs : List (Key × V)} (h : NmKvs kvs) {i : Nat} {k : Key} {v : V} (e : kvs[i]? = some (k, v)) : ∃ s t, k = .inr s ∧ nmOk s = true ∧ valV kvs k = some (.str t) ∧ nmOk t = true := by
  have m := List.mem_of_getElem? e
  obtain ⟨s, t, e1, hs, _⟩ := h _ m
  cases e1
  rcases h.val (.inr s) with z | ⟨y, z, hy⟩
  · have a := valV_any (.inr s : Key) kvs
    rw [z] at a
    have b : (kvs.any fun kv => decide (kv.1 = (.inr s : Key))) = true := List.any_eq_true.mpr ⟨_, m, by simp⟩
    rw [b] at a
    cases a
  · exact ⟨s, y, rfl, hs, z, hy⟩
def txtK : Key → Str
  | .inr s => s
  | .inl _ => ""
def txtV : Option V → Str
  | some (.str t) => t
  | _ => ""
/-- a dict's keys with what it holds -/
def itemsT (kvs : List (Key × V)) : List (Str × Str) := kvs.map fun kv => (txtK kv.1, txtV (valV kvs kv.1))
theorem NmKvs.items {kvs : List (Key × V)} (h : NmKvs kvs) : ∀ p ∈ itemsT kvs, nmOk p.1 = true ∧ nmOk p.2 = true := fun p hp => by
  obtain ⟨kv, h1, rfl⟩ := List.mem_map.mp hp
  obtain ⟨i, hi⟩ := List.getElem?_of_mem h1
  obtain ⟨k, v⟩ := kv
  obtain ⟨s, t, e1, hs, e2, ht⟩ := h.get hi
  dsimp only
  rw [e2, e1]
  exact ⟨hs, ht⟩
/-! ### steps -/
section
variable {H : Hp} {Qv : VK} {σ : L2.St}
def rStrS : List V → Hp → VK → Prop := fun xs H Q => ∃ a, xs = [.str a] ∧ Q (.str a) H
theorem q_strS {X : Cx} : CallR X (.type "str") rStrS := SkE.call_str_str
theorem r_strS {a : Str} (q : Qv (.str a) H) : rStrS [.str a] H Qv := ⟨a, rfl, q⟩
/-- a dict that will be changed -/
def tDNewM : TE := tDNewK
theorem pe_dnewM {X : Cx} {pos : Pos} : PE X (.Dict [] [] pos) tDNewM := pe_dnewK
theorem r_dnewM (q : LayM 0 (.dK []) Qv H) : tDNewM σ H Qv := q.2
theorem r_sDPut {td ty tv : TE} {D : Ends} (q : tv σ H fun v H1 => td σ H1 fun x H2 => ty σ H2 fun y H3 => ∃ a H4, x = .ref a ∧ DPut H3 a y v H4 ∧ D.nx σ H4) : sDPut td ty tv D σ H := q
theorem r_tDGet {td ty : TE} (q : td σ H fun x H1 => ty σ H1 fun y H2 => ∃ a v, x = .ref a ∧ DGet H2 a y (some v) ∧ Qv v H2) : tDGet td ty σ H Qv := q
theorem r_iKeys {td : TE} {R : It → Hp → Prop} (q : td σ H fun x H1 => ∃ d o, x = .ref d ∧ ((∃ kvs, H1 d = some (.frz o (.dK kvs)) ∧ R (Itk d o kvs) H1) ∨ ∃ kvs, H1 d = some (.frz o (.dT kvs)) ∧ R (Itkt d o kvs) H1)) : iKeys td σ H R := q
theorem r_iKeysR {R : Addr → Obj → List (Key × V) → Prop} {S : Addr → Obj → List (List Key × V) → Prop} {d : Addr} {o : Obj} {kvs : List (Key × V)} (h : H d = some (.frz o (.dK kvs))) (q : R d o kvs) :
    ∃ d' o', V.ref d = .ref d' ∧ ((∃ kvs, H d' = some (.frz o' (.dK kvs)) ∧ R d' o' kvs) ∨ ∃ kvs, H d' = some (.frz o' (.dT kvs)) ∧ S d' o' kvs) := ⟨d, o, rfl, .inl ⟨kvs, h, q⟩⟩
theorem r_tDGet2 {td ty tx : TE} (q : td σ H fun x H1 => ∃ a, x = .ref a ∧ IsD H1 a ∧ ty σ H1 fun y H2 => tx σ H2 fun z H3 => ∃ o, DGet H3 a y o ∧ Qv (o.getD z) H3) : tDGet2 td ty tx σ H Qv := q
end
/-- a, b = x, y -/
def ParK (i j : Nat) (vs : List V) (σ : L2.St) (N : L2.St → Hp → Prop) (H : Hp) : Prop := ∃ v w, vs = [v, w] ∧ N ((σ.set i (some v)).set j (some w)) H
theorem r_par {i j : Nat} {ta : TA} {D : Ends} {σ : L2.St} {H : Hp} (q : ta σ H fun vs H1 => ParK i j vs σ D.nx H1) : tPar i j ta D σ H := q
theorem r_parK {i j : Nat} {v w : V} {σ : L2.St} {N : L2.St → Hp → Prop} {H : Hp} (q : N ((σ.set i (some v)).set j (some w)) H) : ParK i j [v, w] σ N H := ⟨v, w, rfl, q⟩
theorem r_dputS {e : En} {G H : Hp} {M : List Addr} {d : Addr} {kvs : List (Key × V)} {s : Str} {v : V} {N : Hp → Prop} (w : Wd e G H M) (hm : d ∈ M) (h : H d = some (.dK kvs)) (hl : kvs.length < sizeLine)
    (q : ∀ H', Wd e G H' M → H' d = some (.dK (putK kvs (.inr s) v)) → But d H H' → N H') : ∃ a H4, V.ref d = .ref a ∧ DPut H a (.str s) v H4 ∧ N H4 :=
  ⟨d, _, rfl, DPut.k (k := .inr s) h hl, q _ (wd_mut w hm) upd_same but_upd⟩
/-! ### a dict is walked: locked meanwhile -/
def UnlockQ (d : Addr) (od : Obj) (u : HO) (Q : VK) : VK := fun v H' => H' d = some (.frz od u) ∧ Q v (upd H' d u)
theorem r_lockD {t : TE} {σ : L2.St} {Q : VK} {e : En} {G H : Hp} {M : List Addr} {d : Addr} {kvs : List (Key × V)} (w : Wd e G H M) (hm : d ∈ M) (h : H d = some (.dK kvs))
    (q : ∀ od H', Wd e G H' M → H' d = some (.frz od (.dK kvs)) → But d H H' → t σ H' (UnlockQ d od (.dK kvs) Q)) : tLockE t σ H Q := ⟨d, .dK kvs, h, trivial, fun od => q od _ (wd_mut w hm) upd_same but_upd⟩
theorem r_unlock {Q : VK} {e : En} {G H : Hp} {M : List Addr} {d : Addr} {od : Obj} {kvs : List (Key × V)} {v : V} (w : Wd e G H M) (hm : d ∈ M) (h : H d = some (.frz od (.dK kvs)))
    (q : ∀ H', Wd e G H' M → H' d = some (.dK kvs) → But d H H' → Q v H') : UnlockQ d od (.dK kvs) Q v H := ⟨h, q _ (wd_mut w hm) upd_same but_upd⟩
theorem DGet.frz {H : Hp} {a : Addr} {od : Obj} {kvs : List (Key × V)} {k : Key} {o : Option V} (e : H a = some (.frz od (.dK kvs))) (h : valV kvs k = o) : DGet H a (kV k) o := .inl ⟨kvs, k, .inr ⟨od, e⟩, rfl, h.symm⟩
theorem sh_int' {i : Int} (h0 : 0 ≤ i) (h1 : i < 10 ^ 40) : (PyData.int i).showable = true ∧ (PyData.int i).shown.length ≤ sizeLine := by
  have l : i.natAbs.log2 < 1920 := by
    by_cases z : i.natAbs = 0
    · rw [z]; decide
    · refine (Nat.log2_lt z).mpr (Nat.lt_of_le_of_lt (m := 10 ^ 40) (by omega) ?_)
      exact Nat.lt_of_lt_of_le (m := 2 ^ 140) (by decide) (Nat.pow_le_pow_right (by decide) (by decide))
  refine ⟨by simp [PyData.showable, l], sz_m ?_⟩
  have e : (PyData.int i).shown = Str.ofString (toString i) := by simp [PyData.shown]
  rw [e]
  exact Nat.le_trans (toString_length_le (k := 40) h0 (by decide) h1) (by decide)
/-- a lambda is handed to a def that hears one kind of error -/
theorem r_lamK {T : List (Addr × Str)} {C : Addr} {f : Str} {t : XK → TE} {σ : L2.St} {e : En} {G H : Hp} {M : List Addr} {Q : VK} (w : Wd e G H M) (eT : e.T = T) (cov : ∀ a, e.H0 a ≠ none → (∃ q, (a, q) ∈ e.T) ∨ (a ∉ e.P0 ∧ ∀ o, e.H0 a = some o → NoT o)) (inP : ∀ p ∈ e.T, p.1 ∈ e.P0)
    (k : ∀ (H1 : Hp) (E : XK) (Q' : VK), Wd e G H1 M → LamX.ExtN H H1 → (∀ cls d H2, HearV C f Q cls d H2 → E cls d H2) → (∀ v H2, HearN Q H2 → Q' v H2) → t E σ H1 Q') : LamX.tLam T (TKept C f) t σ H Q := by
  subst eT
  exact ⟨w.tb, fun H1 x tb E Q' hE hQ => k H1 E Q' (wd_lam w x tb cov inP) x hE hQ⟩
def shB (K : PySem.W.Frag) (C : Addr) : Bool := PySem.W.selfFirst K C && (He.eqO (PySem.W.findIn K (.ref C) (dunderR (Operator.LShift).info.2)) (some none) &&
  ((PySem.W.findIn K (.type "int") (PySem.dunder (Operator.LShift).info.2)).isSome && ((PySem.W.findIn K (.type "int") (dunderR (Operator.LShift).info.2)).isSome && decide (PySem.W.subIn K (.type "int") (.ref C) = some false))))
theorem shB_ok {K : PySem.W.Frag} {C : Addr} (h : shB K C = true) : ShC K C := by
  obtain ⟨h0, h⟩ := He.ba h
  obtain ⟨h1, h⟩ := He.ba h
  obtain ⟨h2, h⟩ := He.ba h
  obtain ⟨h3, h4⟩ := He.ba h
  exact ⟨h0, ⟨_, He.eqO_ok h1, .inl rfl⟩, Option.isSome_iff_exists.mp h2, Option.isSome_iff_exists.mp h3, of_decide_eq_true h4⟩
end Q
namespace Q
open PySem PySem.Spec PyProof.Rows L2
/-- what == asks of the class of a saying -/
def eqS (K : PySem.W.Frag) (C : Addr) : Bool := decide ((PySem.W.specialIn K (.builtin "object.__class__") "__get__" = some (some (.builtin "getset_descriptor.__get__")) ∧ PySem.W.takesIn K (.builtin "object.__class__") = some true ∧ PySem.W.mroIn K C (.type "object") = some true) ∧
  (PySem.W.kitOne K (.ref C) (.ref C) = some true ∧ ∀ n ∈ ["NoneType", "int", "bool", "str", "list", "tuple", "dict"], PySem.W.kitOne K (.type n) (.ref C) = some false) ∧
  (PySem.W.notFirst K C (.ref C) = true ∧ ∀ n ∈ ["NoneType", "int", "bool", "str", "list", "tuple", "dict"], PySem.W.notFirst K C (.type n) = true))
/-- a law begins: the script told, its own table to grow -/
theorem law_start {K : PySem.W.Frag} {H : Hp} {c pT a : Addr} {xs : List V} (q : Str) (only : OnlyT [(c, pT)] H) (ht : H pT = some (.tbl #[])) (ha : SqL K H a xs) : ∃ (en : En) (G0 : Hp), Wd en G0 H [] ∧ SqL K G0 a xs ∧ en.T = [(pT, q)] ∧
    (∀ a, en.H0 a ≠ none → (∃ q, (a, q) ∈ en.T) ∨ (a ∉ en.P0 ∧ ∀ o, en.H0 a = some o → NoT o)) ∧ ∀ p ∈ en.T, p.1 ∈ en.P0 := by
  have sG := gh_of only
  refine ⟨⟨H, L2.del H pT, [pT], [(pT, q)]⟩, L2.del H pT, wd_startT sG (fun a h => by simp at h) List.nodup_nil (fun a h => by simp at h) (fun p hp => by rw [List.mem_singleton.mp hp]; exact LamX.TabS.nil ht), sqL_of ha ht, rfl, fun a hn => ?_, fun p hp => ?_⟩
  · by_cases e : a = pT
    · exact .inl ⟨_, by rw [e]; exact List.mem_singleton.mpr rfl⟩
    · refine .inr ⟨by simpa using e, fun o ho => sG.2 a o ?_⟩
      rw [del_ne e]
      exact ho
  · rw [List.mem_singleton.mp hp]
    exact List.mem_singleton.mpr rfl
end Q
namespace Q
open PySem PySem.Spec PyProof.Rows L2
/-! ### set(l) of a list of ints, in a shape that can be walked -/
section
variable {P : Program} {w : World} {A : Around} {E : Value → Shared → Prop} {s : Shared}
/-- an object is made by its class's own maker, then filled -/
theorem made_by {T ni ii : String} {as : List Value} {Q Q1 : Value → Shared → Prop} (ft : TypeCalled T ni ii) (ck : checkTypeCall T ⟨as, []⟩ = pure ()) (mk : codeAny (model P w) A.in1 (.call (.builtin ni) ⟨.type T :: as, []⟩) (wants Q1 E) s)
    (nx : ∀ o t, Q1 o t → t.TypeIs o T ∧ codeAny (model P w) A.in1 (.call (.builtin ii) ⟨o :: as, []⟩) (wants (fun r u => r = .none ∧ Q o u) E) t) : wpAny (model P w) A (call (.type T) as) Q E s := by
  obtain ⟨c0, t0, mr⟩ := ft.mro
  have x1 := ft.notType; have x2 := ft.canCreate
  have x3 := ft.made; have x4 := ft.sub
  refine wpAny_call (codeAny_of_tree (?_ : wpAny _ _ (callAny (.type T) ⟨as, []⟩) _ _ _))
  refine wpAny_pure (And.intro (Code.quiet_builtin _ (by decide +kernel)) (codeAny_builtin PySem.F.entry_type_call ?_))
  rw [Around.under_plain (A := A) (weight_type_call_type T as []) rfl]
  repeat (any_goals (first | assumption | wp_step))
  refine codeAny_mono mk fun r t h => ?_
  match r, h with
  | .error e, h => exact h
  | .ok (.ret o), h =>
    obtain ⟨k1, k2⟩ := nx o t h
    have x5 := ft.init.lookup; have x6 := ft.init.bind o
    repeat (any_goals (first | assumption | wp_step))
    refine codeAny_mono k2 fun r2 u h2 => ?_
    match r2, h2 with
    | .error e, h2 => exact h2
    | .ok (.ret v), h2 =>
      obtain ⟨rfl, q⟩ := h2
      repeat (any_goals (first | assumption | wp_step))
    | .ok .next, h2 => exact h2.elim
    | .ok .brk, h2 => exact h2.elim
    | .ok .cont, h2 => exact h2.elim
  | .ok .next, h => exact h.elim
  | .ok .brk, h => exact h.elim
  | .ok .cont, h => exact h.elim
abbrev newS (w : World) : Obj := { cls := .type "set", dict := none, data := .set #[] 0 (.fresh 0 0 (!w.params.followText "set-order")) }
/-- what is left behind the making -/
def MadeS (w : World) (s : Shared) (ns : List Int) (t : Shared) : Prop := ∃ (g : Heap) (k c : Nat), t = { s with heap := g, toks := k } ∧ SetR w g s.heap.objs.size (fun j => decide (j ∈ ns)) c ∧ c ≤ ns.length ∧ ∀ b o, s.heap.get? b = some o → g.get? b = some o
theorem set_fill {l : Addr} {its : Array Value} {ns : List Int} {R : Result → Shared → Prop} (nh : A.handled = none) (hl : s.heap.IsList l its) (hi : IntsAre its.toList ns) (hb : ns.length + 1 < scanBound) (hR : ∀ t, MadeS w s ns t → R (.ok (.ret .none)) t) :
    wpAny (model P w) A.in1 (Builtin.«set.__init__» ⟨[.ref s.heap.objs.size, .ref l], []⟩) (fun fin t => match fin with | .done f => R (.ok f) t | .again c' => c'.quiet = true ∧ codeAny (model P w) A c' R t) (fun e t => R (.error e) t) { s with heap := s.heap.push (newS w) } := by
  have sz : its.size = ns.length := by
    have q := IntsAre.length hi
    rwa [Array.length_toList] at q
  have z0 : (s.heap.push (newS w)).get? s.heap.objs.size = some (newS w) := Heap.get?_push_size _ rfl
  have tS : Shared.TypeIs { s with heap := s.heap.push (newS w) } (.ref s.heap.objs.size) "set" := ⟨newS w, z0, rfl⟩
  have ll : l < s.heap.objs.size := by obtain ⟨_, e, _⟩ := id hl; exact Heap.lt_size e
  have l1 : (s.heap.push (newS w)).IsList l its := hl.push _
  obtain ⟨ol, e1, e2, nl, e3⟩ := id l1
  have y1 := PySem.F.sub_list_set; have y2 := PySem.F.sub_list_frozenset
  have y3 : (Value.type "list" == Value.type "dict") = false := by decide
  have tL : Shared.TypeIs { s with heap := s.heap.push (newS w) } (.ref l) "list" := ⟨ol, e1, e2⟩
  unfold Builtin.«set.__init__» noKeywords Builtin.Frozenset.updateFrom
  generalize hp : pyIter = PI
  wp_walk
  subst hp
  refine wpAny_pyIter_list l1 (wpAny_bind (wpAny_runValue ?_))
  have n3 : A.in1.in1.handled = none := by simp [nh]
  have zs : (s.heap.push (newS w)).objs.size = s.heap.objs.size + 1 := Heap.size_push ..
  have lI : l ≠ (s.heap.push (newS w)).objs.size := by
    rw [zs]
    exact Nat.ne_of_lt (Nat.lt_succ_of_lt ll)
  have sf : s.heap.objs.size ∉ [(s.heap.push (newS w)).objs.size, l] := by
    rw [zs]
    intro m
    rcases List.mem_cons.mp m with m | m
    · exact Nat.ne_of_lt (Nat.lt_succ_self _) m
    · exact Nat.ne_of_gt ll (List.mem_singleton.mp m)
  have z1 : ((s.heap.push (newS w)).push { cls := .type "list_iterator", data := .fields #[.ref l, .int 0 0] }).get? s.heap.objs.size = some (newS w) := Heap.get?_push_of_some _ z0
  have val : ∀ (i : Nat) (v : Value), its[i]? = some v → ∃ k t, ns[i]? = some k ∧ v = .int k t := fun i v hv => by
    have hin : i < ns.length := by
      have := (Array.getElem?_eq_some_iff.mp hv).1
      omega
    obtain ⟨t, e⟩ := PyProof.Rows.IntsAre.int_at hi i v (by rw [Array.getElem?_toList, hv])
    rw [List.getD_eq_getElem?_getD, List.getElem?_eq_getElem hin] at e
    exact ⟨ns[i], t, List.getElem?_eq_getElem hin, e⟩
  refine set_update_ints ((Walks.list n3 _ l lI its).toS) s.heap.objs.size sf ns sz hb val its.size 0 _ ?bk (Nat.zero_le _) ?bs ?b0 ?bR
  case bk => omega
  case bs => exact ⟨⟨_, Heap.get?_push_size _ rfl, rfl, rfl⟩, l1.push _⟩
  case b0 => exact ⟨0, Nat.le_refl 0, setR_new_at z1⟩
  rintro ⟨g, gn, dr, tk, os⟩ c mv hc hS
  obtain rfl : gn = s.gens := mv.gens
  obtain rfl : dr = s.drawn := mv.drawn
  obtain rfl : os = s.os := mv.os
  refine wpAny_pure (wpAny_pure (hR _ ⟨g, tk, c, rfl, hS, by omega, fun b o e => ?_⟩))
  have b0 := Heap.lt_size e
  refine mv.heap b o (fun m => ?_) (Heap.get?_push_of_some _ (Heap.get?_push_of_some _ e))
  rcases List.mem_cons.mp m with m | m
  · exact Nat.ne_of_lt b0 m
  · exact Nat.ne_of_lt (Nat.lt_succ_of_lt b0) ((List.mem_singleton.mp m).trans zs)
theorem set_lst {l : Addr} {its : Array Value} {ns : List Int} {Q : Value → Shared → Prop} (nh : A.handled = none) (hl : s.heap.IsList l its) (hi : IntsAre its.toList ns) (hb : ns.length + 1 < scanBound)
    (hQ : ∀ t, MadeS w s ns t → Q (.ref s.heap.objs.size) t) : wpAny (model P w) A (call (.type "set") [.ref l]) Q E s := by
  refine made_by PySem.F.called_set (PySem.F.typeCall_set_1 (.ref l)) (Q1 := fun o t => o = .ref s.heap.objs.size ∧ t = { s with heap := s.heap.push (newS w) }) (code_set_led1 (.ref l) ⟨rfl, rfl⟩) ?_
  rintro _ _ ⟨rfl, rfl⟩
  have tS : Shared.TypeIs { s with heap := s.heap.push (newS w) } (.ref s.heap.objs.size) "set" := ⟨newS w, Heap.get?_push_size _ rfl, rfl⟩
  exact ⟨tS, codeAny_call_builtin PySem.F.called_set.init.plain PySem.F.entry_set_init (check_set_init_1 tS (set_fill (A := A.in1) nh hl hi hb fun t m => ⟨rfl, hQ t m⟩))⟩
end
/-- set(l), l a list of ints -/
def rSetL (K : PySem.W.Frag) (w : World) : List V → Hp → VK → Prop := fun xs H Q => ∃ (l : Addr) (ns : List Int), xs = [.ref l] ∧ SqL K H l (ns.map V.int) ∧ ns.length ≤ 1000 ∧ ∀ n a, n ≤ ns.length → H a = none → Q (.ref a) (upd H a (SetO w a (fun j => decide (j ∈ ns)) n))
theorem cr_setL {X : Cx} (hc : X.calm = true) : CallR X (.type "set") (rSetL X.K X.w) := by
  intro pins s σ H xs us Q I r h
  obtain ⟨l, ns, rfl, hs, hn, q⟩ := h
  obtain ⟨its, rv, hli, _⟩ := I.list hs
  rw [Vals.ref1 r]
  have hi := ints_of_vals rv
  refine set_lst (I.ok.hd hc) hli.isList (by simpa using hi) (Nat.lt_of_le_of_lt (Nat.add_le_add_right hn 1) (by decide)) fun t m => ?_
  obtain ⟨g, k, c, rfl, hS, hcn, keep⟩ := m
  exact ⟨.ref _, _, I.laid (t' := k) keep (Nat.le_refl _) (setO_new hS), rfl, q c _ hcn (I.hok.fresh (Nat.le_refl _))⟩
end Q
namespace Q
open PySem PySem.Spec PyProof.Rows L2
/-! ### a dict that is changed no more -/
def FrzGo (v : V) (H : Hp) (Q : VK) : Prop := ∃ d u, v = .ref d ∧ H d = some u ∧ Mut (some u) ∧ ∀ od, Q v (upd H d (.frz od u))
def tFrzV (t : TE) : TE := fun σ H Q => t σ H fun v H1 => FrzGo v H1 Q
theorem pe_frzV {X : Cx} {e : Expr} {t : TE} (h : PE X e t) : PE X e (tFrzV t) := by
  refine ⟨fun pins s σ H Q I hw => thn (h.run pins s σ H _ I hw) fun u s1 told => ?_⟩
  obtain ⟨x, H1, I1, rx, d, o, ex, hd, mu, q⟩ := told
  obtain ⟨od, I2⟩ := I1.lock hd mu
  exact ⟨x, _, I2, rx, q od⟩
theorem r_tFrzV {t : TE} {σ : L2.St} {H : Hp} {Q : VK} (q : t σ H fun v H1 => FrzGo v H1 Q) : tFrzV t σ H Q := q
theorem r_frzD {e : En} {G H : Hp} {M : List Addr} {d : Addr} {kvs : List (Key × V)} {Q : VK} (w : Wd e G H (d :: M)) (h0 : e.H0 d = none) (h : H d = some (.dK kvs))
    (k : ∀ od G' H', Wd e G' H' M → Same G G' → But d H H' → G' d = some (.frz od (.dK kvs)) → Q (.ref d) H') : FrzGo (.ref d) H Q := by
  refine ⟨d, _, rfl, h, trivial, fun od => ?_⟩
  have w1 := wd_mut (o := .frz od (.dK kvs)) w List.mem_cons_self
  obtain ⟨w2, s2⟩ := wd_freeze w1 upd_same h0
  exact k od _ _ w2 s2 but_upd upd_same
/-! ### what is walked: a list or a tuple -/
def SqA (K : PySem.W.Frag) (H : Hp) (a : Addr) (xs : List V) : Prop := SqL K H a xs ∨ SqT K H a xs
theorem SqA.same {K : PySem.W.Frag} {H H' : Hp} {a : Addr} {xs : List V} (h : SqA K H a xs) (s : Same H H') : SqA K H' a xs := h.elim (fun h => .inl (same_sqL s h)) fun h => .inr (same_sqT s h)
def SeqGo (K : PySem.W.Frag) (a : Addr) (R : It → Hp → Prop) (H : Hp) : Prop := ((∃ xs, SqL K H a xs) ∧ R (Itl K a) H) ∨ ((∃ xs, SqT K H a xs) ∧ R (Itt K a) H)
def iSeq (K : PySem.W.Frag) (tl : TE) : TI := fun σ H R => tl σ H fun x H1 => ∃ a, x = .ref a ∧ SeqGo K a R H1
theorem pi_seq {X : Cx} {tg l : Expr} {tl : TE} (hl : PE X l tl) : PI X tg l (iSeq X.K tl) := by
  refine ⟨fun pins s σ H R I h => thn (hl.run pins s σ H _ I h) fun v s1 told => ?_⟩
  obtain ⟨x, H1, I1, r1, a, rfl, q⟩ := told
  cases r1
  have fin : ∀ b ∈ [s1.heap.objs.size], FpOk X pins H1 b := fun b hb => by
    rw [List.mem_singleton.mp hb]
    exact I1.fpOk (Nat.le_refl _) (I1.hok.fresh (Nat.le_refl _))
  rcases q with ⟨⟨xs, hq⟩, q⟩ | ⟨⟨xs, hq⟩, q⟩
  · obtain ⟨its, rv, p, hz⟩ := I1.list hq
    exact wpAny_pyIter_list p.isList ⟨s1.heap.objs.size, [s1.heap.objs.size], _, _, H1, rfl, I1.kept (t' := s1.toks) fun _ _ z => Heap.get?_push_of_some _ z, turn_list a _, ⟨_, Heap.get?_push_size _ rfl, rfl, rfl⟩, fin, q⟩
  · obtain ⟨its, rv, p, hz⟩ := I1.tuple hq
    exact wpAny_pyIter_tuple (items := its.toArray) p ⟨s1.heap.objs.size, [s1.heap.objs.size], _, _, H1, rfl, I1.kept (t' := s1.toks) fun _ _ z => Heap.get?_push_of_some _ z, turn_tuple a _, ⟨_, Heap.get?_push_size _ rfl, rfl, rfl⟩, fin, q⟩
theorem r_iSeq {K : PySem.W.Frag} {tl : TE} {σ : L2.St} {H : Hp} {R : It → Hp → Prop} (q : tl σ H fun x H1 => ∃ a, x = .ref a ∧ SeqGo K a R H1) : iSeq K tl σ H R := q
theorem SqA.of {K : PySem.W.Frag} {e : En} {G H : Hp} {M : List Addr} {a : Addr} {xs : List V} (h : SqA K G a xs) (w : Wd e G H M) : SqA K H a xs := h.same w.le
/-- one walk over both -/
theorem seq_go {K : PySem.W.Frag} {e : En} {G H : Hp} {M : List Addr} {R : It → Hp → Prop} {a : Addr} {xs : List V} (w : Wd e G H M) (h : SqA K G a xs)
    (q : ∀ (J : It) (Gd : Hp → Prop), Walk J xs.length Gd (YAt xs) → (∀ (e' : En) (G' H' : Hp) (M' : List Addr), Wd e' G' H' M' → Same G G' → Gd H') → R J H) : ∃ b, V.ref a = .ref b ∧ SeqGo K b R H := by
  rcases h with h | h
  · exact ⟨a, rfl, .inl ⟨⟨xs, wd_sqL w h⟩, q _ _ walk_list fun e' G' H' M' w' s' => wd_sqL w' (same_sqL s' h)⟩⟩
  · exact ⟨a, rfl, .inr ⟨⟨xs, wd_sqT w h⟩, q _ _ walk_tup fun e' G' H' M' w' s' => wd_sqT w' (same_sqT s' h)⟩⟩
/-! ### the keys of a dict as a list, as a tuple -/
section
variable {P : Program} {w : World} {A : Around} {E : Value → Shared → Prop} {s : Shared} {T : String} {r d : Addr} {n : Nat} {Pv : Nat → Value → Prop} {OK : Heap → Prop}
theorem tup_of_src {Q : Value → Shared → Prop} (src : PySem.W.KdlSrc P w T r d n Pv OK) (nh : A.handled = none) (ok : OK s.heap) (hn : n ≤ sizeLine)
    (hQ : ∀ (g : Heap) (tk : Nat) (acc : Array Value), (∀ b o, s.heap.get? b = some o → g.get? b = some o) → ItemsOf Pv acc n → Q (.ref g.objs.size) { s with heap := g.push { cls := .type "tuple", data := .seq acc }, toks := tk }) :
    wpAny (model P w) A (call (.type "tuple") [.ref r]) Q E s := by
  refine made_by PySem.F.called_tuple (PySem.F.typeCall_tuple_1 _) (Q1 := fun o t => t.TypeIs o "tuple" ∧ Q o t) ?_ fun o t q => ⟨q.1, ?_⟩
  · refine codeAny_of_tree (?_ : wpAny _ A.in1.in1 (do checkBuiltinCall "tuple.__new__" ⟨[.type "tuple", .ref r], []⟩; again _) _ _ s)
    refine wpAny_bind (wpAny_of_eq (PySem.F.newCall_tuple_1 _) (wpAny_pure (And.intro (plainId_quiet PySem.F.plain_tuple_new _) (codeAny_builtin PySem.F.entry_tuple_new ?_))))
    rw [Around.under_plainId PySem.F.plain_tuple_new _]
    have x1 := sub_tuple_self; have x2 := init_tuple_lookup; have x3 := madeHere_tuple
    have x4 := src.type s ok; have x6 := src.notTuple
    have x5 : A.in1.in1.handled = none := by simp [nh]
    wp_walk using wpAny_typeOf x4, PySem.W.kdu_collect (A := A.in1.in1) src x5 ok hn
    intro g tk acc keep items
    refine (?_ : wpAny _ _ (Builtin.Tuple.tupleExact acc.toList.toArray >>= fun v => ret v) _ _ _)
    unfold Builtin.Tuple.tupleExact
    rw [Array.toArray_toList]
    refine wpAny_bind (wpAny_newObj_type (wpAny_pure ⟨⟨_, Heap.get?_push_size _ rfl, rfl⟩, hQ g tk acc keep items⟩) ?_)
    show acc.size ≤ sizeLine
    rw [items.1]
    exact hn
  · exact codeAny_call_builtin PySem.F.called_tuple.init.plain PySem.F.entry_object_init (PySem.F.called_tuple.init.check _ _ _ _ _ _ _ _ q.1 (PySem.F.args_object_init_2 o _) (object_init_meets PySem.F.called_tuple.init.lookup PySem.F.called_tuple.made (by decide) P w A.in1 _ t ⟨q.1, rfl, q.2⟩))
end
theorem keys_vals {X : Cx} {kvs : List (Key × V)} {vs : List (Key × Value)} {acc : Array Value} (rk : KV kvs vs) (items : ItemsOf (fun i v => ∃ k x, vs[i]? = some (k, x) ∧ (mixKind X.prog X.w).is k v = true) acc vs.length) : Vals (kvs.map fun kv => kV kv.1) acc.toList := by
  have hl : kvs.length = vs.length := Paired.length rk
  refine vals_of_at (by
    rw [List.length_map, hl, ← items.1]
    rfl) fun j x u h1 h2 => ?_
  obtain ⟨k, y, hk, hi⟩ := items.2 j u (by rw [← Array.getElem?_toList, h2])
  have e1 : (kvs.map (·.1))[j]? = some k := by
    rw [KV.keys rk, List.getElem?_map, hk]
    rfl
  have e2 : (kvs.map fun kv => kV kv.1) = (kvs.map (·.1)).map kV := by rw [List.map_map]; rfl
  rw [e2, List.getElem?_map, e1] at h1
  cases h1
  exact keyIs_rel hi
/-- list(d), tuple(d) -/
def rKeysL : List V → Hp → VK → Prop := fun xs H Q => ∃ p kvs, xs = [.ref p] ∧ Rd H p (.dK kvs) ∧ ∀ q, H q = none → Q (.ref q) (upd H q (.lst (kvs.map fun kv => kV kv.1)))
def rKeysT : List V → Hp → VK → Prop := fun xs H Q => ∃ p kvs, xs = [.ref p] ∧ Rd H p (.dK kvs) ∧ ∀ q, H q = none → Q (.ref q) (upd H q (.tup (kvs.map fun kv => kV kv.1)))
theorem cr_keysL {X : Cx} (hc : X.calm = true) : CallR X (.type "list") rKeysL := by
  intro pins s σ H xs us Q I r h
  obtain ⟨p, kvs, rfl, hp, q⟩ := h
  rw [Vals.ref1 r]
  obtain ⟨z, lo, vs, rk, hd⟩ := dk_rd I.hok hp
  obtain ⟨ep, hat⟩ := hd.dictAt
  have hl : kvs.length = vs.length := Paired.length rk
  refine PySem.W.kdl_call (PySem.W.kdl_dict (knd := mixKind X.prog X.w) (kvs := vs) (ep := ep) lo) (I.ok.hd hc) hat (by omega) fun g tk acc c keep at_ items => ?_
  refine ⟨.ref s.heap.objs.size, _, I.laid keep (Nat.le_refl _) (o := .lst (kvs.map fun kv => kV kv.1)) ?_, rfl, q _ (I.hok.fresh (Nat.le_refl _))⟩
  exact ⟨by rw [List.length_map]; exact z, acc.toList, c, keys_vals rk items, by rw [Array.toArray_toList]; exact at_⟩
theorem cr_keysT {X : Cx} (hc : X.calm = true) : CallR X (.type "tuple") rKeysT := by
  intro pins s σ H xs us Q I r h
  obtain ⟨p, kvs, rfl, hp, q⟩ := h
  rw [Vals.ref1 r]
  obtain ⟨z, lo, vs, rk, hd⟩ := dk_rd I.hok hp
  obtain ⟨ep, hat⟩ := hd.dictAt
  have hl : kvs.length = vs.length := Paired.length rk
  refine tup_of_src (PySem.W.kdl_dict (knd := mixKind X.prog X.w) (kvs := vs) (ep := ep) lo) (I.ok.hd hc) hat (by omega) fun g tk acc keep items => ?_
  have I1 : Inv X pins σ H { s with heap := g, toks := tk } := I.kept keep
  refine ⟨.ref g.objs.size, _, I1.laid (t' := tk) (h' := g.push { cls := .type "tuple", data := .seq acc }) (o := .tup (kvs.map fun kv => kV kv.1)) (fun _ _ z => Heap.get?_push_of_some _ z) (Nat.le_refl _) ?_, rfl, q _ (I1.hok.fresh (Nat.le_refl _))⟩
  refine ⟨by rw [List.length_map]; exact z, acc.toList, keys_vals rk items, ?_⟩
  rw [Array.toArray_toList]
  exact IsTup.new _ _
section
variable {H : Hp} {Qv : VK} {σ : L2.St}
theorem r_keysL {p : Addr} {kvs : List (Key × V)} (h : Rd H p (.dK kvs)) (q : Lay 0 (.lst (kvs.map fun kv => kV kv.1)) Qv H) : rKeysL [.ref p] H Qv := ⟨p, kvs, rfl, h, q.2⟩
theorem r_keysT {p : Addr} {kvs : List (Key × V)} (h : Rd H p (.dK kvs)) (q : Lay 0 (.tup (kvs.map fun kv => kV kv.1)) Qv H) : rKeysT [.ref p] H Qv := ⟨p, kvs, rfl, h, q.2⟩
theorem r_setOfL {K : PySem.W.Frag} {w : World} {l : Addr} {ns : List Int} (h : SqL K H l (ns.map V.int)) (hn : ns.length ≤ 1000) (q : ∀ n, n ≤ ns.length → ∀ a, H a = none → Qv (.ref a) (upd H a (SetO w a (fun j => decide (j ∈ ns)) n))) : rSetL K w [.ref l] H Qv :=
  ⟨l, ns, rfl, h, hn, fun n a h1 h2 => q n h1 a h2⟩
end
theorem setO_nt {w : World} {a : Addr} {S : Int → Bool} {n : Nat} : NoT (SetO w a S n) := fun ps z => by
  have y : HO.ext _ = HO.tbl ps := z
  cases y
/-! ### sorted, texts -/
def leS (a b : Str) : Prop := ltCps b.cps.toList a.cps.toList = false
theorem leS_k {a b : Str} : leS a b ↔ strKind.kle a.cps.toList b.cps.toList := by
  unfold leS KeyOrd.kle
  rw [ltCps_eq]
theorem leS_anti {a b : Str} (h1 : leS a b) (h2 : leS b a) : a = b := by
  have e := KeyOrd.kle_antisymm (leS_k.mp h1) (leS_k.mp h2)
  obtain ⟨⟨x⟩⟩ := a
  obtain ⟨⟨y⟩⟩ := b
  have e : x = y := e
  rw [e]
theorem leS_trans {a b c : Str} (h1 : leS a b) (h2 : leS b c) : leS a c := leS_k.mpr (KeyOrd.kle_trans (leS_k.mp h1) (leS_k.mp h2))
theorem rising_pw : ∀ (l : List Str) (p : Str), risingS p l = true → (p :: l).Pairwise leS
  | [], p, _ => List.pairwise_singleton _ _
  | x :: r, p, h => by
    have h : (!ltCps x.cps.toList p.cps.toList && risingS x r) = true := h
    rw [Bool.and_eq_true, Bool.not_eq_true'] at h
    have ih := rising_pw r x h.2
    refine List.pairwise_cons.mpr ⟨fun y hy => ?_, ih⟩
    rcases List.mem_cons.mp hy with e | hy
    · rw [e]; exact h.1
    · exact leS_trans h.1 ((List.pairwise_cons.mp ih).1 y hy)
theorem sortedS_pw {l : List Str} (h : sortedS l = true) : l.Pairwise leS := by
  cases l with
  | nil => exact .nil
  | cons x r => exact rising_pw r x h
theorem leS_one {xs ys : List Str} (h : xs.Perm ys) (h1 : xs.Pairwise leS) (h2 : ys.Pairwise leS) : xs = ys := sorted_one (fun _ _ => leS_anti) h h1 h2
def rSortT (K : PySem.W.Frag) : List V → Hp → VK → Prop := fun vs H Q => ∃ (a : Addr) (xs : List Str), vs = [.ref a] ∧ SqL K H a (xs.map V.str) ∧ ∀ (ys : List Str) (p : Addr), ys.Perm xs → ys.Pairwise leS → H p = none → Q (.ref p) (upd H p (.lst (ys.map V.str)))
theorem cr_sortT {X : Cx} : CallR X (.builtin "sorted") (rSortT X.K) := by
  intro pins s σ H vs us Q I r h
  obtain ⟨a, xs, rfl, hs, q⟩ := h
  obtain ⟨its, rv, hl, hz⟩ := I.list hs
  rw [Vals.ref1 r]
  refine sorted_strsAny hl.isList rv.strs (by rw [← rv.length]; exact hz) fun out ys h1 h2 h3 => ?_
  obtain ⟨ep, at_⟩ := PyProof.Rows.sortedAll_at s.heap its out
  have hn : (ys.map V.str).length ≤ sizeLine := by
    rw [List.length_map] at hz ⊢
    rw [h2.length_eq]
    exact hz
  exact ⟨.ref _, _, I.laid (t' := s.toks) (o := .lst (ys.map V.str)) (fun _ _ => PyProof.Rows.sortedAll_old) (Nat.le_succ _) ⟨hn, out.toList, ep, vals_of_strs h1, at_⟩, rfl, q ys _ h2 (sortedS_pw h3) (I.hok.fresh (Nat.le_succ _))⟩
theorem r_sortT {K : PySem.W.Frag} {H : Hp} {a : Addr} {xs : List Str} {Qv : VK} (h : SqL K H a (xs.map V.str)) (q : ∀ ys : List Str, ys.Perm xs → ys.Pairwise leS → Lay 0 (.lst (ys.map V.str)) Qv H) : rSortT K [.ref a] H Qv :=
  ⟨a, xs, rfl, h, fun ys p h1 h2 h3 => (q ys h1 h2).2 p h3⟩
theorem r_sortSet {w : World} {H : Hp} {a : Addr} {S : Int → Bool} {n : Nat} {Qv : VK} (h : H a = some (SetO w a S n)) (hn : n < 64) (q : ∀ ns : List Int, ns.Pairwise (· < ·) → (∀ k : Int, k ∈ ns ↔ S k = true) → ns.length = n → Lay 0 (.lst (ns.map V.int)) Qv H) : rSortedSet w [.ref a] H Qv :=
  ⟨a, S, n, rfl, h, hn, fun ns p h1 h2 h3 h4 => (q ns h1 h2 h3).2 p h4⟩
/-- sorted lists of the same ints are equal -/
theorem ltI_one {xs ys : List Int} (h1 : xs.Pairwise (· < ·)) (h2 : ys.Pairwise (· < ·)) (h : ∀ k, k ∈ xs ↔ k ∈ ys) : xs = ys := by
  have nd : ∀ {l : List Int}, l.Pairwise (· < ·) → l.Nodup := fun p => p.imp fun h => by omega
  refine sorted_one (le := fun a b : Int => a ≤ b) (fun a b => Int.le_antisymm) ?_ (h1.imp fun h => Int.le_of_lt h) (h2.imp fun h => Int.le_of_lt h)
  exact (List.perm_ext_iff_of_nodup (nd h1) (nd h2)).mpr h
end Q
namespace Q
open PySem PySem.Spec PyProof.Rows L2
/-! ### a dict comprehension by its walk -/
def DcAdd (Dd : Addr) (P : Hp → Prop) (y z : V) (H5 : Hp) : Prop := ∃ kvs k, y = kV k ∧ H5 Dd = some (.dK kvs) ∧ kvs.length < sizeLine ∧ P (upd H5 Dd (.dK (putK kvs k z)))
def DcT (Dd : Addr) (P : Hp → Prop) (tt : TT) (tk tv : TE) (vs : List Nat) (σ : L2.St) : L2.St → Hp → Prop := fun σ2 H2 => wipe σ2 vs = wipe σ vs ∧ tt σ2 H2 fun b H3 => if b = true then tk σ2 H3 fun y H4 => tv σ2 H4 fun z H5 => DcAdd Dd P y z H5 else P H3
def DcGo (J : It) (g : TG) (tt : TT) (tk tv : TE) (vs : List Nat) (σ : L2.St) (Q : VK) (H1 : Hp) : Prop := ∀ D, H1 D = none → ∃ W : Nat → Nat → Hp → Prop, (∃ m, W 0 m (upd H1 D (.dK []))) ∧ ∀ i m H, W i m H →
  (J.stop i H ∧ Q (.ref D) H) ∨ (J.go i H ∧ ∃ Nx : Hp → Prop, (∀ H', Nx H' → ∃ m', m' < m ∧ W (i + 1) m' H') ∧ ∀ x H', J.yld i H x H' → g x (wipe σ vs) H' (DcT D Nx tt tk tv vs σ))
theorem r_dc {wi : TI} {g : TG} {tt : TT} {tk tv : TE} {vs : List Nat} {σ : L2.St} {H : Hp} {Q : VK} (q : wi σ H fun J H1 => DcGo J g tt tk tv vs σ Q H1) : tDc wi g tt tk tv vs σ H Q := q
theorem r_dcT {Dd : Addr} {P : Hp → Prop} {tt : TT} {tk tv : TE} {vs : List Nat} {σ σ2 : L2.St} {H : Hp} (h : wipe σ2 vs = wipe σ vs) (q : tt σ2 H fun b H3 => if b = true then tk σ2 H3 fun y H4 => tv σ2 H4 fun z H5 => DcAdd Dd P y z H5 else P H3) : DcT Dd P tt tk tv vs σ σ2 H := ⟨h, q⟩
def DcP (e : En) (G : Hp) (M : List Addr) (R : Nat → List (Key × V) → Hp → Hp → Prop) (Dd : Addr) (i : Nat) (H : Hp) : Prop := ∃ kvs Gi, Wd e Gi H (Dd :: M) ∧ Same G Gi ∧ H Dd = some (.dK kvs) ∧ kvs.length ≤ i ∧ R i kvs Gi H
theorem r_dcAdd {e : En} {G Gy H4 : Hp} {M : List Addr} {R : Nat → List (Key × V) → Hp → Hp → Prop} {Dd : Addr} {i : Nat} {kvs : List (Key × V)} {t : Str} {z : V} (w : Wd e Gy H4 (Dd :: M)) (s : Same G Gy) (h : H4 Dd = some (.dK kvs)) (hl : kvs.length ≤ i) (hi : i ≤ 1000000)
    (k : ∀ H5, Wd e Gy H5 (Dd :: M) → But Dd H4 H5 → R (i + 1) (putK kvs (.inr t) z) Gy H5) : DcAdd Dd (DcP e G M R Dd (i + 1)) (.str t) z H4 := by
  have w5 := wd_mut (o := .dK (putK kvs (.inr t) z)) w List.mem_cons_self
  exact ⟨kvs, .inr t, rfl, h, Nat.lt_of_le_of_lt (Nat.le_trans hl hi) (by decide), _, Gy, w5, s, upd_same, Nat.le_trans (length_putK _ _ _) (Nat.add_le_add_right hl 1), k _ w5 but_upd⟩
theorem dc_go {e : En} {G H1 : Hp} {M : List Addr} {J : It} {n : Nat} {Gd : Hp → Prop} {Y : Nat → Hp → V → Hp → Prop} {g : TG} {tt : TT} {tk tv : TE} {vs : List Nat} {σ : L2.St} {Q : VK} (w : Wd e G H1 M) (hw : Walk J n Gd Y) (R : Nat → List (Key × V) → Hp → Hp → Prop)
    (h0 : ∀ (Dd : Addr) (H : Hp), Wd e G H (Dd :: M) → Same H1 H → (∀ m ∈ M, Dd ≠ m) → R 0 [] G H)
    (hG : ∀ i kvs Gi H, Wd e Gi H M → Same G Gi → R i kvs Gi H → Gd H)
    (hs : ∀ (Dd : Addr) i kvs Gi H x H', i < n → kvs.length ≤ i → Wd e Gi H (Dd :: M) → Same G Gi → H Dd = some (.dK kvs) → (∀ m ∈ M, Dd ≠ m) → R i kvs Gi H → Y i H x H' → g x (wipe σ vs) H' (DcT Dd (DcP e G M R Dd (i + 1)) tt tk tv vs σ))
    (hd : ∀ (p : Addr) kvs Gi H, kvs.length ≤ n → Wd e Gi H (p :: M) → Same G Gi → H p = some (.dK kvs) → e.H0 p = none → (∀ m ∈ M, p ≠ m) → R n kvs Gi H → Q (.ref p) H) : DcGo J g tt tk tv vs σ Q H1 := by
  intro Dd hD
  have w1 := wd_layM (o := .dK []) w hD
  have nm : ∀ m ∈ M, Dd ≠ m := fun m hm => w.nm hD hm
  refine ⟨fun i m H => m = n - i ∧ i ≤ n ∧ DcP e G M R Dd i H, ⟨n, by simp, Nat.zero_le _, [], G, w1, Same.refl _, upd_same, Nat.le_refl _, h0 Dd _ w1 (same_upd hD) nm⟩, ?_⟩
  rintro i m H ⟨rfl, hi, kvs, Gi, w2, s2, h2, l2, r⟩
  have gd := hG i kvs Gi H (wd_drop w2 (List.sublist_cons_self _ _)) s2 r
  by_cases lt : i < n
  · exact .inr ⟨hw.goes i H lt gd, DcP e G M R Dd (i + 1), fun H' p' => ⟨n - (i + 1), by omega, rfl, lt, p'⟩, fun x H' y => hs Dd i kvs Gi H x H' lt l2 w2 s2 h2 nm r (hw.yields i H x H' lt gd y)⟩
  · obtain rfl : i = n := by omega
    exact .inl ⟨hw.stops H gd, hd Dd kvs Gi H l2 w2 s2 h2 (w.n0 hD) nm r⟩
/-! ### what was heard: told with its value, or the error's sign and what it keeps -/
def HearT (Q : VK) (v : V) (H1 : Hp) : Prop := ∃ (e : En) (G : Hp) (M : List Addr), Wd e G H1 M ∧ ∀ l G' H', Wd e G' H' M → Same G G' → Same H1 H' → G' l = some (.tup [.str "told", v]) → Q (.ref l) H'
def TTold (kd : List (Addr × Str × Str)) : (XK → Hp → VK → Prop) → Hp → VK → Prop := fun tl H Q => ∀ (E : XK) (Q' : VK), (∀ cls d H1, HearX kd Q cls d H1 → E cls d H1) → (∀ v H1, HearT Q v H1 → Q' v H1) → tl E H Q'
section
variable {X : Cx} {Ng : List Str} {x a n cl : Str} {sg : Scope} {g f c' Ct : Addr} {cdg : Value} {s : Shared} {H : Hp} {i : Nat} {first : Stmt} {rest : List Stmt} {q : Str} {tl : XK → Hp → VK → Prop} {ts : Addr → Value → Option Addr → TS} {p1 p2 p3 p4 np hp tp : Pos} {e1 : Expr} {v1 : V} {kk : Nat}
def tAskR (K : PySem.W.Frag) (Ct : Addr) (i m : Nat) (f c' : Addr) (q : Str) (v1 : V) (tl : XK → Hp → VK → Prop) (ts : Addr → Value → Option Addr → TS) : TS := fun D σ H =>
  ∃ Ech : XK, (∀ cls d σ' H', Ech cls d H' → wKeep K (.ref Ct) i m ts D cls d σ' H') ∧ σ[0]? = some (some (.ref f)) ∧ H c' = some (LamX.CodeO c' q) ∧ tl Ech H fun v H1 => Lay 2 (.tup [v1, v]) D.rt H1
theorem ps_askR (act : ∀ (W : WX) (pn : List (Addr × Obj)) (xe : Value → Shared → Prop) (E : XK) (p1 p2 : Pos), Takes ((cxOf C8.CX0 X.prog X.w X.K X.mg X.base Ng x sg g cdg X.A X.stack s H C8.E0).tr pn xe) W → (∀ cls d σ' H', E cls d H' → W cls d σ' H') →
      PE ((cxOf C8.CX0 X.prog X.w X.K X.mg X.base Ng x sg g cdg X.A X.stack s H C8.E0).tr pn xe) (.Call (.Name a p1) [] [] p2) (fun σZ HZ Q => σZ[0]? = some (some (.ref f)) ∧ HZ c' = some (LamX.CodeO c' q) ∧ tl E HZ Q))
    (he : ∀ X' : Cx, PE X' e1 (tC v1)) (hN : Ng.Nodup) (hi : Ng[i]? = some n) (hln : sg.names.lookup n = some .local) (hge : sg.names.lookup cl = some .globalImplicit) (hde : (cl == ("__debug__" : Str)) = false) (hm : X.mg cl = some (.ref Ct))
    (hs : ∀ (a : Addr) (oe : Obj) (cls : Value) (d : Option Addr) (pn : List (Addr × Obj)), Zc cls d oe → (∃ vs, oe.data = .fields vs) → PSs ((hearCx X Ng x sg g cdg s H).suite a ((a, oe) :: pn)) (first :: rest) (ts a cls d))
    (hst : ∀ (pn : List (Addr × Obj)) (xe : Value → Shared → Prop), starEach [e1, .Call (.Name a p1) [] [] p2] ((cxOf C8.CX0 X.prog X.w X.K X.mg X.base Ng x sg g cdg X.A X.stack s H C8.E0).tr pn xe).env = (false, eval e1 ((cxOf C8.CX0 X.prog X.w X.K X.mg X.base Ng x sg g cdg X.A X.stack s H C8.E0).tr pn xe).env) :: starEach [.Call (.Name a p1) [] [] p2] ((cxOf C8.CX0 X.prog X.w X.K X.mg X.base Ng x sg g cdg X.A X.stack s H C8.E0).tr pn xe).env := by intro _ _; rfl) :
    PS (hearCx X Ng x sg g cdg s H) (.Try [.Return (some (.Tuple [e1, .Call (.Name a p1) [] [] p2] kk p3)) p4] [.ExceptHandler (some (.Name cl np)) (some n) (first :: rest) hp] [] [] tp) (tAskR X.K Ct i Ng.length f c' q v1 tl ts) := by
  refine ps_try_keep (X := hearCx X Ng x sg g cdg s H) (c := .ref Ct) (ts := ts) (tb := fun W D σ H => ∃ Ech : XK, (∀ cls d σ' H', Ech cls d H' → W cls d σ' H') ∧ σ[0]? = some (some (.ref f)) ∧ H c' = some (LamX.CodeO c' q) ∧ tl Ech H fun v H1 => Lay 2 (.tup [v1, v]) D.rt H1)
    rfl rfl hN hi hln ⟨hge, hde, .inl hm⟩ (fun W pn xe tk _ => ?_) hs
  refine pss_one ⟨fun pins s' σ H' D I h' => ?_⟩
  obtain ⟨Ech, hW, h1, h2, h3⟩ := h'
  exact (ps_ret (pe_tup (pa_cons (he _) (pa_cons (act W pn xe Ech p1 p2 tk hW) pa_nil) (hst pn xe)))).run pins s' σ H' D I ⟨h1, h2, h3⟩
end
theorem r_lamT {T : List (Addr × Str)} {kd : List (Addr × Str × Str)} {t : XK → TE} {σ : L2.St} {e : En} {G H : Hp} {M : List Addr} {Q : VK} (w : Wd e G H M) (eT : e.T = T) (cov : ∀ a, e.H0 a ≠ none → (∃ q, (a, q) ∈ e.T) ∨ (a ∉ e.P0 ∧ ∀ o, e.H0 a = some o → NoT o)) (inP : ∀ p ∈ e.T, p.1 ∈ e.P0)
    (k : ∀ (H1 : Hp) (E : XK) (Q' : VK), Wd e G H1 M → LamX.ExtN H H1 → (∀ cls d H2, HearX kd Q cls d H2 → E cls d H2) → (∀ v H2, HearT Q v H2 → Q' v H2) → t E σ H1 Q') : LamX.tLam T (TTold kd) t σ H Q := by
  subst eT
  exact ⟨w.tb, fun H1 x tb E Q' hE hQ => k H1 E Q' (wd_lam w x tb cov inP) x hE hQ⟩
/-! ### what begins: texts with lists or tuples -/
inductive BegAt (K : PySem.W.Frag) (G : Hp) : List (Key × V) → List (Str × List V) → Prop
  | nil : BegAt K G [] []
  | cons {s : Str} {a : Addr} {xs : List V} {kvs : List (Key × V)} {rows : List (Str × List V)} (h : SqA K G a xs) (r : BegAt K G kvs rows) : BegAt K G ((.inr s, .ref a) :: kvs) ((s, xs) :: rows)
def rowOf (rows : List (Str × List V)) (s : Str) : Option (List V) := (rows.find? fun r => decide (r.1 = s)).map (·.2)
section
variable {K : PySem.W.Frag} {G G' : Hp} {kvs : List (Key × V)} {rows : List (Str × List V)}
theorem BegAt.same (h : BegAt K G kvs rows) (s : Same G G') : BegAt K G' kvs rows := by
  induction h with
  | nil => exact .nil
  | cons h _ ih => exact .cons (h.same s) ih
theorem BegAt.len (h : BegAt K G kvs rows) : kvs.length = rows.length := by
  induction h with
  | nil => rfl
  | cons _ _ ih => simp [ih]
theorem BegAt.keys (h : BegAt K G kvs rows) : kvs.map (fun kv => kV kv.1) = (rows.map (·.1)).map V.str := by
  induction h with
  | nil => rfl
  | cons _ _ ih => rw [List.map_cons, List.map_cons, List.map_cons, ih]; rfl
theorem BegAt.keysR (h : BegAt K G kvs rows) : kvs.map (·.1) = (rows.map (·.1)).map Sum.inr := by
  induction h with
  | nil => rfl
  | cons _ _ ih => simp [ih]
theorem BegAt.get (h : BegAt K G kvs rows) : ∀ {i : Nat} {k : Key} {v : V}, kvs[i]? = some (k, v) → ∃ s xs, k = .inr s ∧ rows[i]? = some (s, xs) := by
  induction h with
  | nil => intro i k v e; simp at e
  | cons _ _ ih =>
    intro i k v e
    cases i with
    | zero => cases e; exact ⟨_, _, rfl, rfl⟩
    | succ i => exact ih (by simpa using e)
theorem BegAt.val (h : BegAt K G kvs rows) (s : Str) : (rowOf rows s = none ∧ valV kvs (.inr s) = none) ∨ ∃ a xs, rowOf rows s = some xs ∧ valV kvs (.inr s) = some (.ref a) ∧ SqA K G a xs := by
  induction h with
  | nil => exact .inl ⟨rfl, rfl⟩
  | cons h _ ih =>
    rename_i t a xs kvs rows _
    by_cases e : t = s
    · refine .inr ⟨a, xs, ?_, ?_, h⟩
      · simp [rowOf, e]
      · exact valV_pos (p := ((Sum.inr t : Key), V.ref a)) (by rw [e])
    · have e2 : ¬ (Sum.inr t : Key) = .inr s := fun z => e (Sum.inr.inj z)
      have e3 : rowOf ((t, xs) :: rows) s = rowOf rows s := by simp [rowOf, e]
      rw [e3, valV_neg (p := ((Sum.inr t : Key), V.ref a)) e2]
      exact ih
theorem rowOf_mem {s : Str} {xs : List V} (h : rowOf rows s = some xs) : (s, xs) ∈ rows := by
  unfold rowOf at h
  cases e : rows.find? fun r => decide (r.1 = s) with
  | none => rw [e] at h; cases h
  | some r =>
    rw [e] at h
    have h1 := List.mem_of_find?_eq_some e
    have h2 := List.find?_some e
    have h3 : r.1 = s := of_decide_eq_true h2
    cases h
    rw [← h3]
    exact h1
theorem rowOf_key {s : Str} (h : s ∈ rows.map (·.1)) : ∃ xs, rowOf rows s = some xs := by
  unfold rowOf
  cases e : rows.find? fun r => decide (r.1 = s) with
  | some r => exact ⟨_, rfl⟩
  | none =>
    obtain ⟨r, hr, rfl⟩ := List.mem_map.mp h
    have := List.find?_eq_none.mp e r hr
    simp at this
end
/-- a dict keeps its keys apart -/
theorem nd_put {kvs : List (Key × V)} (h : (kvs.map (·.1)).Nodup) (k : Key) (v : V) : ((putK kvs k v).map (·.1)).Nodup := by
  cases e : valV kvs k with
  | none => exact nd_putK v h e
  | some y =>
    unfold putK
    rw [valV_any, e, if_pos (show (some y).isSome = true from rfl), List.map_map]
    have : ((fun x : Key × V => x.1) ∘ fun kv => if kv.1 = k then (kv.1, v) else kv) = fun kv => kv.1 := by
      funext kv
      dsimp
      split <;> rfl
    rw [this]
    exact h
end Q
namespace Q
open PySem PySem.Spec PyProof.Rows L2
/-! ### lives: what begins, the first fault, what is kept -/
def faultL (Cn Cm : Addr) (rows : List (Str × List V)) : List Str → Option (Addr × Str × V)
  | [] => none
  | t :: ts => if nmOk t = true then (match ((rowOf rows t).getD []).find? (fun v => !momV v 1) with
    | some v => some (Cm, "moment", v)
    | none => faultL Cn Cm rows ts) else some (Cn, "name", .str t)
section
variable {Cn Cm : Addr} {rows : List (Str × List V)} {t : Str} {ts : List Str} {xs : List V}
theorem faultL_n (h : nmOk t = false) : faultL Cn Cm rows (t :: ts) = some (Cn, ("name" : Str), .str t) := by
  unfold faultL
  rw [h]
  rfl
theorem faultL_m {v : V} (h : nmOk t = true) (hx : rowOf rows t = some xs) (hf : xs.find? (fun v => !momV v 1) = some v) : faultL Cn Cm rows (t :: ts) = some (Cm, ("moment" : Str), v) := by
  unfold faultL
  rw [if_pos h, hx]
  show (match xs.find? (fun v => !momV v 1) with
    | some v => some (Cm, ("moment" : Str), v)
    | none => faultL Cn Cm rows ts) = _
  rw [hf]
theorem faultL_go (h : nmOk t = true) (hx : rowOf rows t = some xs) (hf : ∀ v ∈ xs, momV v 1 = true) : faultL Cn Cm rows (t :: ts) = faultL Cn Cm rows ts := by
  have e : xs.find? (fun v => !momV v 1) = none := List.find?_eq_none.mpr fun v hv => by simp [hf v hv]
  rw [faultL, if_pos h, hx]
  show (match xs.find? (fun v => !momV v 1) with
    | some v => some (Cm, ("moment" : Str), v)
    | none => faultL Cn Cm rows ts) = _
  rw [e]
theorem faultL_none : ∀ {ts : List Str}, faultL Cn Cm rows ts = none → ∀ t ∈ ts, nmOk t = true ∧ ∀ v ∈ (rowOf rows t).getD [], momV v 1 = true
  | [], _ => fun t h => by cases h
  | u :: ts, h => fun t ht => by
    unfold faultL at h
    split at h
    · rename_i c
      split at h
      · cases h
      · rename_i e
        rcases List.mem_cons.mp ht with rfl | ht
        · refine ⟨c, fun v hv => ?_⟩
          have := List.find?_eq_none.mp e v hv
          simpa using this
        · exact faultL_none h t ht
    · cases h
theorem find_at {α : Type} {p : α → Bool} : ∀ {xs : List α} {j : Nat} {v : α}, xs[j]? = some v → (∀ u ∈ xs.take j, p u = false) → p v = true → xs.find? p = some v
  | x :: xs, 0, v, h, _, hv => by
    cases h
    rw [List.find?_cons, hv]
  | x :: xs, j + 1, v, h, hb, hv => by
    rw [List.find?_cons, hb x (by simp)]
    exact find_at (by simpa using h) (fun u hu => hb u (by simp [hu])) hv
end
structure RowsOk (K : PySem.W.Frag) (G : Hp) (rows : List (Str × List V)) : Prop where
  len : ∀ r ∈ rows, r.1.length ≤ 1000 ∧ r.2.length ≤ 60
  odd : ∀ r ∈ rows, ∀ v ∈ r.2, ∃ d, Odd K G v d
  key : ∀ r ∈ rows, ∃ d, Odd K G (.str r.1) d
  txt : ∀ r ∈ rows, PyData.strOk r.1 = true
theorem RowsOk.same {K : PySem.W.Frag} {G G' : Hp} {rows : List (Str × List V)} (h : RowsOk K G rows) (s : Same G G') : RowsOk K G' rows := ⟨h.len, fun r hr v hv => (h.odd r hr v hv).elim fun d o => ⟨d, o.same s⟩, fun r hr => (h.key r hr).elim fun d o => ⟨d, o.same s⟩, h.txt⟩
inductive LvAt (G : Hp) : List (Key × V) → List (Str × List Int) → Prop
  | nil : LvAt G [] []
  | cons {s : Str} {a : Addr} {ns : List Int} {kvs : List (Key × V)} {bt : List (Str × List Int)} (h : G a = some (.tup (ns.map V.int))) (r : LvAt G kvs bt) : LvAt G ((.inr s, .ref a) :: kvs) ((s, ns) :: bt)
section
variable {G G' : Hp} {kvs : List (Key × V)} {bt : List (Str × List Int)}
theorem LvAt.same (h : LvAt G kvs bt) (s : Same G G') : LvAt G' kvs bt := by
  induction h with
  | nil => exact .nil
  | cons h _ ih => exact .cons (s _ _ h) ih
theorem LvAt.snoc (r : LvAt G kvs bt) {s : Str} {a : Addr} {ns : List Int} (h : G a = some (.tup (ns.map V.int))) : LvAt G (kvs ++ [(.inr s, .ref a)]) (bt ++ [(s, ns)]) := by
  induction r with
  | nil => exact .cons h .nil
  | cons h2 _ ih => exact .cons h2 ih
theorem LvAt.keys (h : LvAt G kvs bt) : kvs.map (fun kv => kV kv.1) = (bt.map (·.1)).map V.str := by
  induction h with
  | nil => rfl
  | cons _ _ ih => rw [List.map_cons, List.map_cons, List.map_cons, ih]; rfl
theorem LvAt.out (h : LvAt G kvs bt) {s : Str} (n : s ∉ bt.map (·.1)) : valV kvs (.inr s) = none := by
  induction h with
  | nil => rfl
  | cons _ _ ih =>
    rename_i t a ns kvs bt _ _
    have e : ¬ (Sum.inr t : Key) = .inr s := fun z => n (by rw [Sum.inr.inj z]; simp)
    rw [valV_neg (p := ((Sum.inr t : Key), V.ref a)) e]
    exact ih fun m => n (by simp at m ⊢; exact .inr m)
end
/-- 0 and what is told, ascending -/
def Begs (xs : List V) (ns : List Int) : Prop := ∃ ms : List Int, ns = 0 :: ms ∧ ms.Pairwise (· < ·) ∧ ∀ k : Int, k ∈ ms ↔ V.int k ∈ xs
def BtOf (rows : List (Str × List V)) (ts : List Str) (bt : List (Str × List Int)) : Prop := bt.map (·.1) = ts ∧ ∀ p ∈ bt, Begs ((rowOf rows p.1).getD []) p.2
def LivesAt (C : Addr) (G : Hp) (a : Addr) (bt : List (Str × List Int)) : Prop := ∃ dx D od kvs, G a = some (.ins C dx [("by_tool", .ref D)]) ∧ G D = some (.frz od (.dK kvs)) ∧ LvAt G kvs bt
theorem LivesAt.same {C a : Addr} {G G' : Hp} {bt : List (Str × List Int)} (h : LivesAt C G a bt) (s : Same G G') : LivesAt C G' a bt := by
  obtain ⟨dx, D, od, kvs, h1, h2, h3⟩ := h
  exact ⟨dx, D, od, kvs, s _ _ h1, s _ _ h2, h3.same s⟩
structure LvC (K : PySem.W.Frag) (C : Addr) : Prop where
  c : Cls K C
  n1 : NoAttr K C "by_tool"
def spLives (K : PySem.W.Frag) (C Cn Cm : Addr) : Sp := fun vs H Q E => ∃ (G : Hp) (x dx d : Addr) (od : Obj) (kvs : List (Key × V)) (rows : List (Str × List V)), vs = [.ref x, .ref d] ∧ Gh G H ∧ G x = none ∧ H x = some (.ins C dx []) ∧
  G d = some (.frz od (.dK kvs)) ∧ BegAt K G kvs rows ∧ RowsOk K G rows ∧ (kvs.map (·.1)).Nodup ∧ kvs.length ≤ 1000 ∧ ∀ ts : List Str, ts.Perm (rows.map (·.1)) → ts.Pairwise leS →
  (∀ cls f v, faultL Cn Cm rows ts = some (cls, f, v) → ∀ (G' H' : Hp) (dd : Addr), But x H H' → (∃ o, H' x = some o ∧ plainB o = true) → Gh G' H' → Same G G' → (∀ b, H b ≠ none → G' b = G b) → G' dd = some (.xd [(f, v)]) → E (.ref cls) (some dd) H') ∧
  (faultL Cn Cm rows ts = none → ∀ (G' H' : Hp) (D : Addr) (od2 : Obj) (kv2 : List (Key × V)) (bt : List (Str × List Int)), H D = none → But x H H' → Gh G' H' → Same G G' → (∀ b, H b ≠ none → G' b = G b) → G' D = some (.frz od2 (.dK kv2)) → LvAt G' kv2 bt → BtOf rows ts bt →
    H' x = some (.ins C dx [("by_tool", .ref D)]) → Q .non H')
theorem u_lives {K : PySem.W.Frag} {C Cn Cm d : Addr} {od : Obj} {kvs : List (Key × V)} {rows : List (Str × List V)} {e : En} {G H : Hp} {M : List Addr} {Qv : VK} {E : XK} (w : Wd e G H M) (hd : G d = some (.frz od (.dK kvs))) (hb : BegAt K G kvs rows) (ro : RowsOk K G rows) (nd : (kvs.map (·.1)).Nodup) (ln : kvs.length ≤ 1000)
    (bad : ∀ ts : List Str, ts.Perm (rows.map (·.1)) → ts.Pairwise leS → ∀ cls f v, faultL Cn Cm rows ts = some (cls, f, v) → ∀ dd G' H', Wd e G' H' M → Same G G' → Same H H' → G' dd = some (.xd [(f, v)]) → E (.ref cls) (some dd) H')
    (good : ∀ ts : List Str, ts.Perm (rows.map (·.1)) → ts.Pairwise leS → faultL Cn Cm rows ts = none → ∀ a G' H' bt, Wd e G' H' M → Same G G' → Same H H' → LivesAt C G' a bt → BtOf rows ts bt → Qv (.ref a) H') : MakeGo C (spLives K C Cn Cm) [.ref d] E H Qv := by
  refine make_go w fun a dx G1 H1 hx nm s1 t1 w1 h1 n0 => ?_
  have keeps : ∀ {H2 : Hp}, But a H1 H2 → Same H H2 := fun {H2} b2 c o h => by
    refine b2 c o (fun q => ?_) (t1 _ _ h)
    subst q
    rw [hx] at h
    cases h
  refine ⟨G1, a, dx, d, od, kvs, rows, rfl, w1.gh, (w1.mu a List.mem_cons_self).1, h1, s1 _ _ hd, hb.same s1, ro.same s1, nd, ln, fun ts p1 p2 => ⟨fun cls f v hf G2 H2 dd b2 hh s2 s3 fr hdd => ?_, fun hf G2 H2 D od2 kv2 bt _ b2 s2 s3 fr hD lv bo h2 => ⟨rfl, ?_⟩⟩⟩
  · obtain ⟨o, h2, no⟩ := hh
    have w2 := wd_made w1 b2 h2 no s2 s3 fr
    exact bad ts p1 p2 cls f v hf dd G2 H2 (wd_drop w2 (List.sublist_cons_self _ _)) (s1.trans s3) (keeps b2) hdd
  · have w2 := wd_made w1 b2 h2 rfl s2 s3 fr
    obtain ⟨w4, s4⟩ := wd_freeze w2 h2 n0
    exact good ts p1 p2 hf a _ H2 bt w4 (s1.trans (s3.trans s4)) (keeps b2) ⟨dx, D, od2, kv2, upd_same, s4 _ _ hD, lv.same s4⟩ bo
def spTools (C : Addr) : Sp := fun vs H Q _ => ∃ (G : Hp) (a : Addr) (bt : List (Str × List Int)), vs = [.ref a] ∧ Gh G H ∧ LivesAt C G a bt ∧ Ret G H (fun v G' => ∃ p, v = .ref p ∧ G' p = some (.tup ((bt.map (·.1)).map V.str))) Q
theorem u_tools {C a : Addr} {e : En} {G H : Hp} {M : List Addr} {bt : List (Str × List Int)} {Q : VK} {E : XK} (w : Wd e G H M) (h : LivesAt C G a bt) (k : ∀ p G' H', Wd e G' H' M → Same G G' → Same H H' → G' p = some (.tup ((bt.map (·.1)).map V.str)) → Q (.ref p) H') : spTools C [.ref a] H Q E :=
  ⟨G, a, bt, rfl, w.gh, h, ret_use w fun v G' H' w' s1 s2 ⟨p, e1, h1⟩ => by subst e1; exact k p G' H' w' s1 s2 h1⟩
/-! ### rules within a comprehension: K is the outer one -/
section
variable {X : Cx} {K : PySem.W.Frag} {tg l e : Expr} {tl te : TE} {es : List Expr} {t : TA} {p : Pos}
theorem pi_seqK (hK : X.K = K) (hl : PE X l tl) : PI X tg l (iSeq K tl) := by subst hK; exact pi_seq hl
theorem pi_listK (hK : X.K = K) (hl : PE X l tl) : PI X tg l (iList K tl) := by subst hK; exact pi_list hl
theorem pi_tupK (hK : X.K = K) (hl : PE X l tl) : PI X tg l (iTup K tl) := by subst hK; exact pi_tup hl
theorem pa_starK (hK : X.K = K) (he : PE X e te) (hr : PA X es t) (hs : starEach (.Starred e p :: es) X.env = (true, eval e X.env) :: starEach es X.env := by rfl) : PA X (.Starred e p :: es) (StX.tStar K te t) := by subst hK; exact StX.pa_star he hr hs
end
/-! ### a star among the items -/
def StarGo (K : PySem.W.Frag) (x : V) (H : Hp) (R : List V → Hp → Prop) : Prop := ∃ p xs, x = V.ref p ∧ (SqT K H p xs ∨ SqL K H p xs) ∧ R xs H
theorem r_tStar {K : PySem.W.Frag} {te : TE} {t : TA} {σ : L2.St} {H : Hp} {Q : List V → Hp → Prop} (q : te σ H fun x H1 => StarGo K x H1 fun xs H1 => t σ H1 fun ys H2 => Q (xs ++ ys) H2) : StX.tStar K te t σ H Q := q
theorem r_starL {K : PySem.W.Frag} {p : Addr} {xs : List V} {H : Hp} {R : List V → Hp → Prop} (h : SqL K H p xs) (q : R xs H) : StarGo K (.ref p) H R := ⟨p, xs, rfl, .inr h, q⟩
end Q
namespace Q
open PySem PySem.Spec PyProof.Rows L2
/-! ### how what begins is shown -/
section
variable {K : PySem.W.Frag} {G : Hp}
theorem row_data : ∀ {xs : List V}, (∀ v ∈ xs, ∃ d, Odd K G v d) → ∃ ds : List PyData, DqAll K G xs ds ∧ PyData.showableAll ds = true ∧ PyData.depthAll ds ≤ 10 ∧ (ds.map fun d => d.shown.length).sum ≤ 1000 * xs.length ∧ ds.length = xs.length
  | [], _ => ⟨[], .nil, by simp [PyData.showableAll], by simp [PyData.depthAll], by simp, rfl⟩
  | v :: xs, h => by
    obtain ⟨ds, h1, h2, h3, h4, h5⟩ := row_data fun u hu => h u (List.mem_cons_of_mem _ hu)
    obtain ⟨d, o⟩ := h v List.mem_cons_self
    have q1 := o.dp
    have q2 := o.sz
    refine ⟨d :: ds, .cons o.dq h1, by simp [PyData.showableAll, o.sh, h2], ?_, ?_, by simp [h5]⟩
    · simp only [PyData.depthAll]
      omega
    · simp only [List.map_cons, List.sum_cons, List.length_cons]
      omega
theorem row_show {a : Addr} {xs : List V} (hs : SqA K G a xs) (h : ∀ v ∈ xs, ∃ d, Odd K G v d) (hl : xs.length ≤ 60) : ∃ D, Dq K G (.ref a) D ∧ D.showable = true ∧ D.depth ≤ 11 ∧ D.shown.length ≤ 61000 := by
  obtain ⟨ds, h1, h2, h3, h4, h5⟩ := row_data h
  rcases hs with hs | hs
  · refine ⟨.list ds, .lst hs h1, by simp only [PyData.showable]; exact h2, by simp only [PyData.depth]; omega, ?_⟩
    have := sh_list ds h4
    omega
  · refine ⟨.tuple ds, .tup hs h1, by simp only [PyData.showable]; exact h2, by simp only [PyData.depth]; omega, ?_⟩
    have := sh_tup ds h4
    omega
theorem beg_data {kvs : List (Key × V)} {rows : List (Str × List V)} (h : BegAt K G kvs rows) : RowsOk K G rows → ∃ ds : List (PyData × PyData), DqAll K G (kvs.map fun p => kV p.1) (ds.map (·.1)) ∧ DqAll K G (kvs.map (·.2)) (ds.map (·.2)) ∧ PyData.showableKv ds = true ∧
    PyData.depthKv ds ≤ 11 ∧ ((PyData.shownKv ds).map (·.length)).sum ≤ 63000 * rows.length ∧ ds.length = rows.length := by
  induction h with
  | nil => exact fun _ => ⟨[], .nil, .nil, by simp [PyData.showableKv], by simp [PyData.depthKv], by simp [PyData.shownKv], rfl⟩
  | cons h1 _ ih =>
    rename_i s a xs kvs rows _
    intro ro
    obtain ⟨ds, g1, g2, g3, g4, g5, g6⟩ := ih ⟨fun r hr => ro.len r (List.mem_cons_of_mem _ hr), fun r hr => ro.odd r (List.mem_cons_of_mem _ hr), fun r hr => ro.key r (List.mem_cons_of_mem _ hr), fun r hr => ro.txt r (List.mem_cons_of_mem _ hr)⟩
    obtain ⟨D, d1, d2, d3, d4⟩ := row_show h1 (ro.odd _ List.mem_cons_self) (ro.len _ List.mem_cons_self).2
    obtain ⟨k, ok⟩ := ro.key _ List.mem_cons_self
    have k1 := ok.dp
    have k2 := ok.sz
    refine ⟨(k, D) :: ds, .cons ok.dq g1, .cons d1 g2, by simp [PyData.showableKv, ok.sh, d2, g3], ?_, ?_, by simp [g6]⟩
    · simp only [PyData.depthKv]
      omega
    · simp only [PyData.shownKv, List.map_cons, List.sum_cons, List.length_cons, Str.length_append]
      have : (Str.ofString ": ").length = 2 := by decide
      omega
theorem beg_show {d : Addr} {od : Obj} {kvs : List (Key × V)} {rows : List (Str × List V)} (hd : G d = some (.frz od (.dK kvs))) (h : BegAt K G kvs rows) (ro : RowsOk K G rows) (hl : rows.length ≤ 12) : ∃ D, Dq K G (.ref d) D ∧ D.showable = true ∧ D.depth ≤ 60 ∧ D.shown.length ≤ sizeLine := by
  obtain ⟨ds, g1, g2, g3, g4, g5, g6⟩ := beg_data h ro
  refine ⟨.dict ds, .dic (.inr ⟨od, hd⟩) g1 g2, by simp only [PyData.showable]; exact g3, by simp only [PyData.depth]; omega, sz_m ?_⟩
  have z := dictText_len_le (PyData.shownKv ds)
  rw [PyData.shownKv_length] at z
  have e : (PyData.dict ds).shown = dictText (PyData.shownKv ds) := by simp [PyData.shown]
  rw [e]
  omega
/-- a dict gets one more -/
def putR (rows : List (Str × List V)) (s : Str) (xs : List V) : List (Str × List V) := if (rows.any fun r => decide (r.1 = s)) = true then rows.map (fun r => if r.1 = s then (r.1, xs) else r) else rows ++ [(s, xs)]
theorem BegAt.any {kvs : List (Key × V)} {rows : List (Str × List V)} (h : BegAt K G kvs rows) (s : Str) : (kvs.any fun kv => decide (kv.1 = (.inr s : Key))) = rows.any fun r => decide (r.1 = s) := by
  induction h with
  | nil => rfl
  | cons _ _ ih =>
    rename_i t a xs kvs rows _ _
    rw [List.any_cons, List.any_cons, ih]
    have e : decide ((Sum.inr t : Key) = .inr s) = decide (t = s) := by
      by_cases h : t = s
      · rw [h]; simp
      · have : ¬ (Sum.inr t : Key) = .inr s := fun z => h (Sum.inr.inj z)
        rw [decide_eq_false h, decide_eq_false this]
    rw [e]
theorem BegAt.put {kvs : List (Key × V)} {rows : List (Str × List V)} (h : BegAt K G kvs rows) {s : Str} {a : Addr} {xs : List V} (ha : SqA K G a xs) : BegAt K G (putK kvs (.inr s) (.ref a)) (putR rows s xs) := by
  unfold putK putR
  rw [h.any s]
  split
  · rename_i c
    clear c
    induction h with
    | nil => exact .nil
    | cons h1 _ ih =>
      rename_i t b ys kvs rows _
      rw [List.map_cons, List.map_cons]
      by_cases e : t = s
      · subst e
        rw [if_pos rfl, if_pos rfl]
        exact .cons ha ih
      · have e2 : ¬ (Sum.inr t : Key) = .inr s := fun z => e (Sum.inr.inj z)
        rw [if_neg e2, if_neg e]
        exact .cons h1 ih
  · rename_i c
    clear c
    induction h with
    | nil => exact .cons ha .nil
    | cons h1 _ ih => exact .cons h1 ih
theorem RowsOk.put {rows : List (Str × List V)} (h : RowsOk K G rows) {s : Str} {xs : List V} (hs : s.length ≤ 1000) (hx : xs.length ≤ 60) (ox : ∀ v ∈ xs, ∃ d, Odd K G v d) (os : ∃ d, Odd K G (.str s) d) (ot : PyData.strOk s = true) : RowsOk K G (putR rows s xs) := by
  have mem : ∀ r ∈ putR rows s xs, r ∈ rows ∨ r = (s, xs) := fun r hr => by
    unfold putR at hr
    split at hr
    · obtain ⟨q, h1, h2⟩ := List.mem_map.mp hr
      by_cases e : q.1 = s
      · rw [if_pos e] at h2
        exact .inr (by rw [← h2, e])
      · rw [if_neg e] at h2
        exact .inl (by rw [← h2]; exact h1)
    · rcases List.mem_append.mp hr with h1 | h1
      · exact .inl h1
      · exact .inr (List.mem_singleton.mp h1)
  refine ⟨fun r hr => ?_, fun r hr v hv => ?_, fun r hr => ?_, fun r hr => ?_⟩
  · rcases mem r hr with h1 | rfl
    · exact h.len r h1
    · exact ⟨hs, hx⟩
  · rcases mem r hr with h1 | rfl
    · exact h.odd r h1 v hv
    · exact ox v hv
  · rcases mem r hr with h1 | rfl
    · exact h.key r h1
    · exact os
  · rcases mem r hr with h1 | rfl
    · exact h.txt r h1
    · exact ot
theorem putR_len (rows : List (Str × List V)) (s : Str) (xs : List V) : (putR rows s xs).length ≤ rows.length + 1 := by
  unfold putR
  split
  · rw [List.length_map]; omega
  · rw [List.length_append]; exact Nat.le_refl _
theorem odd_name {z : Str} (h : nmOk z = true) : Odd K G (.str z) (.str z) := by
  have a := sh_str (z := z) (i := 0) ⟨h, by decide, by decide⟩
  have b := nmOk_len h
  exact odd_str (by omega) (by omega)
theorem odd_pos {i : Int} (h0 : 0 ≤ i) (h1 : i < 10 ^ 60) : Odd K G (.int i) (.int i) := by
  have l : i.natAbs.log2 < 1920 := by
    by_cases z : i.natAbs = 0
    · rw [z]; decide
    · refine (Nat.log2_lt z).mpr (Nat.lt_of_le_of_lt (m := 10 ^ 60) (by omega) ?_)
      exact Nat.lt_of_lt_of_le (m := 2 ^ 200) (by decide) (Nat.pow_le_pow_right (by decide) (by decide))
  refine odd_int ?_ (by simp [PyData.showable, l])
  have e : (PyData.int i).shown = Str.ofString (toString i) := by simp [PyData.shown]
  rw [e]
  exact Nat.le_trans (toString_length_le (k := 60) h0 (by decide) h1) (by decide)
end
/-! ### what a law draws of lives -/
structure HandAt (K : PySem.W.Frag) (G : Hp) (d : Addr) (rows : List (Str × List V)) : Prop where
  ex : ∃ od kvs, G d = some (.frz od (.dK kvs)) ∧ BegAt K G kvs rows ∧ (kvs.map (·.1)).Nodup
  ok : RowsOk K G rows
  len : rows.length ≤ 12
theorem HandAt.same {K : PySem.W.Frag} {G G' : Hp} {d : Addr} {rows : List (Str × List V)} (h : HandAt K G d rows) (s : Same G G') : HandAt K G' d rows := by
  obtain ⟨od, kvs, h1, h2, h3⟩ := h.ex
  exact ⟨⟨od, kvs, s _ _ h1, h2.same s, h3⟩, h.ok.same s, h.len⟩
def spOddT (K : PySem.W.Frag) : Sp := fun vs H Q _ => ∃ (G : Hp) (p c : Addr) (n : Nat), vs = [.ref p] ∧ Gh G H ∧ G p = none ∧ Cells c G ∧ PenAt p c n H ∧ n ≤ 1048000 ∧ RetP p c (n + 1) G H (fun v G' => momV v 0 = false ∧ momV v 1 = false ∧ ∃ d, Odd K G' v d) Q
theorem u_oddT {K : PySem.W.Frag} {e : En} {G H : Hp} {M : List Addr} {p c : Addr} {n : Nat} {Q : VK} {E : XK} (w : Wd e G H M) (hm : p ∈ M) (hc : Cells c G) (P : PenAt p c n H) (hn : n ≤ 1048000)
    (k : ∀ (v : V) (d : PyData) (G' H' : Hp), Wd e G' H' M → Same G G' → But p H H' → PenAt p c (n + 1) H' → momV v 0 = false → momV v 1 = false → Odd K G' v d → Q v H') : spOddT K [.ref p] H Q E :=
  ⟨G, p, c, n, rfl, w.gh, (w.mu p hm).1, hc, P, hn, retP_use w hm fun v G' H' w' s b P' ⟨e1, e2, d, e3⟩ => k v d G' H' w' s b P' e1 e2 e3⟩
def spOddS (K : PySem.W.Frag) : Sp := fun vs H Q _ => ∃ (G : Hp) (p c : Addr) (n : Nat), vs = [.ref p] ∧ Gh G H ∧ G p = none ∧ Cells c G ∧ PenAt p c n H ∧ n ≤ 1048000 ∧ RetP p c (n + 2) G H (fun v G' => ∃ s d, v = .str s ∧ nmOk s = false ∧ s.length ≤ 1000 ∧ PyData.strOk s = true ∧ Odd K G' (.str s) d) Q
theorem u_oddS {K : PySem.W.Frag} {e : En} {G H : Hp} {M : List Addr} {p c : Addr} {n : Nat} {Q : VK} {E : XK} (w : Wd e G H M) (hm : p ∈ M) (hc : Cells c G) (P : PenAt p c n H) (hn : n ≤ 1048000)
    (k : ∀ (s : Str) (d : PyData) (G' H' : Hp), Wd e G' H' M → Same G G' → But p H H' → PenAt p c (n + 2) H' → nmOk s = false → s.length ≤ 1000 → PyData.strOk s = true → Odd K G' (.str s) d → Q (.str s) H') : spOddS K [.ref p] H Q E :=
  ⟨G, p, c, n, rfl, w.gh, (w.mu p hm).1, hc, P, hn, retP_use w hm fun v G' H' w' s b P' ⟨z, d, e1, e2, e3, e4, e5⟩ => by subst e1; exact k z d G' H' w' s b P' e2 e3 e4 e5⟩
def spNameL : Sp := fun vs H Q _ => ∃ (G : Hp) (s : Str), vs = [.str s] ∧ Gh G H ∧ s.length ≤ 1000000 ∧ PyData.strOk s = true ∧ Ret G H (fun v _ => v = .bl (nmOk s)) Q
theorem u_nameL {e : En} {G H : Hp} {M : List Addr} {s : Str} {Q : VK} {E : XK} (w : Wd e G H M) (h : s.length ≤ 1000000) (ht : PyData.strOk s = true) (k : ∀ G' H', Wd e G' H' M → Same G G' → Same H H' → Q (.bl (nmOk s)) H') : spNameL [.str s] H Q E :=
  ⟨G, s, rfl, w.gh, h, ht, ret_use w fun v G' H' w' s1 s2 e1 => by subst e1; exact k G' H' w' s1 s2⟩
def spStart (K : PySem.W.Frag) : Sp := fun vs H Q _ => ∃ (G : Hp) (x : V) (t : Value), vs = [x] ∧ Gh G H ∧ Kd K G x t ∧ Ret G H (fun v _ => v = .bl (momV x 1)) Q
theorem u_start {K : PySem.W.Frag} {e : En} {G H : Hp} {M : List Addr} {x : V} {t : Value} {Q : VK} {E : XK} (w : Wd e G H M) (h : Kd K G x t) (k : ∀ G' H', Wd e G' H' M → Same G G' → Same H H' → Q (.bl (momV x 1)) H') : spStart K [x] H Q E :=
  ⟨G, x, t, rfl, w.gh, h, ret_use w fun v G' H' w' s1 s2 e1 => by subst e1; exact k G' H' w' s1 s2⟩
def DueV (G : Hp) (v : V) (o : Option (Addr × Str × V)) : Prop := (o = none ∧ v = .non) ∨ ∃ cls f u l, o = some (cls, f, u) ∧ v = .ref l ∧ G l = some (.tup [.str f, u])
def spDue (K : PySem.W.Frag) (Cn Cm : Addr) : Sp := fun vs H Q _ => ∃ (G : Hp) (d : Addr) (rows : List (Str × List V)), vs = [.ref d] ∧ Gh G H ∧ HandAt K G d rows ∧ Ret G H (fun v G' => ∃ ts : List Str, ts.Perm (rows.map (·.1)) ∧ ts.Pairwise leS ∧ DueV G' v (faultL Cn Cm rows ts)) Q
theorem u_due {K : PySem.W.Frag} {Cn Cm d : Addr} {rows : List (Str × List V)} {e : En} {G H : Hp} {M : List Addr} {Q : VK} {E : XK} (w : Wd e G H M) (h : HandAt K G d rows)
    (k : ∀ v ts G' H', Wd e G' H' M → Same G G' → Same H H' → ts.Perm (rows.map (·.1)) → ts.Pairwise leS → DueV G' v (faultL Cn Cm rows ts) → Q v H') : spDue K Cn Cm [.ref d] H Q E :=
  ⟨G, d, rows, rfl, w.gh, h, ret_use w fun v G' H' w' s1 s2 ⟨ts, e1, e2, e3⟩ => k v ts G' H' w' s1 s2 e1 e2 e3⟩
def spHanded (K : PySem.W.Frag) : Sp := fun vs H Q _ => ∃ (G : Hp) (p c : Addr) (n : Nat), vs = [.ref p] ∧ Gh G H ∧ G p = none ∧ Cells c G ∧ PenAt p c n H ∧ n ≤ 1040000 ∧ RetP p c (n + 200) G H (fun v G' => ∃ d rows, v = .ref d ∧ HandAt K G' d rows) Q
theorem u_handed {K : PySem.W.Frag} {e : En} {G H : Hp} {M : List Addr} {p c : Addr} {n : Nat} {Q : VK} {E : XK} (w : Wd e G H M) (hm : p ∈ M) (hc : Cells c G) (P : PenAt p c n H) (hn : n ≤ 1040000)
    (k : ∀ (d : Addr) (rows : List (Str × List V)) (G' H' : Hp), Wd e G' H' M → Same G G' → But p H H' → PenAt p c (n + 200) H' → HandAt K G' d rows → Q (.ref d) H') : spHanded K [.ref p] H Q E :=
  ⟨G, p, c, n, rfl, w.gh, (w.mu p hm).1, hc, P, hn, retP_use w hm fun v G' H' w' s b P' ⟨d, rows, e1, e2⟩ => by subst e1; exact k d rows G' H' w' s b P' e2⟩
def rNotInSign : R2 := fun x y H Q => ∃ (c : Nat) (z : Str), x = .str ⟨#[c]⟩ ∧ y = .str z ∧ Q (.bl (!decide (c ∈ z.cps.toList))) H
theorem q_notInSign {X : Cx} : OpR X (compareOp .NotIn) rNotInSign := op_notIn_sign
theorem r_notInSign {c : Nat} {z : Str} {H : Hp} {Qv : VK} (q : Qv (.bl (!decide (c ∈ z.cps.toList))) H) : rNotInSign (.str ⟨#[c]⟩) (.str z) H Qv := ⟨c, z, rfl, rfl, q⟩
theorem strOk_sign {z : Str} (h : PyData.strOk z = true) : ∀ c ∈ z.cps.toList, PyData.strOk ⟨#[c]⟩ = true := fun c hc => by
  unfold PyData.strOk at h ⊢
  rw [Array.all_eq_true_iff_forall_mem] at h ⊢
  intro x hx
  have e : x = c := by simpa using hx
  rw [e]
  exact h c (Array.mem_toList_iff.mp hc)
theorem shaped_strs {l : List Str} (h : ∀ z ∈ l, PyData.strOk z = true) : SeqAt.shaped (.list (l.map PyData.str)) = true := by
  have a : ∀ l : List Str, (∀ z ∈ l, PyData.strOk z = true) → PyData.canLayAll0 (l.map PyData.str) = true ∧ PyData.depthAll (l.map PyData.str) = 0 := by
    intro l
    induction l with
    | nil => exact fun _ => ⟨by simp [PyData.canLayAll0], by simp [PyData.depthAll]⟩
    | cons z l ih =>
      intro h
      obtain ⟨i1, i2⟩ := ih fun y hy => h y (List.mem_cons_of_mem _ hy)
      have hz := h z List.mem_cons_self
      exact ⟨by simp [PyData.canLayAll0, PyData.canLay0, hz, i1], by simp [PyData.depthAll, PyData.depth, i2]⟩
  obtain ⟨a1, a2⟩ := a l h
  simp [SeqAt.shaped, PyData.canLay0, PyData.depth, a1, a2]
theorem both_sign {c : Nat} : decide (c ∈ (zLetters ++ Str.ofString "0123456789").cps.toList) = (letB c || figB c) := by
  have e : (zLetters ++ Str.ofString "0123456789") = zLetters ++ zFigures := by decide
  rw [e, app_list]
  unfold letB figB
  by_cases h1 : c ∈ zLetters.cps.toList <;> by_cases h2 : c ∈ zFigures.cps.toList <;> simp [h1, h2]
theorem filt_yes {α : Type} {p : α → Bool} {l : List α} {i : Nat} {x : α} (h : l[i]? = some x) (hp : p x = true) : (l.take (i + 1)).filter p = (l.take i).filter p ++ [x] := by
  rw [take_snoc h, List.filter_append, List.filter_cons_of_pos hp, List.filter_nil]
theorem filt_no {α : Type} {p : α → Bool} {l : List α} {i : Nat} {x : α} (h : l[i]? = some x) (hp : ¬ p x = true) : (l.take (i + 1)).filter p = (l.take i).filter p := by
  rw [take_snoc h, List.filter_append, List.filter_cons_of_neg hp, List.filter_nil, List.append_nil]
/-! ### a list that is made by + and then changed -/
def rCatM : R2 := fun x y H Q => ∃ a b xs zs, x = .ref a ∧ y = .ref b ∧ H a = some (.lst xs) ∧ H b = some (.lst zs) ∧ LayM (xs.length + zs.length) (.lst (xs ++ zs)) Q H
theorem q_catM {X : Cx} : OpR X (binaryOp .Add) rCatM := op_cat
theorem r_catM {a b : Addr} {xs zs : List V} {H : Hp} {Qv : VK} (h1 : H a = some (.lst xs)) (h2 : H b = some (.lst zs)) (q : LayM (xs.length + zs.length) (.lst (xs ++ zs)) Qv H) : rCatM (.ref a) (.ref b) H Qv := ⟨a, b, xs, zs, rfl, rfl, h1, h2, q⟩
def rTupOf (K : PySem.W.Frag) : List V → Hp → VK → Prop := fun xs H Q => ∃ p ys, xs = [.ref p] ∧ ((SqL K H p ys ∧ ∀ l, H l = none → Q (.ref l) (upd H l (.tup ys))) ∨ (SqT K H p ys ∧ Q (.ref p) H))
theorem q_tupOf {X : Cx} : CallR X (.type "tuple") (rTupOf X.K) := call_tuple_of
theorem r_tupOf {K : PySem.W.Frag} {p : Addr} {ys : List V} {H : Hp} {Qv : VK} (h : SqL K H p ys) (q : Lay 0 (.tup ys) Qv H) : rTupOf K [.ref p] H Qv := ⟨p, ys, rfl, .inl ⟨h, q.2⟩⟩
def rInsert : V → List V → Hp → VK → Prop := fun x vs H Q => ∃ (l : Addr) (xs : List V) (i : Int) (y : V), x = .ref l ∧ vs = [.int i, y] ∧ H l = some (.lst xs) ∧ xs.length < sizeLine ∧ 0 ≤ i ∧ i < 2 ^ 63 ∧ Q .non (upd H l (.lst (xs.take i.toNat ++ [y] ++ xs.drop i.toNat)))
theorem mt_ins {X : Cx} : MtR X "list.insert" rInsert := mt_insert
theorem r_insM {e : En} {G H : Hp} {M : List Addr} {l : Addr} {xs : List V} {i : Int} {y : V} {Qv : VK} (w : Wd e G H M) (hm : l ∈ M) (h : H l = some (.lst xs)) (hl : xs.length ≤ 1000) (h0 : 0 ≤ i) (h1 : i ≤ 1000)
    (q : ∀ H', Wd e G H' M → H' l = some (.lst (xs.take i.toNat ++ [y] ++ xs.drop i.toNat)) → But l H H' → Qv .non H') : rInsert (.ref l) [.int i, y] H Qv :=
  ⟨l, xs, i, y, rfl, rfl, h, Nat.lt_of_le_of_lt hl (by decide), h0, by omega, q _ (wd_mut w hm) upd_same but_upd⟩
theorem cutV_mem {xs : List V} {lo hi : Option Int} {v : V} (h : v ∈ cutV xs lo hi) : v ∈ xs := by
  unfold cutV at h
  exact List.mem_of_mem_drop (List.mem_of_mem_take h)
theorem cutV_len (xs : List V) (lo hi : Option Int) : (cutV xs lo hi).length ≤ xs.length := by
  unfold cutV
  rw [List.length_take, List.length_drop]
  omega
end Q
namespace Q
open PySem PySem.Spec PyProof.Rows L2
/-! ### a list against the empty one -/
def rNil (K : PySem.W.Frag) (neg : Bool) : R2 := fun x y H Q => ∃ a b xs, x = .ref a ∧ y = .ref b ∧ SqL K H a xs ∧ SqL K H b [] ∧ Q (.bl (if neg = true then !xs.isEmpty else xs.isEmpty)) H
theorem q_neNil {X : Cx} (hu : X.A.units + 64 < cLine) : OpR X (compareOp .NotEq) (rNil X.K true) := by
  intro pins s σ H x y v u Q I rx ry h
  obtain ⟨a, b, xs, rfl, rfl, h1, h2, q⟩ := h
  cases xs with
  | nil => exact op_neD hu pins s σ H _ _ v u Q I rx ry ⟨.list [], .list [], .lst h1 .nil, .lst h2 .nil, shaped_nil, shaped_nil, q⟩
  | cons x xs =>
    cases (show v = Value.ref a from rx)
    cases (show u = Value.ref b from ry)
    obtain ⟨i1, r1, l1, _⟩ := I.list h1
    obtain ⟨i2, r2, l2, _⟩ := I.list h2
    cases r2
    cases r1
    exact SeqAt.RcNeAt.lists_lengths l1.isList l2.isList (by simp) (by omega) X.prog X.w X.xe _ ⟨.bl true, H, I, rfl, q⟩
theorem q_eqNil {X : Cx} (hu : X.A.units + 64 < cLine) : OpR X (compareOp .Eq) (rNil X.K false) := by
  intro pins s σ H x y v u Q I rx ry h
  obtain ⟨a, b, xs, rfl, rfl, h1, h2, q⟩ := h
  cases xs with
  | nil => exact op_eqD hu pins s σ H _ _ v u Q I rx ry ⟨.list [], .list [], .lst h1 .nil, .lst h2 .nil, shaped_nil, shaped_nil, q⟩
  | cons x xs =>
    cases (show v = Value.ref a from rx)
    cases (show u = Value.ref b from ry)
    obtain ⟨i1, r1, l1, _⟩ := I.list h1
    obtain ⟨i2, r2, l2, _⟩ := I.list h2
    cases r2
    cases r1
    exact SeqAt.RcAt.lists_lengths l1.isList l2.isList (by simp) (by omega) X.prog X.w X.xe _ ⟨.bl false, H, I, rfl, q⟩
theorem r_nil0 {K : PySem.W.Frag} {neg : Bool} {a b : Addr} {xs : List V} {H : Hp} {Qv : VK} (h1 : SqL K H a xs) (h2 : SqL K H b []) (q : Qv (.bl (if neg = true then !xs.isEmpty else xs.isEmpty)) H) : rNil K neg (.ref a) (.ref b) H Qv := ⟨a, b, xs, rfl, rfl, h1, h2, q⟩
end Q
namespace Q
open PySem PySem.Spec PyProof.Rows L2
theorem faultL_kd {Cn Cm : Addr} {rows : List (Str × List V)} : ∀ {ts : List Str} {cls : Addr} {f : Str} {v : V}, faultL Cn Cm rows ts = some (cls, f, v) → (cls = Cn ∧ f = ("name" : Str) ∧ ∃ t ∈ ts, v = .str t) ∨ (cls = Cm ∧ f = ("moment" : Str) ∧ ∃ t xs, rowOf rows t = some xs ∧ v ∈ xs)
  | [], _, _, _, h => by cases h
  | u :: ts, cls, f, v, h => by
    unfold faultL at h
    split at h
    · split at h
      · rename_i e
        cases h
        cases hx : rowOf rows u with
        | none => rw [hx] at e; cases e
        | some xs =>
          rw [hx] at e
          exact .inr ⟨rfl, rfl, u, xs, hx, List.mem_of_find?_eq_some e⟩
      · rcases faultL_kd h with ⟨a, b, t, ht, e⟩ | r
        · exact .inl ⟨a, b, t, List.mem_cons_of_mem _ ht, e⟩
        · exact .inr r
    · cases h
      exact .inl ⟨rfl, rfl, u, List.mem_cons_self, rfl⟩
end Q
namespace Q
open PySem PySem.Spec PyProof.Rows L2
section
variable {K : PySem.W.Frag} {a b : Addr} {x : V} {xs : List V} {H : Hp} {Qv : VK}
theorem r_neNilT (h1 : SqL K H a (x :: xs)) (h2 : SqL K H b []) (q : Qv (.bl true) H) : rNil K true (.ref a) (.ref b) H Qv := ⟨a, b, _, rfl, rfl, h1, h2, q⟩
theorem r_neNilF (h1 : SqL K H a []) (h2 : SqL K H b []) (q : Qv (.bl false) H) : rNil K true (.ref a) (.ref b) H Qv := ⟨a, b, _, rfl, rfl, h1, h2, q⟩
theorem r_eqNilT (h1 : SqL K H a []) (h2 : SqL K H b []) (q : Qv (.bl true) H) : rNil K false (.ref a) (.ref b) H Qv := ⟨a, b, _, rfl, rfl, h1, h2, q⟩
theorem r_eqNilF (h1 : SqL K H a (x :: xs)) (h2 : SqL K H b []) (q : Qv (.bl false) H) : rNil K false (.ref a) (.ref b) H Qv := ⟨a, b, _, rfl, rfl, h1, h2, q⟩
end
end Q
namespace Q
open PySem PySem.Spec PyProof.Rows L2
theorem wd_dq' {e : En} {G G' H : Hp} {M : List Addr} {K : PySem.W.Frag} {xs : List V} {ds : List PyData} (w : Wd e G' H M) (h : DqAll K G xs ds) (s : Same G G') : DqAll K H xs ds := (same_dqAll (s.trans w.le) (sizeOf ds)).2 ds xs (Nat.le_refl _) h
end Q
namespace Q
open PySem PySem.Spec PyProof.Rows L2
/-! ### x in o, x not in o, len(o), truth of o by own defs -/
section
variable {X : Cx} {CX : CXT} {k j : Nat} {C f : Addr} {fd : FuncData} {ps : List Str} {sp : Sp} {E : XK}
def rHas (C : Addr) (sp : Sp) (E : XK) (neg : Bool) : R2 := fun x y H Q => ∃ a dx fs, y = .ref a ∧ H a = some (.ins C dx fs) ∧ sp [y, x] H (fun v H' => ∃ b, v = .bl b ∧ Q (.bl (if neg = true then !b else b)) H') E
theorem has_run (D : SpD X.prog X.w X.K X.mg X.base CX k C "__contains__" sp) (hr : Room j X.A) (hx : Passes CX X E) (hj : k ≤ j) {pins : List (Addr × Obj)} {σ : L2.St} {H : Hp} {s : Shared} {a dx : Addr} {fs : List (Str × V)} {x : V} {v : Value} {R : Bool → Shared → Prop}
    (I : Inv X pins σ H s) (rx : RelV x v) (ea : H a = some (.ins C dx fs)) {Qv : VK} (h : sp [.ref a, x] H Qv E) (hq : ∀ b H' s', Inv X pins σ H' s' → Qv (.bl b) H' → R b s') (hb : ∀ v H', Qv v H' → ∃ b, v = .bl b) : wpAny (model X.prog X.w) X.A (contains (.ref a) v) R X.xe s := by
  obtain ⟨f, fd, ps, hs, hf, hbd, F⟩ := D.ex
  obtain ⟨mA, O, _, _, _, _⟩ := ins_get I.hok ea
  obtain ⟨od, J, _⟩ := O.look
  have XX := I.kIn
  unfold contains
  refine wpAny_holding ?_
  have e0 : stdlibNamesSay? (.ref a) v = none := by cases v <;> rfl
  simp only [e0]
  unfold callSpecialUnlessNone? specialOf
  refine wpAny_bind (wpAny_bind (J.type.here ((PySem.W.looks_findIn XX hs).here ?_)))
  rw [if_neg (show ¬ ((some (Value.ref f) == some Value.none) = true) from fun z => nomatch (show false = true from z))]
  refine wpAny_bind (wpAny_bind (wpAny_bind (J.type.here ((PySem.W.looks_findIn XX hs).here (wpAny_holding (wpAny_bind ((PySem.W.bind_fn XX _ (beq_iff_eq.mp hf)).here ?_)))))))
  show wpAny _ _ (if (Value.ref f == Value.none) = true then _ else _) _ _ _
  rw [if_neg (show ¬ ((Value.ref f == Value.none) = true) from fun z => nomatch (show false = true from z))]
  refine wpAny_bind (wpAny_mono (run_under (us := [.ref a, v]) (vs := [.ref a, x]) F (hr.mono hj) I.env0 hbd hx I (.cons rfl (.cons rx .nil)) h) (fun u s' z => wpAny_pure ?_) fun _ _ z => z)
  obtain ⟨z', H', I', rz, qz⟩ := z
  obtain ⟨b, rfl⟩ := hb _ _ qz
  cases (show u = Value.bool b from rz)
  exact wpAny_pure (hq b H' s' I' qz)
theorem q_inD (D : SpD X.prog X.w X.K X.mg X.base CX k C "__contains__" sp) (hr : Room j X.A) (hx : Passes CX X E) (hj : k ≤ j := by decide) : OpR X (compareOp .In) (rHas C sp E false) := by
  intro pins s σ H x y v u Q I rx ry h
  obtain ⟨a, dx, fs, rfl, ea, q⟩ := h
  cases (show u = Value.ref a from ry)
  exact wpAny_bind (has_run D hr hx hj I rx ea q (fun b H' s' I' ⟨b', e, q'⟩ => by cases e; exact wpAny_pure ⟨.bl b, H', I', rfl, q'⟩) fun v H' ⟨b, e, _⟩ => ⟨b, e⟩)
theorem q_ninD (D : SpD X.prog X.w X.K X.mg X.base CX k C "__contains__" sp) (hr : Room j X.A) (hx : Passes CX X E) (hj : k ≤ j := by decide) : OpR X (compareOp .NotIn) (rHas C sp E true) := by
  intro pins s σ H x y v u Q I rx ry h
  obtain ⟨a, dx, fs, rfl, ea, q⟩ := h
  cases (show u = Value.ref a from ry)
  exact wpAny_bind (has_run D hr hx hj I rx ea q (fun b H' s' I' ⟨b', e, q'⟩ => by cases e; exact wpAny_pure ⟨.bl !b, H', I', rfl, q'⟩) fun v H' ⟨b, e, _⟩ => ⟨b, e⟩)
theorem r_hasF {H : Hp} {x : V} {a dx : Addr} {fs : List (Str × V)} {Qv : VK} (h : H a = some (.ins C dx fs)) (q : sp [.ref a, x] H (fun v H' => ∃ b, v = .bl b ∧ Qv (.bl b) H') E) : rHas C sp E false x (.ref a) H Qv := ⟨a, dx, fs, rfl, h, q⟩
theorem r_hasT {H : Hp} {x : V} {a dx : Addr} {fs : List (Str × V)} {Qv : VK} (h : H a = some (.ins C dx fs)) (q : sp [.ref a, x] H (fun v H' => ∃ b, v = .bl b ∧ Qv (.bl !b) H') E) : rHas C sp E true x (.ref a) H Qv := ⟨a, dx, fs, rfl, h, q⟩
end
end Q
namespace Q
open PySem PySem.Spec PyProof.Rows L2
section
variable {X : Cx}
def rDIn (neg : Bool) : R2 := fun y x H Q => ∃ a o, x = .ref a ∧ DGet H a y o ∧ Q (.bl (if neg = true then !o.isSome else o.isSome)) H
theorem q_dIn (hu : X.A.units + 1 < cLine) : OpR X (compareOp .In) (rDIn false) := by
  intro pins s σ H x y v u Q I rx ry h
  obtain ⟨a, o, rfl, g, q⟩ := h
  cases (show u = Value.ref a from ry)
  exact d_in hu I g rx fun s3 I3 => ⟨.bl o.isSome, H, I3, rfl, q⟩
theorem q_dNotIn (hu : X.A.units + 1 < cLine) : OpR X (compareOp .NotIn) (rDIn true) := by
  intro pins s σ H x y v u Q I rx ry h
  obtain ⟨a, o, rfl, g, q⟩ := h
  cases (show u = Value.ref a from ry)
  exact d_notIn hu I g rx fun s3 I3 => ⟨.bl !o.isSome, H, I3, rfl, q⟩
theorem r_dInT {H : Hp} {a : Addr} {y v : V} {Qv : VK} (g : DGet H a y (some v)) (q : Qv (.bl true) H) : rDIn false y (.ref a) H Qv := ⟨a, _, rfl, g, q⟩
theorem r_dInF {H : Hp} {a : Addr} {y : V} {Qv : VK} (g : DGet H a y none) (q : Qv (.bl false) H) : rDIn false y (.ref a) H Qv := ⟨a, _, rfl, g, q⟩
theorem r_dNinF {H : Hp} {a : Addr} {y v : V} {Qv : VK} (g : DGet H a y (some v)) (q : Qv (.bl false) H) : rDIn true y (.ref a) H Qv := ⟨a, _, rfl, g, q⟩
theorem r_dNinT {H : Hp} {a : Addr} {y : V} {Qv : VK} (g : DGet H a y none) (q : Qv (.bl true) H) : rDIn true y (.ref a) H Qv := ⟨a, _, rfl, g, q⟩
end
/-! ### what lives tell -/
def nsOf (bt : List (Str × List Int)) (s : Str) : Option (List Int) := (bt.find? fun p => decide (p.1 = s)).map (·.2)
def toolOf (bt : List (Str × List Int)) : V → Option (List Int)
  | .str s => nsOf bt s
  | _ => none
def isLife (bt : List (Str × List Int)) : Option (List V) → Bool
  | some [.str s, .int i] => (match nsOf bt s with
    | some ns => decide (i ∈ ns)
    | none => false)
  | _ => false
theorem LvAt.val {G : Hp} {kvs : List (Key × V)} {bt : List (Str × List Int)} (h : LvAt G kvs bt) (s : Str) : (nsOf bt s = none ∧ valV kvs (.inr s) = none) ∨ ∃ ra ns, nsOf bt s = some ns ∧ valV kvs (.inr s) = some (.ref ra) ∧ G ra = some (.tup (ns.map V.int)) := by
  induction h with
  | nil => exact .inl ⟨rfl, rfl⟩
  | cons h1 _ ih =>
    rename_i t a ns kvs bt _
    by_cases e : t = s
    · refine .inr ⟨a, ns, ?_, ?_, h1⟩
      · simp [nsOf, List.find?_cons, e]
      · rw [valV_pos (by rw [e])]
    · have e2 : ¬ (Sum.inr t : Key) = .inr s := fun z => e (Sum.inr.inj z)
      have a1 : nsOf ((t, ns) :: bt) s = nsOf bt s := by simp [nsOf, List.find?_cons, e]
      rw [a1, valV_neg (p := ((Sum.inr t : Key), V.ref a)) e2]
      exact ih
theorem nsOf_mem {bt : List (Str × List Int)} {s : Str} {ns : List Int} (h : nsOf bt s = some ns) : (s, ns) ∈ bt := by
  unfold nsOf at h
  obtain ⟨p, hp, rfl⟩ := Option.map_eq_some_iff.mp h
  have e := List.find?_some hp
  have e := of_decide_eq_true e
  subst e
  exact List.mem_of_find?_eq_some hp
/-- a tuple, with what lies in it, or none -/
def TuV (K : PySem.W.Frag) (G : Hp) (v : V) : Option (List V) → Prop
  | none => ∃ t, TyX K G v t ∧ PySem.W.kitOne K t (.type "tuple") = some false
  | some ys => ∃ p, v = .ref p ∧ G p = some (.tup ys) ∧ ∀ y ∈ ys, ∃ t, Kd K G y t
def lastUp (ns : List Int) (i : Int) : Int := (ns.filter fun b => decide (b ≤ i)).getLast?.getD 0
def nextOf (ns : List Int) (b : Int) : Int := match ns.filter (fun k => decide (b < k)) with
  | [] => 1000000000000000000000000000000
  | k :: _ => k - 1
section
variable {K : PySem.W.Frag} {C Ct Cl Cm a : Addr} {e : En} {G H : Hp} {M : List Addr} {bt : List (Str × List Int)} {x y : V} {t u : Value} {Q : VK} {E : XK}
def spBegin (K : PySem.W.Frag) (C Ct : Addr) : Sp := fun vs H Q E => ∃ (G : Hp) (a : Addr) (bt : List (Str × List Int)) (x : V) (t : Value), vs = [.ref a, x] ∧ Gh G H ∧ LivesAt C G a bt ∧ Kd K G x t ∧
  (∀ ns, toolOf bt x = some ns → Ret G H (fun v G' => ∃ p, v = .ref p ∧ G' p = some (.tup (ns.map V.int))) Q) ∧ (toolOf bt x = none → RetX G H Ct "tool" x E)
theorem u_begin (w : Wd e G H M) (h : LivesAt C G a bt) (hx : Kd K G x t) (good : ∀ ns p G' H', toolOf bt x = some ns → Wd e G' H' M → Same G G' → Same H H' → G' p = some (.tup (ns.map V.int)) → Q (.ref p) H')
    (bad : toolOf bt x = none → ∀ d G' H', Wd e G' H' M → Same G G' → Same H H' → G' d = some (.xd [("tool", x)]) → E (.ref Ct) (some d) H') : spBegin K C Ct [.ref a, x] H Q E :=
  ⟨G, a, bt, x, t, rfl, w.gh, h, hx, fun ns hn => ret_use w fun v G' H' w' s1 s2 ⟨p, e1, h1⟩ => by subst e1; exact good ns p G' H' hn w' s1 s2 h1, fun n => retX_use w (bad n)⟩
def spHas (K : PySem.W.Frag) (C : Addr) : Sp := fun vs H Q _ => ∃ (G : Hp) (a : Addr) (bt : List (Str × List Int)) (x : V) (q : Option (List V)), vs = [.ref a, x] ∧ Gh G H ∧ LivesAt C G a bt ∧ TuV K G x q ∧ Ret G H (fun v _ => v = .bl (isLife bt q)) Q
theorem u_has {q : Option (List V)} (w : Wd e G H M) (h : LivesAt C G a bt) (hx : TuV K G x q) (k : ∀ G' H', Wd e G' H' M → Same G G' → Same H H' → Q (.bl (isLife bt q)) H') : spHas K C [.ref a, x] H Q E :=
  ⟨G, a, bt, x, q, rfl, w.gh, h, hx, ret_use w fun v G' H' w' s1 s2 e1 => by subst e1; exact k G' H' w' s1 s2⟩
def spLifeOf (K : PySem.W.Frag) (C Ct Cm : Addr) : Sp := fun vs H Q E => ∃ (G : Hp) (a : Addr) (bt : List (Str × List Int)) (x y : V) (t u : Value), vs = [.ref a, x, y] ∧ Gh G H ∧ LivesAt C G a bt ∧ Kd K G x t ∧ Kd K G y u ∧ (∀ p ∈ bt, (∃ ms, p.2 = 0 :: ms) ∧ p.2.length ≤ 1000) ∧
  (∀ ns i, toolOf bt x = some ns → y = .int i → momV y 0 = true → Ret G H (fun v G' => ∃ p, v = .ref p ∧ G' p = some (.tup [x, .int (lastUp ns i)])) Q) ∧ (toolOf bt x = none → RetX G H Ct "tool" x E) ∧ (∀ ns, toolOf bt x = some ns → momV y 0 = false → RetX G H Cm "moment" y E)
theorem u_lifeOf (w : Wd e G H M) (h : LivesAt C G a bt) (hx : Kd K G x t) (hy : Kd K G y u) (hb : ∀ p ∈ bt, (∃ ms, p.2 = 0 :: ms) ∧ p.2.length ≤ 1000) (good : ∀ ns i, toolOf bt x = some ns → y = .int i → momV y 0 = true → ∀ p G' H', Wd e G' H' M → Same G G' → Same H H' → G' p = some (.tup [x, .int (lastUp ns i)]) → Q (.ref p) H')
    (bad1 : toolOf bt x = none → ∀ d G' H', Wd e G' H' M → Same G G' → Same H H' → G' d = some (.xd [("tool", x)]) → E (.ref Ct) (some d) H')
    (bad2 : ∀ ns, toolOf bt x = some ns → momV y 0 = false → ∀ d G' H', Wd e G' H' M → Same G G' → Same H H' → G' d = some (.xd [("moment", y)]) → E (.ref Cm) (some d) H') : spLifeOf K C Ct Cm [.ref a, x, y] H Q E :=
  ⟨G, a, bt, x, y, t, u, rfl, w.gh, h, hx, hy, hb, fun ns i hn hi hm => ret_use w fun v G' H' w' s1 s2 ⟨p, e1, h1⟩ => by subst e1; exact good ns i hn hi hm p G' H' w' s1 s2 h1, fun n => retX_use w (bad1 n), fun ns hn hm => retX_use w (bad2 ns hn hm)⟩
def spLastOf (K : PySem.W.Frag) (C Cl : Addr) : Sp := fun vs H Q E => ∃ (G : Hp) (a : Addr) (bt : List (Str × List Int)) (x : V) (q : Option (List V)), vs = [.ref a, x] ∧ Gh G H ∧ LivesAt C G a bt ∧ TuV K G x q ∧ (∀ p ∈ bt, p.2.length ≤ 1000) ∧
  (∀ s i ns, q = some [.str s, .int i] → nsOf bt s = some ns → i ∈ ns → Ret G H (fun v _ => v = .int (nextOf ns i)) Q) ∧ (isLife bt q = false → RetX G H Cl "value" x E)
theorem u_lastOf {q : Option (List V)} (w : Wd e G H M) (h : LivesAt C G a bt) (hx : TuV K G x q) (hb : ∀ p ∈ bt, p.2.length ≤ 1000) (good : ∀ s i ns, q = some [.str s, .int i] → nsOf bt s = some ns → i ∈ ns → ∀ G' H', Wd e G' H' M → Same G G' → Same H H' → Q (.int (nextOf ns i)) H')
    (bad : isLife bt q = false → ∀ d G' H', Wd e G' H' M → Same G G' → Same H H' → G' d = some (.xd [("value", x)]) → E (.ref Cl) (some d) H') : spLastOf K C Cl [.ref a, x] H Q E :=
  ⟨G, a, bt, x, q, rfl, w.gh, h, hx, hb, fun s i ns h1 h2 h3 => ret_use w fun v G' H' w' s1 s2 e1 => by subst e1; exact good s i ns h1 h2 h3 G' H' w' s1 s2, fun n => retX_use w (bad n)⟩
end
end Q
namespace Q
open PySem PySem.Spec PyProof.Rows L2
theorem inV_ints {i : Int} : ∀ {ns : List Int}, inV (.int i) (ns.map V.int) = decide (i ∈ ns)
  | [] => rfl
  | n :: ns => by
    have ih : ((ns.map V.int).any fun y => eqV y (.int i)) = decide (i ∈ ns) := inV_ints (i := i) (ns := ns)
    have e : eqV (.int n) (.int i) = decide (n = i) := rfl
    show (eqV (.int n) (.int i) || (ns.map V.int).any fun y => eqV y (.int i)) = decide (i ∈ n :: ns)
    rw [ih, e]
    by_cases h1 : n = i
    · rw [decide_eq_true h1, Bool.true_or, decide_eq_true (List.mem_cons.mpr (.inl h1.symm))]
    · rw [decide_eq_false h1, Bool.false_or]
      by_cases h2 : i ∈ ns
      · rw [decide_eq_true h2, decide_eq_true (List.mem_cons_of_mem _ h2)]
      · rw [decide_eq_false h2, decide_eq_false fun h => (List.mem_cons.mp h).elim (fun z => h1 z.symm) h2]
theorem flat_ints : ∀ {ns : List Int}, (ns.map V.int).all flatV = true
  | [] => rfl
  | n :: ns => by rw [List.map_cons, List.all_cons, flat_ints]; rfl
end Q
namespace Q
open PySem PySem.Spec PyProof.Rows L2
theorem atI_last {α : Type} {xs : List α} {z : α} (h : xs.getLast? = some z) : atI xs (-1) = some z := by
  have hl : 0 < xs.length := by
    cases xs with
    | nil => cases h
    | cons _ _ => simp
  have e : ixN xs.length (-1) = some (xs.length - 1) := by
    unfold ixN
    rw [if_neg (by decide), if_pos (by omega)]
    congr 1
    omega
  unfold atI
  rw [e]
  show xs[xs.length - 1]? = some z
  rw [← List.getLast?_eq_getElem?]
  exact h
theorem lastUp_ok {ms : List Int} {i : Int} (h : 0 ≤ i) : ((0 :: ms).filter fun b => decide (b ≤ i)).getLast? = some (lastUp (0 :: ms) i) := by
  unfold lastUp
  have e : (0 :: ms).filter (fun b => decide (b ≤ i)) = 0 :: ms.filter fun b => decide (b ≤ i) := List.filter_cons_of_pos (by simpa using h)
  rw [e, List.getLast?_cons]
  rfl
theorem isLife_to {bt : List (Str × List Int)} {q : Option (List V)} (h : isLife bt q = true) : ∃ s i ns, q = some [.str s, .int i] ∧ nsOf bt s = some ns ∧ i ∈ ns := by
  match q, h with
  | some [.str s, .int i], h =>
    have h : (match nsOf bt s with
      | some ns => decide (i ∈ ns)
      | none => false) = true := h
    cases e : nsOf bt s with
    | none => rw [e] at h; cases h
    | some ns => rw [e] at h; exact ⟨s, i, ns, rfl, e, of_decide_eq_true h⟩
theorem r_gTup {K : PySem.W.Frag} {n : Nat} {t : TGs} {a : Addr} {xs : List V} {σ : L2.St} {H : Hp} {Q : L2.St → Hp → Prop} (h : SqT K H a xs) (hl : xs.length = n) (q : t xs σ H Q) : gTup K n t (.ref a) σ H Q := ⟨a, xs, rfl, h, hl, q⟩
theorem r_gCons {t : TG} {u : TGs} {v : V} {r : List V} {σ : L2.St} {H : Hp} {Q : L2.St → Hp → Prop} (q : t v σ H fun σ' H' => u r σ' H' Q) : gCons t u (v :: r) σ H Q := ⟨v, r, rfl, q⟩
end Q
namespace Q
open PySem PySem.Spec PyProof.Rows L2
/-! ### crews and what begins, drawn by a law -/
inductive LsAt (G : Hp) : List (Key × V) → List (Str × List Int) → Prop
  | nil : LsAt G [] []
  | cons {s : Str} {a : Addr} {ns : List Int} {kvs : List (Key × V)} {bt : List (Str × List Int)} (h : G a = some (.lst (ns.map V.int))) (r : LsAt G kvs bt) : LsAt G ((.inr s, .ref a) :: kvs) ((s, ns) :: bt)
section
variable {G G' : Hp} {kvs : List (Key × V)} {bt : List (Str × List Int)}
theorem LsAt.same (h : LsAt G kvs bt) (s : Same G G') : LsAt G' kvs bt := by
  induction h with
  | nil => exact .nil
  | cons h _ ih => exact .cons (s _ _ h) ih
theorem LsAt.snoc (r : LsAt G kvs bt) {s : Str} {a : Addr} {ns : List Int} (h : G a = some (.lst (ns.map V.int))) : LsAt G (kvs ++ [(.inr s, .ref a)]) (bt ++ [(s, ns)]) := by
  induction r with
  | nil => exact .cons h .nil
  | cons h2 _ ih => exact .cons h2 ih
theorem LsAt.len (h : LsAt G kvs bt) : kvs.length = bt.length := by
  induction h with
  | nil => rfl
  | cons _ _ ih => simp [ih]
theorem LsAt.val (h : LsAt G kvs bt) (s : Str) : (nsOf bt s = none ∧ valV kvs (.inr s) = none) ∨ ∃ ra ns, nsOf bt s = some ns ∧ valV kvs (.inr s) = some (.ref ra) ∧ G ra = some (.lst (ns.map V.int)) := by
  induction h with
  | nil => exact .inl ⟨rfl, rfl⟩
  | cons h1 _ ih =>
    rename_i t a ns kvs bt _
    by_cases e : t = s
    · refine .inr ⟨a, ns, ?_, ?_, h1⟩
      · simp [nsOf, List.find?_cons, e]
      · rw [valV_pos (by rw [e])]
    · have e2 : ¬ (Sum.inr t : Key) = .inr s := fun z => e (Sum.inr.inj z)
      have a1 : nsOf ((t, ns) :: bt) s = nsOf bt s := by simp [nsOf, List.find?_cons, e]
      rw [a1, valV_neg (p := ((Sum.inr t : Key), V.ref a)) e2]
      exact ih
end
theorem nsOf_out {bt : List (Str × List Int)} {s : Str} (h : s ∉ bt.map (·.1)) : nsOf bt s = none := by
  unfold nsOf
  rw [List.find?_eq_none.mpr]
  · rfl
  · intro p hp c
    exact h (List.mem_map.mpr ⟨p, hp, of_decide_eq_true c⟩)
theorem nsOf_in {bt : List (Str × List Int)} {s : Str} (h : s ∈ bt.map (·.1)) : ∃ ns, nsOf bt s = some ns := by
  cases e : nsOf bt s with
  | some ns => exact ⟨ns, rfl⟩
  | none =>
    obtain ⟨p, hp, rfl⟩ := List.mem_map.mp h
    unfold nsOf at e
    have := List.find?_eq_none.mp (Option.map_eq_none_iff.mp e) p hp
    simp at this
def CrewOk (ts : List Str) : Prop := ts.Nodup ∧ 1 ≤ ts.length ∧ ts.length ≤ 4 ∧ (∀ t ∈ ts, nmOk t = true) ∧ Str.ofString "zzzzzz9z" ∉ ts
instance {ts : List Str} : Decidable (CrewOk ts) := by unfold CrewOk; infer_instance
def StartsOk (ns : List Int) : Prop := ∃ ms : List Int, ns = 0 :: ms ∧ ms.Pairwise (· < ·) ∧ (∀ k ∈ ms, 1 ≤ k ∧ k ≤ 1000000000000000000000000000000) ∧ ms.length ≤ 6
theorem starts_of {ks ns : List Int} (h1 : ns.Pairwise (· < ·)) (h2 : ∀ k : Int, k ∈ ns ↔ k ∈ (0 : Int) :: ks) (h3 : ∀ k ∈ ks, 1 ≤ k ∧ k ≤ 1000000000000000000000000000000) (hl : ns.length ≤ 7) : StartsOk ns := by
  cases ns with
  | nil => exact absurd ((h2 0).mpr List.mem_cons_self) (by simp)
  | cons n ms =>
    obtain ⟨a, b⟩ := List.pairwise_cons.mp h1
    have e : n = 0 := by
      rcases List.mem_cons.mp ((h2 n).mp List.mem_cons_self) with e | m
      · exact e
      · have := h3 n m
        rcases List.mem_cons.mp ((h2 0).mpr List.mem_cons_self) with e | m2
        · exact e.symm
        · have := a 0 m2
          omega
    subst e
    refine ⟨ms, rfl, b, fun k hk => ?_, by simpa using hl⟩
    rcases List.mem_cons.mp ((h2 k).mp (List.mem_cons_of_mem _ hk)) with e | m
    · have := a k hk
      omega
    · exact h3 k m
structure StAt (G : Hp) (d : Addr) (bt : List (Str × List Int)) : Prop where
  ex : ∃ od kvs, G d = some (.frz od (.dK kvs)) ∧ LsAt G kvs bt
  ok : ∀ q ∈ bt, StartsOk q.2
theorem StAt.same {G G' : Hp} {d : Addr} {bt : List (Str × List Int)} (h : StAt G d bt) (s : Same G G') : StAt G' d bt := by
  obtain ⟨od, kvs, h1, h2⟩ := h.ex
  exact ⟨⟨od, kvs, s _ _ h1, h2.same s⟩, h.ok⟩
section
variable {K : PySem.W.Frag} {e : En} {G H : Hp} {M : List Addr} {p c l : Addr} {n : Nat} {ts : List Str} {ns : List Int} {Q : VK} {E : XK}
def spCrew : Sp := fun vs H Q _ => ∃ (G : Hp) (p c : Addr) (n : Nat), vs = [.ref p] ∧ Gh G H ∧ G p = none ∧ Cells c G ∧ PenAt p c n H ∧ n ≤ 1040000 ∧ RetP p c (n + 2) G H (fun v G' => ∃ l ts, v = .ref l ∧ G' l = some (.lst (ts.map V.str)) ∧ CrewOk ts) Q
theorem u_crew (w : Wd e G H M) (hm : p ∈ M) (hc : Cells c G) (P : PenAt p c n H) (hn : n ≤ 1040000)
    (k : ∀ (l : Addr) (ts : List Str) (G' H' : Hp), Wd e G' H' M → Same G G' → But p H H' → PenAt p c (n + 2) H' → G' l = some (.lst (ts.map V.str)) → CrewOk ts → Q (.ref l) H') : spCrew [.ref p] H Q E :=
  ⟨G, p, c, n, rfl, w.gh, (w.mu p hm).1, hc, P, hn, retP_use w hm fun v G' H' w' s b P' ⟨l, ts, e1, e2, e3⟩ => by subst e1; exact k l ts G' H' w' s b P' e2 e3⟩
def spStarts : Sp := fun vs H Q _ => ∃ (G : Hp) (p c l : Addr) (n : Nat) (ts : List Str), vs = [.ref p, .ref l] ∧ Gh G H ∧ G p = none ∧ Cells c G ∧ PenAt p c n H ∧ n ≤ 1040000 ∧ G l = some (.lst (ts.map V.str)) ∧ CrewOk ts ∧
  RetP p c (n + 100) G H (fun v G' => ∃ d bt, v = .ref d ∧ StAt G' d bt ∧ bt.map (·.1) = ts) Q
theorem u_starts (w : Wd e G H M) (hm : p ∈ M) (hc : Cells c G) (P : PenAt p c n H) (hn : n ≤ 1040000) (hl : G l = some (.lst (ts.map V.str))) (ht : CrewOk ts)
    (k : ∀ (d : Addr) (bt : List (Str × List Int)) (G' H' : Hp), Wd e G' H' M → Same G G' → But p H H' → PenAt p c (n + 100) H' → StAt G' d bt → bt.map (·.1) = ts → Q (.ref d) H') : spStarts [.ref p, .ref l] H Q E :=
  ⟨G, p, c, l, n, ts, rfl, w.gh, (w.mu p hm).1, hc, P, hn, hl, ht, retP_use w hm fun v G' H' w' s b P' ⟨d, bt, e1, e2, e3⟩ => by subst e1; exact k d bt G' H' w' s b P' e2 e3⟩
def lastsOf (ns : List Int) : List Int := (ns.drop 1).map (· - 1) ++ [1000000000000000000000000000000]
def spLasts : Sp := fun vs H Q _ => ∃ (G : Hp) (l : Addr) (ns : List Int), vs = [.ref l] ∧ Gh G H ∧ G l = some (.lst (ns.map V.int)) ∧ ns.length ≤ 1000 ∧ Ret G H (fun v G' => ∃ q, v = .ref q ∧ G' q = some (.lst ((lastsOf ns).map V.int))) Q
theorem u_lasts (w : Wd e G H M) (h : G l = some (.lst (ns.map V.int))) (hl : ns.length ≤ 1000) (k : ∀ q G' H', Wd e G' H' M → Same G G' → Same H H' → G' q = some (.lst ((lastsOf ns).map V.int)) → Q (.ref q) H') : spLasts [.ref l] H Q E :=
  ⟨G, l, ns, rfl, w.gh, h, hl, ret_use w fun v G' H' w' s1 s2 ⟨q, e1, h1⟩ => by subst e1; exact k q G' H' w' s1 s2 h1⟩
def TicksOk (ts : List Int) : Prop := ts.length ≤ 100 ∧ ∀ t ∈ ts, 0 ≤ t ∧ t ≤ 1000000000000000000000000000000
def spTicks : Sp := fun vs H Q _ => ∃ (G : Hp) (p c l : Addr) (n : Nat) (ns : List Int), vs = [.ref p, .ref l] ∧ Gh G H ∧ G p = none ∧ Cells c G ∧ PenAt p c n H ∧ n ≤ 1040000 ∧ G l = some (.lst (ns.map V.int)) ∧ ns.length ≤ 7 ∧
  RetP p c (n + 2) G H (fun v G' => ∃ q ts, v = .ref q ∧ G' q = some (.lst (ts.map V.int)) ∧ TicksOk ts) Q
theorem u_ticks (w : Wd e G H M) (hm : p ∈ M) (hc : Cells c G) (P : PenAt p c n H) (hn : n ≤ 1040000) (hl : G l = some (.lst (ns.map V.int))) (ht : ns.length ≤ 7)
    (k : ∀ (q : Addr) (ts : List Int) (G' H' : Hp), Wd e G' H' M → Same G G' → But p H H' → PenAt p c (n + 2) H' → G' q = some (.lst (ts.map V.int)) → TicksOk ts → Q (.ref q) H') : spTicks [.ref p, .ref l] H Q E :=
  ⟨G, p, c, l, n, ns, rfl, w.gh, (w.mu p hm).1, hc, P, hn, hl, ht, retP_use w hm fun v G' H' w' s b P' ⟨q, ts, e1, e2, e3⟩ => by subst e1; exact k q ts G' H' w' s b P' e2 e3⟩
end
end Q
namespace Q
open PySem PySem.Spec PyProof.Rows L2
theorem cutV_1 (xs : List V) : cutV xs (some 1) none = xs.drop 1 := by
  unfold cutV
  cases xs with
  | nil => rfl
  | cons x xs =>
    have e1 : HT.sIx (x :: xs).length 0 (some 1) = 1 := by simp [HT.sIx]
    have e2 : HT.sIx (x :: xs).length (x :: xs).length none = (x :: xs).length := by simp [HT.sIx]
    rw [e1, e2]
    exact List.take_of_length_le (by simp)
theorem crew_ok {stem : Str} {d : Int} (h : stem ∈ ([Str.ofString "", Str.ofString "g", Str.ofString "gauge0"] : List Str)) (h0 : 0 ≤ d) (h1 : d < 4) :
    CrewOk ((cutS (Str.ofString "zabc") none (some (1 + d))).cps.toList.map fun c => stem ++ (⟨#[c]⟩ : Str)) ∧ (cutS (Str.ofString "zabc") none (some (1 + d))).cps.toList.length ≤ 4 ∧ stem.length ≤ 6 := by
  simp only [List.mem_cons, List.not_mem_nil, or_false] at h
  obtain rfl | rfl | rfl | rfl : d = 0 ∨ d = 1 ∨ d = 2 ∨ d = 3 := by omega
  all_goals rcases h with rfl | rfl | rfl <;> decide +kernel
end Q
namespace Q
open PySem PySem.Spec PyProof.Rows L2
/-! ### the lives of one tool, as a law counts them -/
theorem asc_drop {b : Int} : ∀ {ns : List Int} {k : Nat}, ns.Pairwise (· < ·) → ns[k]? = some b → ns.filter (fun j => decide (b < j)) = ns.drop (k + 1)
  | x :: xs, 0, h, e => by
    obtain ⟨h1, h2⟩ := List.pairwise_cons.mp h
    cases e
    rw [List.filter_cons_of_neg (by simp), List.drop_succ_cons, List.drop_zero]
    exact List.filter_eq_self.mpr fun y hy => decide_eq_true (h1 y hy)
  | x :: xs, k + 1, h, e => by
    obtain ⟨h1, h2⟩ := List.pairwise_cons.mp h
    have e2 : xs[k]? = some b := by simpa using e
    have m := h1 b (List.mem_of_getElem? e2)
    rw [List.filter_cons_of_neg (by simp; omega), List.drop_succ_cons]
    exact asc_drop h2 e2
theorem next_at {ns : List Int} {k : Nat} {b : Int} (h : ns.Pairwise (· < ·)) (e : ns[k]? = some b) : (lastsOf ns)[k]? = some (nextOf ns b) := by
  have hk : k < ns.length := (List.getElem?_eq_some_iff.mp e).1
  unfold nextOf lastsOf
  rw [asc_drop h e]
  cases hd : ns.drop (k + 1) with
  | nil =>
    have hl : ns.length ≤ k + 1 := List.drop_eq_nil_iff.mp hd
    rw [List.getElem?_append_right (by simp; omega)]
    have : k - ((ns.drop 1).map (· - 1)).length = 0 := by simp; omega
    rw [this]
    rfl
  | cons y r =>
    have e2 : ns[k + 1]? = some y := by
      have := congrArg List.head? hd
      rw [List.head?_drop] at this
      exact this
    have hk2 : k + 1 < ns.length := (List.getElem?_eq_some_iff.mp e2).1
    rw [List.getElem?_append_left (by simp; omega), List.getElem?_map, List.getElem?_drop, Nat.add_comm 1 k, e2]
    rfl
def ownsOf (ns : List Int) (t : Int) (qs : List (Int × Int)) : List Int := (qs.filter fun q => decide (q.1 ≤ t) && decide (t ≤ q.2)).map (·.1)
theorem owns_go {t : Int} (ht : t ≤ 1000000000000000000000000000000) : ∀ (r : List Int) (x : Int), (x :: r).Pairwise (· < ·) → ownsOf (x :: r) t ((x :: r).zip (lastsOf (x :: r))) = if x ≤ t then [lastUp (x :: r) t] else []
  | [], x, h => by
    unfold ownsOf lastsOf lastUp
    by_cases c : x ≤ t
    · simp [c, ht]
    · simp [c]
  | y :: r, x, h => by
    obtain ⟨h1, h2⟩ := List.pairwise_cons.mp h
    obtain ⟨h3, _⟩ := List.pairwise_cons.mp h2
    have xy := h1 y List.mem_cons_self
    have ih := owns_go ht r y h2
    have z : (x :: y :: r).zip (lastsOf (x :: y :: r)) = (x, y - 1) :: (y :: r).zip (lastsOf (y :: r)) := rfl
    rw [z]
    unfold ownsOf at ih ⊢
    by_cases c : x ≤ t
    · rw [if_pos c]
      by_cases d : y ≤ t
      · rw [List.filter_cons_of_neg (by simp; omega), ih, if_pos d]
        have e2 : (y :: r).filter (fun b => decide (b ≤ t)) = y :: r.filter fun b => decide (b ≤ t) := List.filter_cons_of_pos (by simpa using d)
        have e1 : (x :: y :: r).filter (fun b => decide (b ≤ t)) = x :: y :: r.filter fun b => decide (b ≤ t) := by rw [List.filter_cons_of_pos (by simpa using c), e2]
        unfold lastUp
        rw [e1, e2, List.getLast?_cons_cons]
      · rw [List.filter_cons_of_pos (by simp; omega), List.map_cons, ih, if_neg d]
        have : (y :: r).filter (fun b => decide (b ≤ t)) = [] := List.filter_eq_nil_iff.mpr fun b hb => by
          rcases List.mem_cons.mp hb with e | m
          · subst e; simpa using d
          · have := h3 b m
            simp
            omega
        unfold lastUp
        rw [List.filter_cons_of_pos (by simpa using c), this]
        rfl
    · rw [if_neg c, List.filter_cons_of_neg (by simp; omega), ih, if_neg (by omega)]
theorem lastUp_mem {ms : List Int} {i : Int} (h : 0 ≤ i) : lastUp (0 :: ms) i ∈ (0 : Int) :: ms := by
  have m := List.mem_of_getLast? (lastUp_ok (ms := ms) h)
  exact (List.mem_filter.mp m).1
theorem StartsOk.asc {ns : List Int} (h : StartsOk ns) : ns.Pairwise (· < ·) := by
  obtain ⟨ms, rfl, h1, h2, _⟩ := h
  exact List.pairwise_cons.mpr ⟨fun k hk => by have := h2 k hk; omega, h1⟩
theorem StartsOk.len {ns : List Int} (h : StartsOk ns) : ns.length ≤ 7 := by
  obtain ⟨ms, rfl, _, _, l⟩ := h
  simpa using l
theorem StartsOk.bd {ns : List Int} (h : StartsOk ns) {k : Int} (hk : k ∈ ns) : 0 ≤ k ∧ k ≤ 1000000000000000000000000000000 := by
  obtain ⟨ms, rfl, _, h2, _⟩ := h
  rcases List.mem_cons.mp hk with e | m
  · subst e; exact ⟨by decide, by decide⟩
  · have := h2 k m
    omega
theorem owns_one {ns : List Int} {t : Int} (h : StartsOk ns) (h0 : 0 ≤ t) (h1 : t ≤ 1000000000000000000000000000000) : ownsOf ns t (ns.zip (lastsOf ns)) = [lastUp ns t] := by
  have a := h.asc
  obtain ⟨ms, rfl, _⟩ := h
  rw [owns_go h1 ms 0 a, if_pos h0]
theorem begs_one {ms ns : List Int} (h : Begs (ms.map V.int) ns) (ha : ms.Pairwise (· < ·)) : ns = 0 :: ms := by
  obtain ⟨m2, rfl, h1, h2⟩ := h
  congr 1
  exact ltI_one h1 ha fun k => by
    rw [h2 k, List.mem_map]
    exact ⟨fun ⟨j, hj, e⟩ => by cases e; exact hj, fun hk => ⟨k, hk, rfl⟩⟩
theorem isLife_yes {bt : List (Str × List Int)} {s : Str} {i : Int} {ns : List Int} (h : nsOf bt s = some ns) (hm : i ∈ ns) : isLife bt (some [.str s, .int i]) = true := by
  simp [isLife, h, hm]
theorem at_ints {ns : List Int} {i : Nat} {b : Int} (h : ns[i]? = some b) : atI (ns.map V.int) (i : Int) = some (.int b) := atI_nat (j := i) (by rw [List.getElem?_map, h]; rfl)
theorem lasts_len {ns : List Int} (h : ns ≠ []) : (lastsOf ns).length = ns.length := by
  unfold lastsOf
  cases ns with
  | nil => exact absurd rfl h
  | cons x xs => simp
section
variable {K : PySem.W.Frag} {C : Addr} {e : En} {G H : Hp} {M : List Addr} {p c a d : Addr} {n : Nat} {t : Str} {ns : List Int} {bL bt : List (Str × List Int)} {Q : VK} {E : XK}
def spToolR (C : Addr) : Sp := fun vs H Q _ => ∃ (G : Hp) (p c a d : Addr) (n : Nat) (t : Str) (ns : List Int) (bL bt : List (Str × List Int)), vs = [.ref p, .ref a, .ref d, .str t] ∧ Gh G H ∧ G p = none ∧ Cells c G ∧ PenAt p c n H ∧ n ≤ 1040000 ∧ LivesAt C G a bL ∧ (∀ q ∈ bL, StartsOk q.2) ∧ StAt G d bt ∧
  nsOf bt t = some ns ∧ nsOf bL t = some ns ∧ nmOk t = true ∧ RetP p c (n + 2) G H (fun v _ => v = .bl true) Q
theorem u_toolR (w : Wd e G H M) (hm : p ∈ M) (hc : Cells c G) (P : PenAt p c n H) (hn : n ≤ 1040000) (hL : LivesAt C G a bL) (oL : ∀ q ∈ bL, StartsOk q.2) (hS : StAt G d bt) (e1 : nsOf bt t = some ns) (e2 : nsOf bL t = some ns) (ht : nmOk t = true)
    (k : ∀ G' H', Wd e G' H' M → Same G G' → But p H H' → PenAt p c (n + 2) H' → Q (.bl true) H') : spToolR C [.ref p, .ref a, .ref d, .str t] H Q E :=
  ⟨G, p, c, a, d, n, t, ns, bL, bt, rfl, w.gh, (w.mu p hm).1, hc, P, hn, hL, oL, hS, e1, e2, ht, retP_use w hm fun v G' H' w' s b P' e1 => by subst e1; exact k G' H' w' s b P'⟩
end
end Q
namespace Q
open PySem PySem.Spec PyProof.Rows L2
theorem shaped_tints (ns : List Int) : SeqAt.shaped (.tuple (ns.map PyData.int)) = true := by
  simp [SeqAt.shaped, PyData.canLay0, PyData.depth, canLay_ints, depth_ints]
theorem eqv_tints (ns : List Int) : PyData.eqv (.tuple (ns.map PyData.int)) (.tuple (ns.map PyData.int)) = true := by
  have go : ∀ ns : List Int, PyData.eqvAll (ns.map PyData.int) (ns.map PyData.int) = true := by
    intro ns
    induction ns with
    | nil => simp [PyData.eqvAll]
    | cons n r ih => simp [PyData.eqvAll, PyData.eqv, ih]
  simp [PyData.eqv, go]
/-- one pair of a text and a number, as shown -/
def pairD (t : Str) (b : Int) : PyData := .list [.tuple [.str t, .int b]]
theorem pair_show (K : PySem.W.Frag) {t : Str} {b : Int} (ht : nmOk t = true) (h0 : 0 ≤ b) (h1 : b ≤ 1000000000000000000000000000000) : (pairD t b).showable = true ∧ (pairD t b).depth ≤ 60 ∧ (pairD t b).shown.length ≤ sizeLine := by
  have o1 : Odd K (fun _ => none) (.str t) (.str t) := odd_name ht
  have o2 : Odd K (fun _ => none) (.int b) (.int b) := odd_pos h0 (by omega)
  have a1 := o1.sz
  have a2 := o2.sz
  have a3 := sh_tup [.str t, .int b] (m := 2000) (by simp; omega)
  have a4 := sh_list [.tuple [.str t, .int b]] (m := 2010) (by simp at a3 ⊢; omega)
  refine ⟨by have q := o2.sh; simp [PyData.showable] at q; simp [pairD, PyData.showable, PyData.showableAll, q], by simp [pairD, PyData.depth, PyData.depthAll], sz_m (Nat.le_trans a4 (by simp))⟩
end Q
namespace Q
open PySem PySem.Spec PyProof.Rows L2
/-! ### a def that is not the law, with lambdas of its own -/
/-- what such a def must keep: all but the pen and the tables -/
noncomputable def keepH (p : Addr) (H : Hp) : Hp := open Classical in fun a => if a = p ∨ ∃ ps, H a = some (.tbl ps) then none else H a
theorem keepH_some {p a : Addr} {H : Hp} {o : HO} (n : a ≠ p) (h : H a = some o) (no : NoT o) : keepH p H a = some o := by
  unfold keepH
  rw [if_neg]
  · exact h
  · rintro (e | ⟨ps, e⟩)
    · exact n e
    · rw [h] at e
      cases e
      exact no ps rfl
theorem keepH_to {p a : Addr} {H : Hp} (h : keepH p H a ≠ none) : a ≠ p ∧ keepH p H a = H a ∧ ∀ o, H a = some o → NoT o := by
  unfold keepH at h ⊢
  split at h
  · exact absurd rfl h
  · rename_i c
    rw [if_neg c]
    refine ⟨fun e => c (.inl e), rfl, fun o ho ps e => c (.inr ⟨ps, ?_⟩)⟩
    rw [ho, e]
def RetT (p c : Addr) (n : Nat) (pT : Addr) (q : Str) (G H : Hp) (P : V → Hp → Prop) (Q : VK) : Prop := ∀ v H' G', (∀ b o, b ≠ p → H b = some o → NoT o → H' b = some o) → PenAt p c n H' → LamX.TabS H' pT q → Gh G' H' → Same G G' →
  (∀ a o, a ≠ p → H a = some o → NoT o → G' a = G a) → G' p = none → P v G' → Q v H'
theorem helper_start {G H : Hp} {p c pT : Addr} {n : Nat} {q : Str} (s : Gh G H) (gp : G p = none) (hp : PenAt p c n H) (t : LamX.TabS H pT q) : ∃ en : En, en = ⟨keepH p H, G, [pT], [(pT, q)]⟩ ∧ Wd en G H [p] ∧
    (∀ a, en.H0 a ≠ none → (∃ q, (a, q) ∈ en.T) ∨ (a ∉ en.P0 ∧ ∀ o, en.H0 a = some o → NoT o)) ∧ ∀ r ∈ en.T, r.1 ∈ en.P0 := by
  obtain ⟨a0, g0, h1, _⟩ := id hp
  have hkp : keepH p H p = none := by
    unfold keepH
    rw [if_pos (.inl rfl)]
  refine ⟨_, rfl, ⟨s.1, fun a ha => ?_, by simp, fun a h => ?_, Same.refl _, fun _ _ => rfl, fun a o _ h => ?_, s.2, fun a ha o h => ?_, fun r hr => by rw [List.mem_singleton.mp hr]; exact t⟩, fun a h => ?_, fun r hr => by rw [List.mem_singleton.mp hr]; simp⟩
  · rw [List.mem_singleton.mp ha]
    exact ⟨gp, ⟨_, h1⟩, .inl hkp⟩
  · rw [← (keepH_to h).2.1]
    exact h
  · have h' : keepH p H a = some o := h
    rw [← (keepH_to (some_ne h')).2.1]
    exact h'
  · rw [List.mem_singleton.mp ha, h1] at h
    rw [← Option.some.inj h]
    rfl
  · obtain ⟨n1, n2, n3⟩ := keepH_to h
    refine .inr ⟨fun m => ?_, fun o ho => n3 o (by rw [← n2]; exact ho)⟩
    obtain ⟨ps, e, _⟩ := t
    rw [List.mem_singleton.mp m] at n3
    exact n3 _ e ps rfl
theorem retT_of {p c pT : Addr} {n : Nat} {q : Str} {G H G' H' : Hp} {M : List Addr} {P : V → Hp → Prop} {Q : VK} {v : V} (k : RetT p c n pT q G H P Q) (w : Wd ⟨keepH p H, G, [pT], [(pT, q)]⟩ G' H' M) (t : LamX.TabS H pT q) (hm : p ∈ M) (hp : PenAt p c n H') (h : P v G') : Q v H' :=
  k v H' G' (fun b o n1 h2 no => w.kp b o (fun m => by obtain ⟨ps, e, _⟩ := t; rw [List.mem_singleton.mp m, e] at h2; exact no ps (Option.some.inj h2).symm) (keepH_some n1 h2 no)) hp (w.tb _ (List.mem_singleton.mpr rfl)) w.gh w.gr
    (fun a o n1 h2 no => w.fr a (some_ne (keepH_some n1 h2 no))) (w.mu p hm).1 h
theorem retT_use {p c pT : Addr} {n : Nat} {q : Str} {e : En} {G H : Hp} {M : List Addr} {P : V → Hp → Prop} {Q : VK} (w : Wd e G H M) (hp : p ∈ M) (eT : e.T = [(pT, q)]) (cov : ∀ a, e.H0 a ≠ none → (∃ q, (a, q) ∈ e.T) ∨ (a ∉ e.P0 ∧ ∀ o, e.H0 a = some o → NoT o)) (inP : ∀ r ∈ e.T, r.1 ∈ e.P0)
    (k : ∀ v G' H', Wd e G' H' M → Same G G' → (∀ b o, b ≠ p → H b = some o → NoT o → H' b = some o) → PenAt p c n H' → P v G' → Q v H') : RetT p c n pT q G H P Q := by
  intro v H' G' b P' t' s2 s3 fr g0 p'
  obtain ⟨a0, g1, h1, h2⟩ := id P'
  obtain ⟨ps', tb', _⟩ := id t'
  have tT : ∀ a q', (a, q') ∈ e.T → a = pT := fun a q' m => by
    rw [eT] at m
    cases List.mem_singleton.mp m
    rfl
  have notp : ∀ a, e.H0 a ≠ none → a ∉ e.P0 → a ≠ p := fun a h off z => by
    subst z
    rcases (w.mu _ hp).2.2 with h3 | h3
    · exact h h3
    · exact off h3
  have gnone : ∀ {G2 H2 : Hp}, Gh G2 H2 → (∃ ps, H2 pT = some (.tbl ps)) → G2 pT = none := fun {G2 H2} s ⟨ps, h⟩ => by
    cases z : G2 pT with
    | none => rfl
    | some o =>
      have e1 := s.1 _ _ z
      rw [h] at e1
      cases e1
      exact absurd rfl (s.2 _ _ z ps)
  refine k v G' H' ⟨s2.1, fun a ha => ?_, w.nd, fun a h => ?_, fun a o h => s3 _ _ (w.gr _ _ h), fun a h => ?_, fun a o off h => ?_, s2.2, fun a ha o h => ?_, fun r hr => ?_⟩ s3 b P' p'
  · obtain ⟨m1, ⟨o, m2⟩, m3⟩ := w.mu a ha
    by_cases z : a = p
    · subst z
      exact ⟨g0, ⟨_, h1⟩, m3⟩
    · have no := pl_nt (w.mt a ha o m2)
      exact ⟨by rw [fr a o z m2 no]; exact m1, ⟨o, b a o z m2 no⟩, m3⟩
  · rcases cov a h with ⟨q', m⟩ | ⟨off, no⟩
    · rw [tT a q' m, tb']
      simp
    · cases y : e.H0 a with
      | none => exact absurd y h
      | some o =>
        rw [b a o (notp a h off) (w.kp a o off y) (no o y)]
        simp
  · rcases cov a h with ⟨q', m⟩ | ⟨off, no⟩
    · rw [← w.fr a h, tT a q' m, gnone s2 ⟨ps', tb'⟩, gnone w.gh]
      obtain ⟨ps, e1, _⟩ := w.tb (pT, q) (by rw [eT]; exact List.mem_singleton.mpr rfl)
      exact ⟨ps, e1⟩
    · cases y : e.H0 a with
      | none => exact absurd y h
      | some o => rw [fr a o (notp a h off) (w.kp a o off y) (no o y)]; exact w.fr a h
  · rcases cov a (some_ne h) with ⟨q', m⟩ | ⟨_, no⟩
    · exact absurd (inP _ m) off
    · exact b a o (notp a (some_ne h) off) (w.kp a o off h) (no o h)
  · by_cases z : a = p
    · subst z
      rw [h1] at h
      rw [← Option.some.inj h]
      rfl
    · obtain ⟨_, ⟨o2, m2⟩, _⟩ := w.mu a ha
      have pl := w.mt a ha o2 m2
      rw [b a o2 z m2 (pl_nt pl)] at h
      rw [← Option.some.inj h]
      exact pl
  · rw [eT] at hr
    rw [List.mem_singleton.mp hr]
    exact t'
end Q
namespace Q
open PySem PySem.Spec PyProof.Rows L2
section
variable {K : PySem.W.Frag} {C pT : Addr} {q : Str} {e : En} {G H : Hp} {M : List Addr} {p c a l : Addr} {n : Nat} {ts : List Str} {bL : List (Str × List Int)} {Q : VK} {E : XK}
def spRefR (C pT : Addr) (q : Str) : Sp := fun vs H Q _ => ∃ (G : Hp) (p c a l : Addr) (n : Nat) (ts : List Str) (bL : List (Str × List Int)), vs = [.ref p, .ref a, .ref l] ∧ Gh G H ∧ G p = none ∧ Cells c G ∧ PenAt p c n H ∧ n ≤ 1040000 ∧ LivesAt C G a bL ∧ (∀ q ∈ bL, StartsOk q.2) ∧
  G l = some (.lst (ts.map V.str)) ∧ CrewOk ts ∧ (∀ t, t ∈ bL.map (·.1) ↔ t ∈ ts) ∧ LamX.TabS H pT q ∧ RetT p c (n + 10) pT q G H (fun v _ => v = .bl true) Q
theorem u_refR (w : Wd e G H M) (hm : p ∈ M) (eT : e.T = [(pT, q)]) (cov : ∀ a, e.H0 a ≠ none → (∃ q, (a, q) ∈ e.T) ∨ (a ∉ e.P0 ∧ ∀ o, e.H0 a = some o → NoT o)) (inP : ∀ r ∈ e.T, r.1 ∈ e.P0) (hc : Cells c G) (P : PenAt p c n H) (hn : n ≤ 1040000) (hL : LivesAt C G a bL) (oL : ∀ q ∈ bL, StartsOk q.2)
    (hl : G l = some (.lst (ts.map V.str))) (ht : CrewOk ts) (hk : ∀ t, t ∈ bL.map (·.1) ↔ t ∈ ts) (k : ∀ G' H', Wd e G' H' M → Same G G' → (∀ b o, b ≠ p → H b = some o → NoT o → H' b = some o) → PenAt p c (n + 10) H' → Q (.bl true) H') : spRefR C pT q [.ref p, .ref a, .ref l] H Q E :=
  ⟨G, p, c, a, l, n, ts, bL, rfl, w.gh, (w.mu p hm).1, hc, P, hn, hL, oL, hl, ht, hk, w.tb _ (by rw [eT]; exact List.mem_singleton.mpr rfl), retT_use w hm eT cov inP fun v G' H' w' s b P' e1 => by subst e1; exact k G' H' w' s b P'⟩
end
end Q
namespace Q
open PySem PySem.Spec PyProof.Rows L2
/-- what can be shown, small -/
def Shn (K : PySem.W.Frag) (G : Hp) (v : V) : Prop := ∃ d : PyData, Dq K G v d ∧ d.showable = true ∧ d.depth ≤ 20 ∧ d.shown.length ≤ 5000
section
variable {K : PySem.W.Frag} {G : Hp} {v : V} {a : Addr} {xs : List V} {ds : List PyData} {d : PyData}
theorem Odd.shn (h : Odd K G v d) : Shn K G v := ⟨d, h.dq, h.sh, Nat.le_trans h.dp (by decide), Nat.le_trans h.sz (by decide)⟩
theorem shn_tup (h : G a = some (.tup xs)) (hd : DqAll K G xs ds) (s : PyData.showableAll ds = true) (dp : PyData.depthAll ds ≤ 10) (z : (ds.map fun d => d.shown.length).sum ≤ 4000) (l : ds.length ≤ 5) : Shn K G (.ref a) := by
  refine ⟨.tuple ds, .tup (SqT.of h) hd, by simp only [PyData.showable]; exact s, by simp only [PyData.depth]; omega, ?_⟩
  have := sh_tup ds z
  omega
theorem shn_lst (h : G a = some (.lst xs)) (hd : DqAll K G xs ds) (s : PyData.showableAll ds = true) (dp : PyData.depthAll ds ≤ 10) (z : (ds.map fun d => d.shown.length).sum ≤ 4000) (l : ds.length ≤ 5) : Shn K G (.ref a) := by
  refine ⟨.list ds, .lst (SqL.of h) hd, by simp only [PyData.showable]; exact s, by simp only [PyData.depth]; omega, ?_⟩
  have := sh_list ds z
  omega
end
end Q
namespace Q
open PySem PySem.Spec PyProof.Rows L2
/-! ### a dict of a list of pairs -/
theorem mergeK_go : ∀ (more kvs : List (Key × V)), ((kvs ++ more).map (·.1)).Nodup → mergeK kvs more = kvs ++ more
  | [], kvs, _ => by rw [List.append_nil]; rfl
  | kv :: r, kvs, h => by
    have none : valV kvs kv.1 = none := by
      have z : (kvs.any fun p => decide (p.1 = kv.1)) = (valV kvs kv.1).isSome := valV_any kv.1 kvs
      cases e : valV kvs kv.1 with
      | none => rfl
      | some v =>
        rw [e] at z
        obtain ⟨p, hp, q⟩ := List.any_eq_true.mp (z.trans rfl)
        rw [List.map_append, List.nodup_append] at h
        exact absurd (of_decide_eq_true q) (h.2.2 _ (List.mem_map.mpr ⟨p, hp, rfl⟩) _ (List.mem_map.mpr ⟨kv, List.mem_cons_self, rfl⟩))
    show mergeK (putK kvs kv.1 kv.2) r = _
    rw [putK_new _ none, mergeK_go r _ (by rw [List.append_assoc]; exact h), List.append_assoc]
    rfl
theorem mergeK_nd {kvs : List (Key × V)} (h : (kvs.map (·.1)).Nodup) : mergeK [] kvs = kvs := mergeK_go kvs [] h
def rDictP (K : PySem.W.Frag) : List V → Hp → VK → Prop := fun xs H Q => ∃ (a : Addr) (ps : List Addr) (kvs : List (Key × V)), xs = [.ref a] ∧ SqL K H a (ps.map V.ref) ∧ Paired (fun p kv => SqT K H p [kV kv.1, kv.2]) ps kvs ∧ ∀ p, H p = none → Q (.ref p) (upd H p (.dK (mergeK [] kvs)))
theorem q_dictP {X : Cx} (hc : X.calm = true) : CallR X (.type "dict") (rDictP X.K) := call_dictP hc
theorem r_dictP {K : PySem.W.Frag} {a : Addr} {ps : List Addr} {kvs : List (Key × V)} {H : Hp} {Qv : VK} (h : SqL K H a (ps.map V.ref)) (hp : Paired (fun p kv => SqT K H p [kV kv.1, kv.2]) ps kvs) (nd : (kvs.map (·.1)).Nodup) (q : LayM 0 (.dK kvs) Qv H) : rDictP K [.ref a] H Qv :=
  ⟨a, ps, kvs, rfl, h, hp, by rw [mergeK_nd nd]; exact q.2⟩
end Q
namespace Q
open PySem PySem.Spec PyProof.Rows L2
/-- pairs of texts and lists -/
inductive DrAt (G : Hp) : List Addr → List (Key × V) → List (Str × List V) → Prop
  | nil : DrAt G [] [] []
  | cons {p b : Addr} {t : Str} {xs : List V} {ps : List Addr} {kvs : List (Key × V)} {rows : List (Str × List V)} (h1 : G p = some (.tup [.str t, .ref b])) (h2 : G b = some (.lst xs)) (r : DrAt G ps kvs rows) : DrAt G (p :: ps) ((.inr t, .ref b) :: kvs) ((t, xs) :: rows)
section
variable {K : PySem.W.Frag} {G G' : Hp} {ps : List Addr} {kvs : List (Key × V)} {rows : List (Str × List V)}
theorem DrAt.same (h : DrAt G ps kvs rows) (s : Same G G') : DrAt G' ps kvs rows := by
  induction h with
  | nil => exact .nil
  | cons h1 h2 _ ih => exact .cons (s _ _ h1) (s _ _ h2) ih
theorem DrAt.snoc (r : DrAt G ps kvs rows) {p b : Addr} {t : Str} {xs : List V} (h1 : G p = some (.tup [.str t, .ref b])) (h2 : G b = some (.lst xs)) : DrAt G (ps ++ [p]) (kvs ++ [(.inr t, .ref b)]) (rows ++ [(t, xs)]) := by
  induction r with
  | nil => exact .cons h1 h2 .nil
  | cons g1 g2 _ ih => exact .cons g1 g2 ih
theorem DrAt.pairs (h : DrAt G ps kvs rows) (s : Same G G') : Paired (fun p kv => SqT K G' p [kV kv.1, kv.2]) ps kvs := by
  induction h with
  | nil => exact .nil
  | cons h1 _ _ ih => exact .cons (SqT.of (s _ _ h1)) ih
theorem DrAt.beg (h : DrAt G ps kvs rows) : BegAt K G kvs rows := by
  induction h with
  | nil => exact .nil
  | cons _ h2 _ ih => exact .cons (.inl (SqL.of h2)) ih
end
end Q
namespace Q
open PySem PySem.Spec PyProof.Rows L2
/-! ### lives of given beginnings -/
def numsOf (bt : List (Str × List Int)) : List (Str × List V) := bt.map fun q => (q.1, (q.2.drop 1).map V.int)
section
variable {K : PySem.W.Frag} {G : Hp} {bt bL : List (Str × List Int)} {t : Str} {ns : List Int} {ts : List Str} {Cn Cm : Addr}
theorem nsOf_at (nd : (bt.map (·.1)).Nodup) (h : (t, ns) ∈ bt) : nsOf bt t = some ns := by
  induction bt with
  | nil => cases h
  | cons q bt ih =>
    obtain ⟨n1, n2⟩ := List.nodup_cons.mp (show (q.1 :: bt.map (·.1)).Nodup from nd)
    rcases List.mem_cons.mp h with e | m
    · subst e
      simp [nsOf, List.find?_cons]
    · have ne : ¬ q.1 = t := fun z => n1 (List.mem_map.mpr ⟨_, m, z.symm⟩)
      have a1 : nsOf (q :: bt) t = nsOf bt t := by simp [nsOf, List.find?_cons, ne]
      rw [a1]
      exact ih n2 m
theorem nums_fst : (numsOf bt).map (·.1) = bt.map (·.1) := by
  unfold numsOf
  rw [List.map_map]
  rfl
theorem rowOf_nums : rowOf (numsOf bt) t = (nsOf bt t).map fun ns => (ns.drop 1).map V.int := by
  induction bt with
  | nil => rfl
  | cons q bt ih =>
    by_cases e : q.1 = t
    · simp [numsOf, rowOf, nsOf, List.find?_cons, e]
    · have a1 : nsOf (q :: bt) t = nsOf bt t := by simp [nsOf, List.find?_cons, e]
      have a2 : rowOf (numsOf (q :: bt)) t = rowOf (numsOf bt) t := by simp [numsOf, rowOf, List.find?_cons, e]
      rw [a1, a2, ih]
theorem StartsOk.tail (h : StartsOk ns) : ns = 0 :: ns.drop 1 ∧ (ns.drop 1).Pairwise (· < ·) ∧ (∀ k ∈ ns.drop 1, 1 ≤ k ∧ k ≤ 1000000000000000000000000000000) ∧ (ns.drop 1).length ≤ 6 := by
  obtain ⟨ms, rfl, h1, h2, h3⟩ := h
  exact ⟨rfl, h1, h2, h3⟩
theorem rows_nums (h1 : ∀ q ∈ bt, nmOk q.1 = true) (h2 : ∀ q ∈ bt, StartsOk q.2) : RowsOk K G (numsOf bt) := by
  have go : ∀ r ∈ numsOf bt, ∃ q ∈ bt, r = (q.1, (q.2.drop 1).map V.int) := fun r hr => by
    obtain ⟨q, hq, e⟩ := List.mem_map.mp hr
    exact ⟨q, hq, e.symm⟩
  refine ⟨fun r hr => ?_, fun r hr v hv => ?_, fun r hr => ?_, fun r hr => ?_⟩
  · obtain ⟨q, hq, rfl⟩ := go r hr
    have l := (h2 q hq).tail.2.2.2
    exact ⟨Nat.le_trans (nmOk_len (h1 q hq)) (by decide), by rw [List.length_map]; exact Nat.le_trans l (by decide)⟩
  · obtain ⟨q, hq, rfl⟩ := go r hr
    obtain ⟨k, hk, rfl⟩ := List.mem_map.mp hv
    obtain ⟨k0, k1⟩ := (h2 q hq).tail.2.2.1 k hk
    exact ⟨_, odd_pos (by omega) (by omega)⟩
  · obtain ⟨q, hq, rfl⟩ := go r hr
    exact ⟨_, odd_name (h1 q hq)⟩
  · obtain ⟨q, hq, rfl⟩ := go r hr
    exact nmOk_str (h1 q hq)
theorem faultL_ok : ∀ {ts : List Str} {rows : List (Str × List V)}, (∀ t ∈ ts, nmOk t = true ∧ ∃ xs, rowOf rows t = some xs ∧ ∀ v ∈ xs, momV v 1 = true) → faultL Cn Cm rows ts = none
  | [], _, _ => rfl
  | t :: ts, rows, h => by
    obtain ⟨a, xs, b, c⟩ := h t List.mem_cons_self
    rw [faultL_go a b c]
    exact faultL_ok fun u hu => h u (List.mem_cons_of_mem _ hu)
theorem fault_nums (h1 : ∀ q ∈ bt, nmOk q.1 = true) (h2 : ∀ q ∈ bt, StartsOk q.2) (hp : ts.Perm ((numsOf bt).map (·.1))) : faultL Cn Cm (numsOf bt) ts = none := by
  refine faultL_ok fun t ht => ?_
  have m := hp.mem_iff.mp ht
  rw [nums_fst] at m
  obtain ⟨ns, hn⟩ := nsOf_in m
  have mq := nsOf_mem hn
  refine ⟨h1 _ mq, _, by rw [rowOf_nums, hn]; rfl, fun v hv => ?_⟩
  obtain ⟨k, hk, rfl⟩ := List.mem_map.mp hv
  obtain ⟨k0, k1⟩ := (h2 _ mq).tail.2.2.1 k hk
  show (decide (1 ≤ k) && decide (k ≤ 1000000000000000000000000000000)) = true
  rw [Bool.and_eq_true, decide_eq_true_iff, decide_eq_true_iff]
  exact ⟨k0, k1⟩
theorem lives_nums (h2 : ∀ q ∈ bt, StartsOk q.2) (hp : ts.Perm ((numsOf bt).map (·.1))) (b : BtOf (numsOf bt) ts bL) : (∀ q ∈ bL, nsOf bt q.1 = some q.2 ∧ StartsOk q.2) ∧ ∀ t, nsOf bL t = nsOf bt t := by
  obtain ⟨b1, b2⟩ := b
  have mem : ∀ t, t ∈ bL.map (·.1) ↔ t ∈ bt.map (·.1) := fun t => by rw [b1, hp.mem_iff, nums_fst]
  have one : ∀ q ∈ bL, nsOf bt q.1 = some q.2 ∧ StartsOk q.2 := fun q hq => by
    obtain ⟨ns, hn⟩ := nsOf_in ((mem q.1).mp (List.mem_map.mpr ⟨q, hq, rfl⟩))
    have so := h2 _ (nsOf_mem hn)
    have z := b2 q hq
    rw [rowOf_nums, hn] at z
    have e := begs_one (ms := ns.drop 1) (ns := q.2) z so.tail.2.1
    have e2 : q.2 = ns := e.trans so.tail.1.symm
    rw [e2]
    exact ⟨hn, so⟩
  refine ⟨one, fun t => ?_⟩
  cases e : nsOf bL t with
  | some ns => exact (one _ (nsOf_mem e)).1.symm
  | none =>
    cases e2 : nsOf bt t with
    | none => rfl
    | some ns =>
      have m : t ∈ bt.map (·.1) := List.mem_map.mpr ⟨_, nsOf_mem e2, rfl⟩
      obtain ⟨ns', h'⟩ := nsOf_in ((mem t).mpr m)
      rw [e] at h'
      cases h'
end
end Q
namespace Q
open PySem PySem.Spec PyProof.Rows L2
theorem nodup_inr : ∀ {ts : List Str}, ts.Nodup → (ts.map fun t => (Sum.inr t : Key)).Nodup
  | [], _ => List.nodup_nil
  | t :: ts, h => by
    obtain ⟨a, b⟩ := List.nodup_cons.mp h
    refine List.nodup_cons.mpr ⟨fun m => ?_, nodup_inr b⟩
    obtain ⟨u, hu, e⟩ := List.mem_map.mp m
    cases e
    exact a hu
end Q
namespace Q
open PySem PySem.Spec PyProof.Rows L2
theorem vals_turned {vs : List V} {us : List Value} (h : Vals vs us) : Vals vs.reverse us.reverse := by
  induction h with
  | nil => exact .nil
  | cons h _ ih =>
    simp only [List.reverse_cons]
    exact ih.append (.cons h .nil)
end Q
namespace Q
open PySem PySem.Spec PyProof.Rows L2
/-! ### dicts whose keys are tuples: of a list of pairs -/
def mergeT (kvs more : List (List Key × V)) : List (List Key × V) := more.foldl (fun acc kv => putK acc kv.1 kv.2) kvs
def TPairs (K : PySem.W.Frag) (H : Hp) : List Addr → List (List Key × V) → Prop := Paired fun p kv => ∃ b, SqT K H p [.ref b, kv.2] ∧ H b = some (.tup (kv.1.map kV))
theorem kt_merge {H : Hp} : ∀ {more : List (List Key × V)} {rs : List (List Key × Addr × Value)} {kvs : List (List Key × V)} {vs : List (List Key × Addr × Value)}, KT H more rs → KT H kvs vs → KT H (mergeT kvs more) (storedAllH vs rs)
  | _, _, _, _, .nil, q => q
  | _, _, kvs, vs, .cons (a := p) (l₁ := ps) (b := r) (l₂ := rs) h t, q => by
    have e : KT H (putK kvs p.1 p.2) (storedH vs r.1 r.2.1 r.2.2) := by
      rw [← h.1]
      exact q.put p.1 h.2.1 h.2.2
    show KT H (mergeT (putK kvs p.1 p.2) ps) (storedAllH (storedH vs r.1 r.2.1 r.2.2) rs)
    exact kt_merge t e
theorem mergeT_len : ∀ (more kvs : List (List Key × V)), (mergeT kvs more).length ≤ kvs.length + more.length
  | [], kvs => Nat.le_refl _
  | p :: r, kvs => by
    have a := mergeT_len r (putK kvs p.1 p.2)
    have b := length_putK kvs p.1 p.2
    show (mergeT (putK kvs p.1 p.2) r).length ≤ kvs.length + (r.length + 1)
    omega
theorem mergeT_go : ∀ (more kvs : List (List Key × V)), ((kvs ++ more).map (·.1)).Nodup → mergeT kvs more = kvs ++ more
  | [], kvs, _ => by rw [List.append_nil]; rfl
  | kv :: r, kvs, h => by
    have none : valV kvs kv.1 = none := by
      have z : (kvs.any fun p => decide (p.1 = kv.1)) = (valV kvs kv.1).isSome := valV_any kv.1 kvs
      cases e : valV kvs kv.1 with
      | none => rfl
      | some v =>
        rw [e] at z
        obtain ⟨p, hp, q⟩ := List.any_eq_true.mp (z.trans rfl)
        rw [List.map_append, List.nodup_append] at h
        exact absurd (of_decide_eq_true q) (h.2.2 _ (List.mem_map.mpr ⟨p, hp, rfl⟩) _ (List.mem_map.mpr ⟨kv, List.mem_cons_self, rfl⟩))
    have e2 : putK kvs kv.1 kv.2 = kvs ++ [kv] := by
      unfold putK
      rw [show (kvs.any fun p => decide (p.1 = kv.1)) = false by rw [valV_any kv.1 kvs, none]; rfl]
      rfl
    show mergeT (putK kvs kv.1 kv.2) r = _
    rw [e2, mergeT_go r _ (by rw [List.append_assoc]; exact h), List.append_assoc]
    rfl
theorem mergeT_nd {kvs : List (List Key × V)} (h : (kvs.map (·.1)).Nodup) : mergeT [] kvs = kvs := mergeT_go kvs [] h
def rDictT (K : PySem.W.Frag) : List V → Hp → VK → Prop := fun xs H Q => ∃ (a : Addr) (ps : List Addr) (kvs : List (List Key × V)), xs = [.ref a] ∧ SqL K H a (ps.map V.ref) ∧ TPairs K H ps kvs ∧ ∀ d, H d = none → Q (.ref d) (upd H d (.dT (mergeT [] kvs)))
theorem tpairs_at {X : Cx} {pins : List (Addr × Obj)} {σ : L2.St} {H : Hp} {s : Shared} (I : Inv X pins σ H s) : ∀ {ps : List Addr} {kvs : List (List Key × V)}, TPairs X.K H ps kvs →
    ∃ rs : List (List Key × Addr × Value), KT H kvs rs ∧ rs.length = ps.length ∧ ∀ (j : Nat) (q : List Key × Addr × Value), rs[j]? = some q → ∃ p, ps[j]? = some p ∧ PairAt s.heap p (.ref q.2.1) q.2.2
  | _, _, .nil => ⟨[], .nil, rfl, fun j q e => by simp at e⟩
  | _, _, .cons (a := p) (b := kv) ⟨b, hp, hb⟩ t => by
    obtain ⟨rs, r1, r2, r3⟩ := tpairs_at I t
    obtain ⟨its, rv, ht, _⟩ := I.tuple hp
    obtain ⟨u, y, rfl, ru, ry⟩ := vals2 rv
    cases (show u = Value.ref b from ru)
    refine ⟨(kv.1, b, y) :: rs, .cons ⟨rfl, hb, ry⟩ r1, by simp [r2], fun j q e => ?_⟩
    match j, e with
    | 0, e =>
      cases e
      obtain ⟨o, ho, hc, n, hd⟩ := ht
      exact ⟨p, rfl, .inl ⟨o, ho, hc, n, hd⟩⟩
    | j + 1, e => exact r3 j q e
theorem q_dictT {X : Cx} (hc : X.calm = true) (hu : X.A.units + 2 < cLine) : CallR X (.type "dict") (rDictT X.K) := by
  intro pins s σ H xs us Q I r ⟨a, ps, kvs, ex, hq, hp, q⟩
  subst ex
  obtain ⟨u, rfl, rx⟩ := vals1 r
  cases rx
  obtain ⟨its, rv, pl, hz⟩ := I.list hq
  obtain rfl := refs_at rv
  rw [List.length_map] at hz
  obtain ⟨rs, r1, r2, r3⟩ := tpairs_at I hp
  have keyAt : ∀ x ∈ rs, H x.2.1 = some (.tup (x.1.map kV)) := by
    have go : ∀ {l : List (List Key × V)} {m : List (List Key × Addr × Value)}, KT H l m → ∀ x ∈ m, H x.2.1 = some (.tup (x.1.map kV)) := fun {l m} h => by
      induction h with
      | nil => exact fun x hx => by cases hx
      | cons h _ ih =>
        intro x hx
        rcases List.mem_cons.mp hx with rfl | hx
        · rw [← h.1]; exact h.2.1
        · exact ih x hx
    exact go r1
  have Ts : ∀ j, j < ps.length → ps[j]? = some (ps.getD j 0) := fun j hj => by rw [List.getD_eq_getElem?_getD, List.getElem?_eq_getElem hj]; rfl
  refine call_dict_pairsH (knd := tupleKind (mixKind X.prog X.w)) (ps := rs) (PairArg.list a (ps.map Value.ref).toArray (fun j => ps.getD j 0) (rs.map fun x => (Value.ref x.2.1, x.2.2))) (I.ok.hd hc) hu ⟨pl, ?_, ?_⟩ ⟨?_, ?_⟩ ?_ ?_ ?_
  · simp [r2]
  · intro j k v hj
    rw [List.getElem?_map] at hj
    cases e : rs[j]? with
    | none => rw [e] at hj; cases hj
    | some x =>
      rw [e] at hj
      cases hj
      obtain ⟨p, hp1, hp2⟩ := r3 j x e
      have hj := (List.getElem?_eq_some_iff.mp hp1).1
      have e3 : ps.getD j 0 = p := Option.some.inj ((Ts j hj).symm.trans hp1)
      show (ps.map Value.ref).toArray[j]? = some (.ref (ps.getD j 0)) ∧ PairAt s.heap (ps.getD j 0) _ _
      rw [e3]
      exact ⟨by simp [hp1], hp2⟩
  · simp
  · intro i key v hr
    have hr : (rs.map fun x => (Value.ref x.2.1, x.2.2))[i]? = some (key, v) := hr
    rw [List.getElem?_map] at hr
    cases e : rs[i]? with
    | none => rw [e] at hr; cases hr
    | some x => rw [e] at hr; cases hr; exact ⟨x.1, x.2.1, rfl, rfl⟩
  · intro h2 hk x hx
    obtain ⟨o, z, n, h1, h3, h4, h5⟩ := key_of I.hok (keyAt x hx)
    exact ⟨o, z, n, hk _ _ (Nat.ne_of_lt (Heap.lt_size h1)) (by simp) h1, h3, h4, h5⟩
  · rw [List.length_map, r2]; exact hz
  · intro h2 tk hd hk
    obtain ⟨o, es, ep, h3, h4, h5, h6, _, h7⟩ := hd
    have hm : (s.heap.objs.size == sysModules) = false := beq_eq_false_iff_ne.mpr (Nat.ne_of_gt I.big)
    have len : (mergeT [] kvs).length ≤ sizeLine := by
      have a1 := mergeT_len kvs []
      have a2 : kvs.length = rs.length := Paired.length r1
      simp at a1
      omega
    have fresh : H s.heap.objs.size = none := I.hok.fresh (Nat.le_refl _)
    have kt : KT (upd H s.heap.objs.size (.dT (mergeT [] kvs))) (mergeT [] kvs) (storedAllH [] rs) := (kt_merge r1 .nil).keeps fun b ys eb => by
      rw [upd_ne (ne_of_none eb fresh)]
      exact eb
    exact ⟨.ref s.heap.objs.size, _, I.laid (t' := tk) (fun b o eo => hk b o (by simp) eo) (Nat.le_refl _) (show ObjOk X.prog X.w _ _ _ (.dT (mergeT [] kvs)) from ⟨len, hm, storedAllH [] rs, kt, o, es, ep, h3, h4, h5, h6, h7⟩), rfl, q _ fresh⟩
theorem r_dictT {K : PySem.W.Frag} {a : Addr} {ps : List Addr} {kvs : List (List Key × V)} {H : Hp} {Qv : VK} (h : SqL K H a (ps.map V.ref)) (hp : TPairs K H ps kvs) (nd : (kvs.map (·.1)).Nodup) (q : LayM 0 (.dT kvs) Qv H) : rDictT K [.ref a] H Qv :=
  ⟨a, ps, kvs, rfl, h, hp, by rw [mergeT_nd nd]; exact q.2⟩
end Q
namespace Q
open PySem PySem.Spec PyProof.Rows L2
/-! ### dicts whose keys are tuples: made by a comprehension -/
section
variable {X : Cx} {pins : List (Addr × Obj)} {σ : L2.St} {H : Hp} {s : Shared}
theorem dset_t {D b : Addr} {kvs : List (List Key × V)} {k : List Key} {v : V} {r : Value} {Qu : Unit → Shared → Prop} {E : Value → Shared → Prop} (I : Inv X pins σ H s) (hu : X.A.units < cLine) (hD : H D = some (.dT kvs)) (hz : kvs.length < sizeLine) (hb : H b = some (.tup (k.map kV))) (rv : RelV v r)
    (go : ∀ s', Inv X pins σ (upd H D (.dT (putK kvs k v))) s' → Qu () s') : wpAny (model X.prog X.w) X.A (dictSet D (.ref b) r) Qu E s := by
  obtain ⟨z, nsys, xs, rel, dd⟩ := dt_of I.hok hD
  have lx : xs.length ≤ sizeLine := by rw [← Paired.length rel]; exact z
  refine wpAny_dictSet_heap (knd := tupleKind (mixKind X.prog X.w)) (hsz := lx) hu (key_of I.hok hb) dd fun h2 d2 sb => go _ ?_
  obtain ⟨q, es, ep, hq, a2, a3, a4, _, a5⟩ := d2
  have len : (putK kvs k v).length ≤ sizeLine := Nat.le_trans (length_putK kvs k v) hz
  refine d_write I (by rw [hD]; trivial) sb ⟨q, hq⟩ ⟨len, nsys, _, (rel.put k hb rv).keeps fun c ys ec => ?_, q, es, ep, hq, a2, a3, a4, a5⟩
  rw [upd_ne (ne_of ec hD (by simp))]
  exact ec
/-- {k: v for target in iter if ..}, keys tuples -/
def tDcT (wi : TI) (g : TG) (tt : TT) (tk tv : TE) (vs : List Nat) : TE := fun σ H Q => wi σ H fun J H1 => ∀ D, H1 D = none → ∃ W : Nat → Nat → Hp → Prop, (∃ m, W 0 m (upd H1 D (.dT []))) ∧ ∀ i m H, W i m H →
  (J.stop i H ∧ Q (.ref D) H) ∨ (J.go i H ∧ ∃ Nx : Hp → Prop, (∀ H', Nx H' → ∃ m', m' < m ∧ W (i + 1) m' H') ∧ ∀ x H', J.yld i H x H' → g x (wipe σ vs) H' fun σ2 H2 => wipe σ2 vs = wipe σ vs ∧ tt σ2 H2 fun b H3 =>
    if b = true then tk σ2 H3 fun y H4 => tv σ2 H4 fun z H5 => ∃ kvs k b, y = .ref b ∧ H5 b = some (.tup (k.map kV)) ∧ H5 D = some (.dT kvs) ∧ kvs.length < sizeLine ∧ Nx (upd H5 D (.dT (putK kvs k z))) else Nx H3)
/-- what is needed of a comprehension's parts -/
structure CompP (X : Cx) (tg iter kx vx : Expr) (ifs : List Expr) (scope : Scope) (own : List (Str × Nat)) (wi : TI) (g : TG) (tt : TT) (tk tv : TE) : Prop where
  src : PI X tg iter wi
  ok : BlkOk X.N X.env.scope scope own
  tgt : ∀ (s : Shared) (H : Hp) (C : Addr) (cl : List (Str × Addr)) (fp : List Addr), PG (X.blk s H scope (compEnvC scope cl C X.env) fp) tg g
  tst : ∀ (s : Shared) (H : Hp) (C : Addr) (cl : List (Str × Addr)) (fp : List Addr), PTs (X.blk s H scope (compEnvC scope cl C X.env) fp) ifs tt
  key : ∀ (s : Shared) (H : Hp) (C : Addr) (cl : List (Str × Addr)) (fp : List Addr), PE (X.blk s H scope (compEnvC scope cl C X.env) fp) kx tk
  val : ∀ (s : Shared) (H : Hp) (C : Addr) (cl : List (Str × Addr)) (fp : List Addr), PE (X.blk s H scope (compEnvC scope cl C X.env) fp) vx tv
  raw : ∀ x, foldedSetIterable iter X.env x = pure x
theorem pe_dcT {kx vx tg iter : Expr} {ifs : List Expr} {scope : Scope} {own : List (Str × Nat)} {pos : Pos} {wi : TI} {g : TG} {tt : TT} {tk tv : TE} (hc : X.calm = true) (hN : X.N.Nodup) (hu : X.A.units < cLine) (P : CompP X tg iter kx vx ifs scope own wi g tt tk tv) :
    PE X (.DictComp kx vx [⟨tg, iter, ifs, 0⟩] scope pos) (tDcT wi g tt tk tv (own.map (·.2))) := by
  refine ⟨fun pins s σ H Qv I h => ?_⟩
  rw [arm_eval_DictComp]
  have ok := P.ok
  have outside : ∀ y ∈ scope.names, y.2 = .free → ∃ c, X.env.cells.lookup y.1 = some c := fun y hy e => I.ok.has _ (ok.free y hy e)
  refine wpAny_comprehension_free rfl P.raw (closure_ok outside) ok.kind (fun y hy e => by rw [ok.uniq y hy, e]) (thn (P.src.run pins s σ H _ I h) fun xv s1 hx => thn hx fun itv s2 ⟨it, fp, tn, J, H2, ei, I2, T, st2, f2, hW⟩ => ?_)
  subst ei
  refine wpAny_newObj_type (newEnv_comp ?_)
  have new : H2 s2.heap.objs.size = none := I2.hok.fresh (Nat.le_refl _)
  obtain ⟨W, ⟨m0, w0⟩, turn⟩ := hW _ new
  generalize eD : s2.heap.objs.size = D at new w0 turn
  -- s3: with the new dict; H3: what is known of it
  generalize es3 : ({ s2 with heap := s2.heap.push { cls := .type "dict", data := .dict #[] } } : Shared) = s3
  have hp3 : s3.heap = s2.heap.push { cls := .type "dict", data := .dict #[] } := by rw [← es3]
  have I3 : Inv X pins σ (upd H2 D (.dT [])) s3 := by
    subst es3 eD
    exact I2.laid (t' := s2.toks) (fun b o e => Heap.get?_push_of_some _ e) (Nat.le_refl _) (dt_empty s2.heap I2.big)
  have below : ∀ b ∈ fp, b < s2.heap.objs.size := fun b hb => (T.obj _ _ st2 b hb).elim fun o e => Heap.lt_size e.1
  generalize eH3 : upd H2 D (.dT []) = H3 at I3 w0
  have f3 : ∀ b ∈ fp, FpOk X pins H3 b ∧ b < s3.heap.objs.size := fun b hb => by
    have lt := below b hb
    have f := f2 b hb
    refine ⟨⟨?_, f.2⟩, by rw [hp3, Heap.size_push]; exact Nat.lt_succ_of_lt lt⟩
    rw [← eH3, upd_ne (fun z => Nat.ne_of_lt lt (z.trans eD.symm))]
    exact f.1
  have tn3 : tn 0 s3.heap := T.keep _ _ _ st2 fun b _ o e => by rw [hp3]; exact Heap.get?_push_of_some _ e
  have B := block_start I3 ok hN f3
  have pg := P.tgt s3 H3 s3.heap.objs.size (cellsFrom (s3.heap.objs.size + 1) scope.names (cloFrom X.env.cells scope.names [])) fp
  have pt := P.tst s3 H3 s3.heap.objs.size (cellsFrom (s3.heap.objs.size + 1) scope.names (cloFrom X.env.cells scope.names [])) fp
  have pk := P.key s3 H3 s3.heap.objs.size (cellsFrom (s3.heap.objs.size + 1) scope.names (cloFrom X.env.cells scope.names [])) fp
  have pv := P.val s3 H3 s3.heap.objs.size (cellsFrom (s3.heap.objs.size + 1) scope.names (cloFrom X.env.cells scope.names [])) fp
  generalize ece : compEnvC scope (cellsFrom (s3.heap.objs.size + 1) scope.names (cloFrom X.env.cells scope.names [])) s3.heap.objs.size X.env = ce at B pg pt pk pv
  have cL : ce.locals = s3.heap.objs.size := by rw [← ece]; rfl
  have at4 : tn 0 (pushCells (s3.heap.push { cls := .type "dict", data := .dict #[] }) scope.names) := T.keep _ _ _ tn3 fun b _ o e => pushCells_keeps _ _ _ _ (Heap.get?_push_of_some _ e)
  have quiet : ∀ b ∈ fp, H3 b = none := fun b hb => (f3 b hb).1.1
  have still : ∀ {σ' : L2.St} {H' : Hp} {s' : Shared}, Inv (X.blk s3 H3 scope ce fp) [] σ' H' s' → (∀ b ∈ fp, H' b = none) → ∀ b ∈ fp, FpOk (X.blk s3 H3 scope ce fp) [] H' b := fun {σ' H' s'} I' n b hb =>
    ⟨n b hb, (I'.ok.exf b hb).1, I'.ok.exfs b hb, .inl hb, fun x c e => (I'.ok.exf b hb).2 x c e, fun p hp => by simp at hp⟩
  have post : ∀ {s' : Shared} {H' : Hp}, Inv (X.blk s3 H3 scope ce fp) [] (wipe σ (own.map (·.2))) H' s' → Qv (.ref D) H' → compPost (model X.prog X.w) X.A X.xe none (fun u s' => ∃ x H', Inv X pins σ H' s' ∧ RelV x u ∧ Qv x H') (.ref D) s3.heap.objs.size (.ok .next) s' := fun {s' H'} I' q => by
    have I4 : Inv X pins σ H' s' := I3.call' (ch := fp) I'.os I'.base I'.hok I'.bare fun b hb => ⟨(f3 b hb).1.2.2.2.1, (f3 b hb).1.2.1, (f3 b hb).1.2.2.2.2.1, (f3 b hb).1.2.2.2.2.2⟩
    have free : H' s3.heap.objs.size = none := by rw [← cL]; exact I'.free
    obtain ⟨m, hm, _⟩ := I'.loc
    have hm : s'.heap.Ns s3.heap.objs.size m := by rw [← cL]; exact hm
    obtain ⟨g0, g1, g2, g3, g4, g5⟩ := I3.fpOk (Nat.le_refl _) free
    exact ⟨m, hm, fun h2 sb => ⟨.ref D, H', I4.turned (t' := s'.toks) (fun b o hb e => (sb.2 b hb).trans e) g0 g1 g3 g4 g5, rfl, q⟩⟩
  have body : codeAny (model X.prog X.w) X.A (.compLoop (.DictComp kx vx [⟨tg, iter, ifs, 0⟩] scope pos) 0 (.ref it) (.ref D) ce) (compPost (model X.prog X.w) X.A X.xe none (fun u s' => ∃ x H', Inv X pins σ H' s' ∧ RelV x u ∧ Qv x H') (.ref D) s3.heap.objs.size)
      { s3 with heap := pushCells (s3.heap.push { cls := .type "dict", data := .dict #[] }) scope.names } := by
    refine compLoop_anyD (fun n s' => ∃ i H', Inv (X.blk s3 H3 scope ce fp) [] (wipe σ (own.map (·.2))) H' s' ∧ tn i s'.heap ∧ (∀ b ∈ fp, H' b = none) ∧ W i n H') (fun n s5 ⟨i, H5, I5, t5, n5, w5⟩ => ?_) m0 ⟨0, H3, B, at4, quiet, w0⟩
    rcases turn i n H5 w5 with ⟨stop, q⟩ | ⟨go, Nx, down, step⟩
    · refine thnF (T.done (X.blk s3 H3 scope ce fp) rfl rfl rfl hc i [] s5 _ H5 (fun _ _ => False) I5 (still I5 n5) t5 stop) fun r s6 ⟨hr, I6⟩ => ?_
      subst hr
      exact post I6 q
    · refine thnF (T.item (X.blk s3 H3 scope ce fp) rfl rfl rfl hc i [] s5 _ H5 (fun _ _ => False) I5 (still I5 n5) t5 go) fun r s6 ⟨u, hr, more⟩ => ?_
      subst hr
      refine thnF more fun _ s7 ⟨x, H7, I7, r7, y7, t7, n7⟩ => ?_
      refine thnF (pg.run _ s7 _ H7 x u _ (I7.pinned (still I7 n7) (T.obj _ _ t7)) r7 (step x H7 y7)) fun _ s8 ⟨σ8, H8, I8, e8, q8⟩ => ?_
      have ended : ∀ {s' : Shared} {H' : Hp}, Inv (X.blk s3 H3 scope ce fp) ([] ++ pinsAt fp s7.heap) σ8 H' s' → Nx H' → ∃ m, m < n ∧ ∃ i H', Inv (X.blk s3 H3 scope ce fp) [] (wipe σ (own.map (·.2))) H' s' ∧ tn i s'.heap ∧ (∀ b ∈ fp, H' b = none) ∧ W i m H' := fun {s' H'} I' nx => by
        obtain ⟨m', lt, w'⟩ := down H' nx
        have held : ∀ b ∈ fp, ∀ o, s7.heap.get? b = some o → s'.heap.get? b = some o ∧ H' b = none := fun b hb o e => by
          have z := I'.pin (b, o) (List.mem_append_right _ (List.mem_append_right _ (mem_pinsAt hb e)))
          exact ⟨z.1, z.2.1⟩
        have same : (wipe σ (own.map (·.2))).length = σ8.length := by rw [← e8, wipe_length]
        refine ⟨m', lt, i + 1, H', (I'.unpinned (pins := [])).weak same (fun j v e => by rw [← e8] at e; exact (wipe_some e).1), T.keep _ _ _ t7 fun b hb o e => (held b hb o e).1, fun b hb => ?_, w'⟩
        obtain ⟨o, e, _⟩ := T.obj _ _ t7 b hb
        exact (held b hb o e).2
      refine thnF (pt.run _ s8 σ8 H8 _ I8 q8) fun c s9 ⟨H9, I9, q9⟩ => ?_
      cases c with
      | false => exact ended I9 q9
      | true =>
        refine thnF (pk.run _ s9 σ8 H9 _ I9 q9) fun z s10 ⟨yk, H10, I10, r10, q10⟩ => thnF (pv.run _ s10 σ8 H10 _ I10 q10) fun z2 s11 ⟨yv, H11, I11, r11, kvs, k, b, ek, hb, hD11, hz11, nx⟩ => ?_
        subst ek
        cases (show z = Value.ref b from r10)
        exact dset_t (X := X.blk s3 H3 scope ce fp) I11 hu hD11 hz11 hb r11 fun s12 I12 => ended I12 nx
  subst ece
  exact codeAny_compStart_dict body (T.self X.A 0 _ _ _ at4 body)
end
end Q
namespace Q
open PySem PySem.Spec PyProof.Rows L2
/-! ### frozen dicts with tuple keys: len, isinstance, reading, freezing, comprehension -/
section
variable {X : Cx} {K : PySem.W.Frag} {H : Hp} {Qv : VK} {a d : Addr} {od : Obj} {kvs : List (List Key × V)}
def rLenF : List V → Hp → VK → Prop := fun xs H Q => ∃ (p : Addr) (od : Obj) (kvs : List (List Key × V)), xs = [.ref p] ∧ H p = some (.frz od (.dT kvs)) ∧ Q (.int (kvs.length : Nat)) H
theorem q_lenF : CallR X (.builtin "len") rLenF := by
  intro pins s σ H xs us Q I r ⟨p, od, kvs, ex, hp, q⟩
  subst ex
  obtain ⟨u, rfl, rx⟩ := vals1 r
  obtain rfl : u = .ref p := rx
  obtain ⟨z, hd, ys, rel, dd⟩ := dt_rd I.hok (.inr ⟨od, hp⟩)
  have le : kvs.length = ys.length := Paired.length rel
  refine call_len_dictH hd dd (by rw [← le]; rw [sizeLine_eq] at z; omega) ?_
  rw [← le]
  exact ⟨.int (kvs.length : Nat), H, I.tok _, ⟨_, rfl⟩, q⟩
theorem r_lenF (h : H a = some (.frz od (.dT kvs))) (q : Qv (.int (kvs.length : Nat)) H) : rLenF [.ref a] H Qv := ⟨a, od, kvs, rfl, h, q⟩
def rIsiF : List V → Hp → VK → Prop := fun xs H Q => ∃ (p : Addr) (od : Obj) (kvs : List (List Key × V)), xs = [.ref p, .ty "dict"] ∧ H p = some (.frz od (.dT kvs)) ∧ Q (.bl true) H
theorem q_isiF : CallR X (.builtin "isinstance") rIsiF := by
  intro pins s σ H xs us Q I r ⟨p, od, kvs, ex, hp, q⟩
  subst ex
  obtain ⟨u1, u2, rfl, r1, r2⟩ := vals2 r
  cases (show u1 = Value.ref p from r1)
  cases (show u2 = Value.type "dict" from r2)
  obtain ⟨_, _, _, xs, _, o, es, ep, h1, h2, _⟩ := (show ObjOk X.prog X.w H s.heap p (.frz od (.dT kvs)) from I.hok p _ hp)
  exact PySem.W.kia_one PySem.W.kitx_dict I.kIn ⟨o, h1, h2.1⟩ kt_dict_dict (by simp) fun tk => ⟨.bl true, H, I.tok tk, rfl, q⟩
theorem r_isiF (h : H a = some (.frz od (.dT kvs))) (q : Qv (.bl true) H) : rIsiF [.ref a, .ty "dict"] H Qv := ⟨a, od, kvs, rfl, h, q⟩
theorem DGet.frzT {b : Addr} {k : List Key} {o : Option V} (h : H d = some (.frz od (.dT kvs))) (hb : H b = some (.tup (k.map kV))) (e : valV kvs k = o) : DGet H d (.ref b) o := .inr ⟨kvs, k, b, .inr ⟨od, h⟩, rfl, hb, e.symm⟩
theorem r_frzT {e : En} {G : Hp} {M : List Addr} (w : Wd e G H (d :: M)) (h0 : e.H0 d = none) (h : H d = some (.dT kvs)) (k : ∀ od G' H', Wd e G' H' M → Same G G' → But d H H' → G' d = some (.frz od (.dT kvs)) → Qv (.ref d) H') : FrzGo (.ref d) H Qv := by
  refine ⟨d, _, rfl, h, trivial, fun od => ?_⟩
  obtain ⟨w2, s2⟩ := wd_freeze (wd_mut (o := .frz od (.dT kvs)) w List.mem_cons_self) upd_same h0
  exact k od _ _ w2 s2 but_upd upd_same
theorem putT_new {k : List Key} (v : V) (h : valV kvs k = none) : putK kvs k v = kvs ++ [(k, v)] := by
  unfold putK
  rw [show (kvs.any fun p => decide (p.1 = k)) = false by rw [valV_any k kvs, h]; rfl]
  rfl
end
/-! a walk that fills such a dict -/
def DtAdd (Dd : Addr) (P : Hp → Prop) (y z : V) (H5 : Hp) : Prop := ∃ kvs k b, y = .ref b ∧ H5 b = some (.tup (k.map kV)) ∧ H5 Dd = some (.dT kvs) ∧ kvs.length < sizeLine ∧ P (upd H5 Dd (.dT (putK kvs k z)))
def DtT (Dd : Addr) (P : Hp → Prop) (tt : TT) (tk tv : TE) (vs : List Nat) (σ : L2.St) : L2.St → Hp → Prop := fun σ2 H2 => wipe σ2 vs = wipe σ vs ∧ tt σ2 H2 fun b H3 => if b = true then tk σ2 H3 fun y H4 => tv σ2 H4 fun z H5 => DtAdd Dd P y z H5 else P H3
def DtGo (J : It) (g : TG) (tt : TT) (tk tv : TE) (vs : List Nat) (σ : L2.St) (Q : VK) (H1 : Hp) : Prop := ∀ D, H1 D = none → ∃ W : Nat → Nat → Hp → Prop, (∃ m, W 0 m (upd H1 D (.dT []))) ∧ ∀ i m H, W i m H →
  (J.stop i H ∧ Q (.ref D) H) ∨ (J.go i H ∧ ∃ Nx : Hp → Prop, (∀ H', Nx H' → ∃ m', m' < m ∧ W (i + 1) m' H') ∧ ∀ x H', J.yld i H x H' → g x (wipe σ vs) H' (DtT D Nx tt tk tv vs σ))
theorem r_dt {wi : TI} {g : TG} {tt : TT} {tk tv : TE} {vs : List Nat} {σ : L2.St} {H : Hp} {Q : VK} (q : wi σ H fun J H1 => DtGo J g tt tk tv vs σ Q H1) : tDcT wi g tt tk tv vs σ H Q := q
theorem r_dtT {Dd : Addr} {P : Hp → Prop} {tt : TT} {tk tv : TE} {vs : List Nat} {σ σ2 : L2.St} {H : Hp} (h : wipe σ2 vs = wipe σ vs) (q : tt σ2 H fun b H3 => if b = true then tk σ2 H3 fun y H4 => tv σ2 H4 fun z H5 => DtAdd Dd P y z H5 else P H3) : DtT Dd P tt tk tv vs σ σ2 H := ⟨h, q⟩
def DtP (e : En) (G : Hp) (M : List Addr) (R : Nat → List (List Key × V) → Hp → Hp → Prop) (Dd : Addr) (i : Nat) (H : Hp) : Prop := ∃ kvs Gi, Wd e Gi H (Dd :: M) ∧ Same G Gi ∧ H Dd = some (.dT kvs) ∧ kvs.length ≤ i ∧ R i kvs Gi H
theorem r_dtAdd {e : En} {G Gy H4 : Hp} {M : List Addr} {R : Nat → List (List Key × V) → Hp → Hp → Prop} {Dd b : Addr} {i : Nat} {kvs : List (List Key × V)} {k : List Key} {z : V} (w : Wd e Gy H4 (Dd :: M)) (s : Same G Gy) (h : H4 Dd = some (.dT kvs)) (hl : kvs.length ≤ i) (hi : i ≤ 1000000) (hb : H4 b = some (.tup (k.map kV)))
    (go : ∀ H5, Wd e Gy H5 (Dd :: M) → But Dd H4 H5 → R (i + 1) (putK kvs k z) Gy H5) : DtAdd Dd (DtP e G M R Dd (i + 1)) (.ref b) z H4 := by
  have w5 := wd_mut (o := .dT (putK kvs k z)) w List.mem_cons_self
  exact ⟨kvs, k, b, rfl, hb, h, Nat.lt_of_le_of_lt (Nat.le_trans hl hi) (by decide), _, Gy, w5, s, upd_same, Nat.le_trans (length_putK _ _ _) (Nat.add_le_add_right hl 1), go _ w5 but_upd⟩
theorem dt_go {e : En} {G H1 : Hp} {M : List Addr} {J : It} {n : Nat} {Gd : Hp → Prop} {Y : Nat → Hp → V → Hp → Prop} {g : TG} {tt : TT} {tk tv : TE} {vs : List Nat} {σ : L2.St} {Q : VK} (w : Wd e G H1 M) (hw : Walk J n Gd Y) (R : Nat → List (List Key × V) → Hp → Hp → Prop)
    (h0 : ∀ (Dd : Addr) (H : Hp), Wd e G H (Dd :: M) → Same H1 H → (∀ m ∈ M, Dd ≠ m) → R 0 [] G H)
    (hG : ∀ i kvs Gi H, Wd e Gi H M → Same G Gi → R i kvs Gi H → Gd H)
    (hs : ∀ (Dd : Addr) i kvs Gi H x H', i < n → kvs.length ≤ i → Wd e Gi H (Dd :: M) → Same G Gi → H Dd = some (.dT kvs) → (∀ m ∈ M, Dd ≠ m) → R i kvs Gi H → Y i H x H' → g x (wipe σ vs) H' (DtT Dd (DtP e G M R Dd (i + 1)) tt tk tv vs σ))
    (hd : ∀ (p : Addr) kvs Gi H, kvs.length ≤ n → Wd e Gi H (p :: M) → Same G Gi → H p = some (.dT kvs) → e.H0 p = none → (∀ m ∈ M, p ≠ m) → R n kvs Gi H → Q (.ref p) H) : DtGo J g tt tk tv vs σ Q H1 := by
  intro Dd hD
  have w1 := wd_layM (o := .dT []) w hD
  have nm : ∀ m ∈ M, Dd ≠ m := fun m hm => w.nm hD hm
  refine ⟨fun i m H => m = n - i ∧ i ≤ n ∧ DtP e G M R Dd i H, ⟨n, by simp, Nat.zero_le _, [], G, w1, Same.refl _, upd_same, Nat.le_refl _, h0 Dd _ w1 (same_upd hD) nm⟩, ?_⟩
  rintro i m H ⟨rfl, hi, kvs, Gi, w2, s2, h2, l2, r⟩
  have gd := hG i kvs Gi H (wd_drop w2 (List.sublist_cons_self _ _)) s2 r
  by_cases lt : i < n
  · exact .inr ⟨hw.goes i H lt gd, DtP e G M R Dd (i + 1), fun H' p' => ⟨n - (i + 1), by omega, rfl, lt, p'⟩, fun x H' y => hs Dd i kvs Gi H x H' lt l2 w2 s2 h2 nm r (hw.yields i H x H' lt gd y)⟩
  · obtain rfl : i = n := by omega
    exact .inl ⟨hw.stops H gd, hd Dd kvs Gi H l2 w2 s2 h2 (w.n0 hD) nm r⟩
/-! ### a comprehension with two clauses -/
def L2P (e : En) (G : Hp) (M : List Addr) (R : List V → Hp → Hp → Prop) (Dd : Addr) (H : Hp) : Prop := ∃ acc Gi, Wd e Gi H (Dd :: M) ∧ Same G Gi ∧ H Dd = some (.lst acc) ∧ R acc Gi H
def L2In (J1 : It) (g1 : TG) (tt1 : TT) (te : TE) (Dd : Addr) (vs1 : List Nat) (σ2 : L2.St) (Nx : Hp → Prop) (H4 : Hp) : Prop := ∃ W1 : Nat → Nat → Hp → Prop, (∃ m, W1 0 m H4) ∧ ∀ j k H, W1 j k H →
  (J1.stop j H ∧ Nx H) ∨ (J1.go j H ∧ ∃ Nx1 : Hp → Prop, (∀ H', Nx1 H' → ∃ k', k' < k ∧ W1 (j + 1) k' H') ∧ ∀ x H', J1.yld j H x H' → g1 x (wipe σ2 vs1) H' (LcT Dd Nx1 tt1 te vs1 σ2))
def L2T (Dd : Addr) (P : Hp → Prop) (tt : TT) (wi1 : TI) (g1 : TG) (tt1 : TT) (te : TE) (vs vs1 : List Nat) (σ : L2.St) : L2.St → Hp → Prop := fun σ2 H2 => wipe σ2 vs = wipe σ vs ∧ tt σ2 H2 fun b H3 => if b = true then wi1 σ2 H3 fun J1 H4 => L2In J1 g1 tt1 te Dd vs1 σ2 P H4 else P H3
def L2Go (J : It) (g : TG) (tt : TT) (wi1 : TI) (g1 : TG) (tt1 : TT) (te : TE) (vs vs1 : List Nat) (σ : L2.St) (Q : VK) (H1 : Hp) : Prop := ∀ D, H1 D = none → ∃ W : Nat → Nat → Hp → Prop, (∃ m, W 0 m (upd H1 D (.lst []))) ∧ ∀ i m H, W i m H →
  (J.stop i H ∧ Q (.ref D) H) ∨ (J.go i H ∧ ∃ Nx : Hp → Prop, (∀ H', Nx H' → ∃ m', m' < m ∧ W (i + 1) m' H') ∧ ∀ x H', J.yld i H x H' → g x (wipe σ vs) H' (L2T D Nx tt wi1 g1 tt1 te vs vs1 σ))
theorem r_lc2 {wi wi1 : TI} {g g1 : TG} {tt tt1 : TT} {te : TE} {vs vs1 : List Nat} {σ : L2.St} {H : Hp} {Q : VK} (q : wi σ H fun J H1 => L2Go J g tt wi1 g1 tt1 te vs vs1 σ Q H1) : tLc2 wi g tt wi1 g1 tt1 te vs vs1 σ H Q := q
theorem r_l2T {Dd : Addr} {P : Hp → Prop} {tt tt1 : TT} {wi1 : TI} {g1 : TG} {te : TE} {vs vs1 : List Nat} {σ σ2 : L2.St} {H : Hp} (h : wipe σ2 vs = wipe σ vs) (q : tt σ2 H fun b H3 => if b = true then wi1 σ2 H3 fun J1 H4 => L2In J1 g1 tt1 te Dd vs1 σ2 P H4 else P H3) : L2T Dd P tt wi1 g1 tt1 te vs vs1 σ σ2 H := ⟨h, q⟩
theorem r_l2Add {e : En} {G Gy H4 : Hp} {M : List Addr} {R : List V → Hp → Hp → Prop} {Dd : Addr} {acc : List V} {y : V} (w : Wd e Gy H4 (Dd :: M)) (s : Same G Gy) (h : H4 Dd = some (.lst acc)) (hl : acc.length < 1000000)
    (k : ∀ H5, Wd e Gy H5 (Dd :: M) → But Dd H4 H5 → R (acc ++ [y]) Gy H5) : LcAdd Dd (L2P e G M R Dd) y H4 := by
  have w5 := wd_mut (o := .lst (acc ++ [y])) w List.mem_cons_self
  exact ⟨acc, h, Nat.lt_of_lt_of_le hl (by decide), _, Gy, w5, s, upd_same, k _ w5 but_upd⟩
theorem in_go {e : En} {G : Hp} {M : List Addr} {J1 : It} {m : Nat} {Gd : Hp → Prop} {Y : Nat → Hp → V → Hp → Prop} {g1 : TG} {tt1 : TT} {te : TE} {Dd : Addr} {vs1 : List Nat} {σ2 : L2.St} {Nx : Hp → Prop} {H4 : Hp} (hw : Walk J1 m Gd Y) (R : Nat → List V → Hp → Hp → Prop) (h0 : L2P e G M (R 0) Dd H4)
    (hG : ∀ j acc Gi H, Wd e Gi H (Dd :: M) → Same G Gi → R j acc Gi H → Gd H)
    (hs : ∀ j acc Gi H x H', j < m → Wd e Gi H (Dd :: M) → Same G Gi → H Dd = some (.lst acc) → R j acc Gi H → Y j H x H' → g1 x (wipe σ2 vs1) H' (LcT Dd (L2P e G M (R (j + 1)) Dd) tt1 te vs1 σ2))
    (hd : ∀ H, L2P e G M (R m) Dd H → Nx H) : L2In J1 g1 tt1 te Dd vs1 σ2 Nx H4 := by
  refine ⟨fun j k H => k = m - j ∧ j ≤ m ∧ L2P e G M (R j) Dd H, ⟨m, by simp, Nat.zero_le _, h0⟩, ?_⟩
  rintro j k H ⟨rfl, hj, acc, Gi, w2, s2, h2, r⟩
  have gd := hG j acc Gi H w2 s2 r
  by_cases lt : j < m
  · exact .inr ⟨hw.goes j H lt gd, L2P e G M (R (j + 1)) Dd, fun H' p' => ⟨m - (j + 1), by omega, rfl, lt, p'⟩, fun x H' y => hs j acc Gi H x H' lt w2 s2 h2 r (hw.yields j H x H' lt gd y)⟩
  · obtain rfl : j = m := by omega
    exact .inl ⟨hw.stops H gd, hd H ⟨acc, Gi, w2, s2, h2, r⟩⟩
theorem lc2_go {e : En} {G H1 : Hp} {M : List Addr} {J : It} {n : Nat} {Gd : Hp → Prop} {Y : Nat → Hp → V → Hp → Prop} {g g1 : TG} {tt tt1 : TT} {wi1 : TI} {te : TE} {vs vs1 : List Nat} {σ : L2.St} {Q : VK} (w : Wd e G H1 M) (hw : Walk J n Gd Y) (R : Nat → List V → Hp → Hp → Prop)
    (h0 : ∀ (Dd : Addr) (H : Hp), Wd e G H (Dd :: M) → Same H1 H → (∀ m ∈ M, Dd ≠ m) → R 0 [] G H)
    (hG : ∀ i acc Gi H, Wd e Gi H M → Same G Gi → R i acc Gi H → Gd H)
    (hs : ∀ (Dd : Addr) i acc Gi H x H', i < n → Wd e Gi H (Dd :: M) → Same G Gi → H Dd = some (.lst acc) → (∀ m ∈ M, Dd ≠ m) → R i acc Gi H → Y i H x H' → g x (wipe σ vs) H' (L2T Dd (L2P e G M (R (i + 1)) Dd) tt wi1 g1 tt1 te vs vs1 σ))
    (hd : ∀ (p : Addr) acc Gi Gp H, Wd e Gp H M → Same G Gp → Same Gi Gp → Gp p = some (.lst acc) → R n acc Gi H → Q (.ref p) H) : L2Go J g tt wi1 g1 tt1 te vs vs1 σ Q H1 := by
  intro Dd hD
  have w1 := wd_layM (o := .lst []) w hD
  have nm : ∀ m ∈ M, Dd ≠ m := fun m hm => w.nm hD hm
  refine ⟨fun i m H => m = n - i ∧ i ≤ n ∧ L2P e G M (R i) Dd H, ⟨n, by simp, Nat.zero_le _, [], G, w1, Same.refl _, upd_same, h0 Dd _ w1 (same_upd hD) nm⟩, ?_⟩
  rintro i m H ⟨rfl, hi, acc, Gi, w2, s2, h2, r⟩
  have gd := hG i acc Gi H (wd_drop w2 (List.sublist_cons_self _ _)) s2 r
  by_cases lt : i < n
  · exact .inr ⟨hw.goes i H lt gd, L2P e G M (R (i + 1)) Dd, fun H' p' => ⟨n - (i + 1), by omega, rfl, lt, p'⟩, fun x H' y => hs Dd i acc Gi H x H' lt w2 s2 h2 nm r (hw.yields i H x H' lt gd y)⟩
  · obtain rfl : i = n := by omega
    obtain ⟨w3, s3⟩ := wd_freeze w2 h2 (w.n0 hD)
    exact .inl ⟨hw.stops H gd, hd Dd acc Gi _ H w3 (s2.trans s3) s3 upd_same r⟩
end Q
namespace Q
open PySem PySem.Spec PyProof.Rows L2
/-! ### lives listed, histories -/
def lifesOf (bt : List (Str × List Int)) : List (Str × Int) := bt.flatMap fun q => q.2.map fun b => (q.1, b)
def keyOf (l : Str × Int) : List Key := [.inr l.1, .inl l.2]
def turnKvs (tn : Str → Int → V) (ls : List (Str × Int)) : List (List Key × V) := ls.map fun l => (keyOf l, tn l.1 l.2)
def LifeAt (G : Hp) : List Addr → List (Str × Int) → Prop := Paired fun p l => G p = some (.tup [.str l.1, .int l.2])
theorem keyOf_inj {a b : Str × Int} (h : keyOf a = keyOf b) : a = b := by
  obtain ⟨a1, a2⟩ := a
  obtain ⟨b1, b2⟩ := b
  unfold keyOf at h
  simp at h
  rw [h.1, h.2]
theorem paired_get {α β : Type} {R : α → β → Prop} : ∀ {xs : List α} {ys : List β} {i : Nat} {x : α} {y : β}, Paired R xs ys → xs[i]? = some x → ys[i]? = some y → R x y
  | _, _, 0, _, _, .cons h _, e, f => by cases e; cases f; exact h
  | _, _, i + 1, _, _, .cons _ t, e, f => paired_get t (by simpa using e) (by simpa using f)
theorem paired_snoc {α β : Type} {R : α → β → Prop} {xs : List α} {ys : List β} {x : α} {y : β} (h : Paired R xs ys) (r : R x y) : Paired R (xs ++ [x]) (ys ++ [y]) := by
  induction h with
  | nil => exact .cons r .nil
  | cons h _ ih => exact .cons h ih
section
variable {K : PySem.W.Frag} {G G' : Hp} {ps : List Addr} {ls : List (Str × Int)} {bt : List (Str × List Int)} {tn : Str → Int → V}
theorem LifeAt.same (h : LifeAt G ps ls) (s : Same G G') : LifeAt G' ps ls := Paired.mapP h fun _ _ e => s _ _ e
theorem LifeAt.len (h : LifeAt G ps ls) : ps.length = ls.length := Paired.length h
theorem LifeAt.snoc (h : LifeAt G ps ls) {p : Addr} {t : Str} {b : Int} (e : G p = some (.tup [.str t, .int b])) : LifeAt G (ps ++ [p]) (ls ++ [(t, b)]) := paired_snoc h e
theorem lifes_snoc {q : Str × List Int} {i : Nat} (h : bt[i]? = some q) : lifesOf (bt.take (i + 1)) = lifesOf (bt.take i) ++ q.2.map fun b => (q.1, b) := by
  rw [take_snoc h]
  simp [lifesOf]
theorem lifes_mem {l : Str × Int} (nd : (bt.map (·.1)).Nodup) (h : l ∈ lifesOf bt) : ∃ ns, nsOf bt l.1 = some ns ∧ l.2 ∈ ns := by
  unfold lifesOf at h
  obtain ⟨q, hq, hl⟩ := List.mem_flatMap.mp h
  obtain ⟨b, hb, e⟩ := List.mem_map.mp hl
  subst e
  exact ⟨q.2, nsOf_at nd hq, hb⟩
theorem lifes_in {t : Str} {b : Int} {ns : List Int} (h : nsOf bt t = some ns) (hb : b ∈ ns) : (t, b) ∈ lifesOf bt := by
  unfold lifesOf
  exact List.mem_flatMap.mpr ⟨(t, ns), nsOf_mem h, List.mem_map.mpr ⟨b, hb, rfl⟩⟩
theorem nodup_pair (t : Str) : ∀ {ns : List Int}, ns.Nodup → (ns.map fun b => (t, b)).Nodup
  | [], _ => List.nodup_nil
  | n :: ns, h => by
    obtain ⟨a, b⟩ := List.nodup_cons.mp h
    refine List.nodup_cons.mpr ⟨fun m => ?_, nodup_pair t b⟩
    obtain ⟨u, hu, e⟩ := List.mem_map.mp m
    cases e
    exact a hu
theorem lifes_nodup : ∀ {bt : List (Str × List Int)}, (bt.map (·.1)).Nodup → (∀ q ∈ bt, q.2.Nodup) → (lifesOf bt).Nodup
  | [], _, _ => List.nodup_nil
  | q :: bt, h1, h2 => by
    obtain ⟨a, b⟩ := List.nodup_cons.mp (show (q.1 :: bt.map (·.1)).Nodup from h1)
    have ih := lifes_nodup b fun r hr => h2 r (List.mem_cons_of_mem _ hr)
    have e : lifesOf (q :: bt) = (q.2.map fun b => (q.1, b)) ++ lifesOf bt := by simp [lifesOf]
    rw [e, List.nodup_append]
    refine ⟨?_, ih, fun x hx y hy z => ?_⟩
    · exact nodup_pair q.1 (h2 q List.mem_cons_self)
    · obtain ⟨c, _, rfl⟩ := List.mem_map.mp hx
      unfold lifesOf at hy
      obtain ⟨r, hr, hy⟩ := List.mem_flatMap.mp hy
      obtain ⟨d, _, e2⟩ := List.mem_map.mp hy
      rw [← z] at e2
      have e3 : r.1 = q.1 := (Prod.mk.inj e2).1
      exact a (List.mem_map.mpr ⟨r, hr, e3⟩)
end
section
variable {K : PySem.W.Frag} {C Cl CH a h p : Addr} {e : En} {G H : Hp} {M : List Addr} {bt : List (Str × List Int)} {t : Str} {b : Int} {x : V} {ty : Value} {Q : VK} {E : XK} {tn : Str → Int → V} {ns : List Int}
structure BtOk (bt : List (Str × List Int)) : Prop where
  nd : (bt.map (·.1)).Nodup
  len : ∀ q ∈ bt, q.2.length ≤ 1000
  all : (lifesOf bt).length ≤ 1000
  nds : ∀ q ∈ bt, q.2.Nodup
theorem LvAt.at_ {kvs : List (Key × V)} (h : LvAt G kvs bt) : ∀ {i : Nat} {k : Key} {v : V}, kvs[i]? = some (k, v) → ∃ s ra ns, k = .inr s ∧ v = .ref ra ∧ bt[i]? = some (s, ns) ∧ G ra = some (.tup (ns.map V.int)) := by
  induction h with
  | nil => intro i k v e; simp at e
  | cons h1 _ ih =>
    intro i k v e
    cases i with
    | zero => cases e; exact ⟨_, _, _, rfl, rfl, rfl, h1⟩
    | succ i => exact ih (by simpa using e)
theorem LvAt.read {kvs : List (Key × V)} {i : Nat} {s : Str} (h : LvAt G kvs bt) (nd : (bt.map (·.1)).Nodup) (e : bt[i]? = some (s, ns)) : ∃ ra, valV kvs (.inr s) = some (.ref ra) ∧ G ra = some (.tup (ns.map V.int)) := by
  have hn := nsOf_at nd (List.mem_of_getElem? e)
  rcases h.val s with ⟨e1, _⟩ | ⟨ra, ms, e1, e2, e3⟩
  · rw [hn] at e1; cases e1
  · rw [hn] at e1; cases e1; exact ⟨ra, e2, e3⟩
theorem LvAt.len {kvs : List (Key × V)} (h : LvAt G kvs bt) : kvs.length = bt.length := by
  induction h with
  | nil => rfl
  | cons _ _ ih => simp [ih]
theorem lifes_take (bt : List (Str × List Int)) (i : Nat) : (lifesOf (bt.take i)).length ≤ (lifesOf bt).length := by
  have e : lifesOf bt = lifesOf (bt.take i) ++ lifesOf (bt.drop i) := by
    unfold lifesOf
    rw [← List.flatMap_append, List.take_append_drop]
  rw [e, List.length_append]
  omega
def spListed (C : Addr) : Sp := fun vs H Q _ => ∃ (G : Hp) (a : Addr) (bt : List (Str × List Int)), vs = [.ref a] ∧ Gh G H ∧ LivesAt C G a bt ∧ BtOk bt ∧ Ret G H (fun v G' => ∃ p ps, v = .ref p ∧ G' p = some (.tup (ps.map V.ref)) ∧ LifeAt G' ps (lifesOf bt)) Q
theorem u_listed (w : Wd e G H M) (hL : LivesAt C G a bt) (hn : BtOk bt) (k : ∀ p ps G' H', Wd e G' H' M → Same G G' → Same H H' → G' p = some (.tup (ps.map V.ref)) → LifeAt G' ps (lifesOf bt) → Q (.ref p) H') : spListed C [.ref a] H Q E :=
  ⟨G, a, bt, rfl, w.gh, hL, hn, ret_use w fun v G' H' w' s1 s2 ⟨p, ps, e1, h1, h2⟩ => by subst e1; exact k p ps G' H' w' s1 s2 h1 h2⟩
def turnOk (ns : List Int) (b : Int) : V → Bool
  | .non => true
  | .int i => momV (.int i) b && decide (i ≤ nextOf ns b)
  | _ => false
def spIsTurn (K : PySem.W.Frag) (C : Addr) : Sp := fun vs H Q _ => ∃ (G : Hp) (a p : Addr) (bt : List (Str × List Int)) (t : Str) (b : Int) (ns : List Int) (x : V) (ty : Value), vs = [.ref a, .ref p, x] ∧ Gh G H ∧ LivesAt C G a bt ∧ (∀ q ∈ bt, q.2.length ≤ 1000) ∧ G p = some (.tup [.str t, .int b]) ∧ nsOf bt t = some ns ∧ b ∈ ns ∧ Kd K G x ty ∧ Ret G H (fun v _ => v = .bl (turnOk ns b x)) Q
theorem u_isTurn (w : Wd e G H M) (hL : LivesAt C G a bt) (hb : ∀ q ∈ bt, q.2.length ≤ 1000) (hp : G p = some (.tup [.str t, .int b])) (hn : nsOf bt t = some ns) (hm : b ∈ ns) (hx : Kd K G x ty) (k : ∀ G' H', Wd e G' H' M → Same G G' → Same H H' → Q (.bl (turnOk ns b x)) H') : spIsTurn K C [.ref a, .ref p, x] H Q E :=
  ⟨G, a, p, bt, t, b, ns, x, ty, rfl, w.gh, hL, hb, hp, hn, hm, hx, ret_use w fun v G' H' w' s1 s2 e1 => by subst e1; exact k G' H' w' s1 s2⟩
/-- the turns in a dict are right, one for each life -/
structure TurnsOk (K : PySem.W.Frag) (G : Hp) (bt : List (Str × List Int)) (tn : Str → Int → V) (kvs : List (List Key × V)) : Prop where
  len : kvs.length = (lifesOf bt).length
  keys : ∀ kv ∈ kvs, ∃ l ∈ lifesOf bt, kv.1 = keyOf l
  val : ∀ l ∈ lifesOf bt, valV kvs (keyOf l) = some (tn l.1 l.2)
  ok : ∀ l ∈ lifesOf bt, turnOk ((nsOf bt l.1).getD []) l.2 (tn l.1 l.2) = true
  kd : ∀ l ∈ lifesOf bt, ∃ ty, Kd K G (tn l.1 l.2) ty
theorem TurnsOk.same {G' : Hp} {kvs : List (List Key × V)} (o : TurnsOk K G bt tn kvs) (s : Same G G') : TurnsOk K G' bt tn kvs := ⟨o.len, o.keys, o.val, o.ok, fun l hl => (o.kd l hl).elim fun t k => ⟨t, k.same s⟩⟩
structure HiC (K : PySem.W.Frag) (C : Addr) : Prop where
  c : Cls K C
  n1 : NoAttr K C "of_lives"
  n2 : NoAttr K C "by_life"
def HistAt (CH C : Addr) (G : Hp) (h a : Addr) (bt : List (Str × List Int)) (tn : Str → Int → V) : Prop := ∃ dx D od, G h = some (.ins CH dx [("of_lives", .ref a), ("by_life", .ref D)]) ∧ G D = some (.frz od (.dT (turnKvs tn (lifesOf bt)))) ∧ LivesAt C G a bt
theorem HistAt.same {G' : Hp} (o : HistAt CH C G h a bt tn) (s : Same G G') : HistAt CH C G' h a bt tn := by
  obtain ⟨dx, D, od, h1, h2, h3⟩ := o
  exact ⟨dx, D, od, s _ _ h1, s _ _ h2, h3.same s⟩
def spHist (K : PySem.W.Frag) (CH C : Addr) : Sp := fun vs H Q _ => ∃ (G : Hp) (x dx a d : Addr) (od : Obj) (kvs : List (List Key × V)) (bt : List (Str × List Int)) (tn : Str → Int → V), vs = [.ref x, .ref a, .ref d] ∧ Gh G H ∧ G x = none ∧ H x = some (.ins CH dx []) ∧ LivesAt C G a bt ∧ BtOk bt ∧
  G d = some (.frz od (.dT kvs)) ∧ TurnsOk K G bt tn kvs ∧ ∀ (G' H' : Hp) (D : Addr) (od2 : Obj), But x H H' → Gh G' H' → Same G G' → (∀ b, H b ≠ none → G' b = G b) → G' D = some (.frz od2 (.dT (turnKvs tn (lifesOf bt)))) → H' x = some (.ins CH dx [("of_lives", .ref a), ("by_life", .ref D)]) → Q .non H'
theorem u_hist {d : Addr} {od : Obj} {kvs : List (List Key × V)} {Qv : VK} (w : Wd e G H M) (hL : LivesAt C G a bt) (ob : BtOk bt) (hd : G d = some (.frz od (.dT kvs))) (ot : TurnsOk K G bt tn kvs) (k : ∀ h G' H', Wd e G' H' M → Same G G' → Same H H' → HistAt CH C G' h a bt tn → Qv (.ref h) H') : MakeGo CH (spHist K CH C) [.ref a, .ref d] E H Qv := by
  refine make_go w fun x dx G1 H1 hx nm s1 t1 w1 h1 n0 => ?_
  have keeps : ∀ {H2 : Hp}, But x H1 H2 → Same H H2 := fun {H2} b2 c o h => by
    refine b2 c o (fun q => ?_) (t1 _ _ h)
    subst q
    rw [hx] at h
    cases h
  refine ⟨G1, x, dx, a, d, od, kvs, bt, tn, rfl, w1.gh, (w1.mu x List.mem_cons_self).1, h1, hL.same s1, ob, s1 _ _ hd, ot.same s1, fun G2 H2 D od2 b2 s2 s3 fr hD h2 => ⟨rfl, ?_⟩⟩
  have w2 := wd_made w1 b2 h2 rfl s2 s3 fr
  obtain ⟨w4, s4⟩ := wd_freeze w2 h2 n0
  exact k x _ H2 w4 (s1.trans (s3.trans s4)) (keeps b2) ⟨dx, D, od2, upd_same, s4 _ _ hD, hL.same (s1.trans (s3.trans s4))⟩
theorem valV_turn (nd : (lifesOf bt).Nodup) {l : Str × Int} (h : l ∈ lifesOf bt) : valV (turnKvs tn (lifesOf bt)) (keyOf l) = some (tn l.1 l.2) := by
  unfold turnKvs
  generalize lifesOf bt = ls at *
  induction ls with
  | nil => cases h
  | cons m ls ih =>
    obtain ⟨n1, n2⟩ := List.nodup_cons.mp nd
    rcases List.mem_cons.mp h with e | hm
    · subst e
      exact valV_pos rfl
    · have ne : ¬ keyOf m = keyOf l := fun z => n1 (by rw [keyOf_inj z]; exact hm)
      exact (valV_neg (p := (keyOf m, tn m.1 m.2)) ne).trans (ih n2 hm)
end
end Q
namespace Q
open PySem PySem.Spec PyProof.Rows L2
/-! ### a text joined; x or y by truth -/
section
variable {K : PySem.W.Frag} {σ : L2.St} {H : Hp} {Qv : VK} {ta tb : TE} {x : V} {xs : List V} {p : Addr} {a : Str} {ys : List Str}
def JoinGo (K : PySem.W.Frag) : V → List V → Hp → VK → Prop := fun x xs H Qv => ∃ a p, ∃ ys : List Str, x = .str a ∧ xs = [.ref p] ∧ (SqL K H p (ys.map V.str) ∨ SqT K H p (ys.map V.str)) ∧ (ys.map (·.length)).sum + ys.length * a.length ≤ 16777216 ∧ Qv (.str (Txt.join a ys)) H
theorem pe_joinQ {X : Cx} {o e : Expr} {to te : TE} {apos pos : Pos} (ho : PE X o to) (he : PE X e te) (hs : starEach [e] X.env = [(false, eval e X.env)] := by rfl) (hb : attributeBase o "join" X.env (eval o X.env) = eval o X.env := by rfl) (hl : (apos.endLine == pos.line) = true := by rfl) :
    PE X (.Call (.Attribute o "join" apos) [e] [] pos) (tM1 (JoinGo X.K) to te) := pe_join ho he hs hb hl
theorem r_tM1 {r : V → List V → Hp → VK → Prop} (q : ta σ H fun x H1 => (∃ a, x = .str a) ∧ tb σ H1 fun y H2 => r x [y] H2 Qv) : tM1 r ta tb σ H Qv := q
theorem r_strAnd {R : Prop} (q : R) : (∃ b, V.str a = .str b) ∧ R := ⟨⟨a, rfl⟩, q⟩
theorem r_joinL (h : SqL K H p (ys.map V.str)) (b : (ys.map (·.length)).sum + ys.length * a.length ≤ 16777216) (q : Qv (.str (Txt.join a ys)) H) : JoinGo K (.str a) [.ref p] H Qv := ⟨a, p, ys, rfl, rfl, .inl h, b, q⟩
theorem r_tOrT (q : ta σ H fun x H1 => ∃ k, TruV K x H1 k ∧ if k = true then Qv x H1 else tb σ H1 Qv) : tOrT K ta tb σ H Qv := q
theorem r_truL {R : Bool → Prop} (h : SqL K H p xs) (q : R (!xs.isEmpty)) : ∃ k, TruV K (.ref p) H k ∧ R k := ⟨_, .inl ⟨xs, h, rfl⟩, q⟩
end
end Q
namespace Q
open PySem PySem.Spec PyProof.Rows L2
/-! ### a life asked for by a tuple of the heap -/
section
variable {K : PySem.W.Frag} {C a p : Addr} {e : En} {G H : Hp} {M : List Addr} {bt : List (Str × List Int)} {s : Str} {i : Int} {Qv : VK} {E : XK}
def spHasK (C : Addr) : Sp := fun vs H Q _ => ∃ (G : Hp) (a p : Addr) (bt : List (Str × List Int)) (s : Str) (i : Int), vs = [.ref a, .ref p] ∧ Gh G H ∧ LivesAt C G a bt ∧ H p = some (.tup [.str s, .int i]) ∧ Ret G H (fun v _ => v = .bl (isLife bt (some [.str s, .int i]))) Q
theorem u_hasK (w : Wd e G H M) (h : LivesAt C G a bt) (hp : H p = some (.tup [.str s, .int i])) (k : ∀ G' H', Wd e G' H' M → Same G G' → Same H H' → Qv (.bl (isLife bt (some [.str s, .int i]))) H') : spHasK C [.ref a, .ref p] H Qv E :=
  ⟨G, a, p, bt, s, i, rfl, w.gh, h, hp, ret_use w fun v G' H' w' s1 s2 e1 => by subst e1; exact k G' H' w' s1 s2⟩
theorem r_iKeysT {R : Addr → Obj → List (Key × V) → Prop} {S : Addr → Obj → List (List Key × V) → Prop} {d : Addr} {o : Obj} {kvs : List (List Key × V)} (h : H d = some (.frz o (.dT kvs))) (q : S d o kvs) :
    ∃ d' o', V.ref d = .ref d' ∧ ((∃ kvs, H d' = some (.frz o' (.dK kvs)) ∧ R d' o' kvs) ∨ ∃ kvs, H d' = some (.frz o' (.dT kvs)) ∧ S d' o' kvs) := ⟨d, o, rfl, .inr ⟨kvs, h, q⟩⟩
theorem all_yes {bs : List Bool} (h : ∀ b ∈ bs, b = true) : bs.all id = true := List.all_eq_true.mpr fun b hb => h b hb
end
end Q
namespace Q
open PySem PySem.Spec PyProof.Rows L2
theorem LifeAt.at_ {G : Hp} {ps : List Addr} {ls : List (Str × Int)} {i : Nat} {p : Addr} {l : Str × Int} (h : LifeAt G ps ls) (e1 : ps[i]? = some p) (e2 : ls[i]? = some l) : G p = some (.tup [.str l.1, .int l.2]) :=
  paired_get (R := fun (p : Addr) (l : Str × Int) => G p = some (.tup [.str l.1, .int l.2])) h e1 e2
theorem valT_out {tn : Str → Int → V} : ∀ {ls : List (Str × Int)} {l : Str × Int}, l ∉ ls → valV (turnKvs tn ls) (keyOf l) = none
  | [], _, _ => rfl
  | m :: ls, l, h => by
    have ne : ¬ keyOf m = keyOf l := fun z => h (by rw [keyOf_inj z]; simp)
    exact (valV_neg (p := (keyOf m, tn m.1 m.2)) ne).trans (valT_out fun z => h (List.mem_cons_of_mem _ z))
theorem not_mem_take {α : Type} {xs : List α} {i : Nat} {x : α} (nd : xs.Nodup) (h : xs[i]? = some x) : x ∉ xs.take i := fun m => by
  obtain ⟨j, hj⟩ := List.getElem?_of_mem m
  have hj2 : j < i := by
    have := (List.getElem?_eq_some_iff.mp hj).1
    rw [List.length_take] at this
    omega
  rw [List.getElem?_take, if_pos hj2] at hj
  have hi := (List.getElem?_eq_some_iff.mp h).1
  have := (List.getElem?_inj (by omega) nd).mp (hj.trans h.symm)
  omega
theorem turn_snoc {tn : Str → Int → V} {ls : List (Str × Int)} {i : Nat} {l : Str × Int} (nd : ls.Nodup) (h : ls[i]? = some l) : putK (turnKvs tn (ls.take i)) (keyOf l) (tn l.1 l.2) = turnKvs tn (ls.take (i + 1)) := by
  rw [putT_new _ (valT_out (not_mem_take nd h)), take_snoc h]
  unfold turnKvs
  rw [List.map_append]
  rfl
end Q
namespace Q
open PySem PySem.Spec PyProof.Rows L2
/-! ### how a history is written -/
def rStrN : List V → Hp → VK → Prop := fun xs H Q => ∃ i : Int, xs = [.int i] ∧ i.natAbs.log2 < 1920 ∧ Q (.str (toString i)) H
theorem q_strN {X : Cx} : CallR X (.type "str") rStrN := call_str_int
theorem r_strN {i : Int} {H : Hp} {Qv : VK} (h : i.natAbs.log2 < 1920) (q : Qv (.str (toString i)) H) : rStrN [.int i] H Qv := ⟨i, rfl, h, q⟩
def turnWord : V → Str
  | .int i => Str.ofString (toString i)
  | _ => Str.ofString "none"
def lifeText (tn : Str → Int → V) (l : Str × Int) : Str := Str.empty ++ l.1 ++ Str.ofString " " ++ Str.ofString (toString l.2) ++ Str.ofString " " ++ turnWord (tn l.1 l.2)
def histText (tn : Str → Int → V) (ls : List (Str × Int)) : Str := Txt.join (Str.ofString ", ") (match ls with
  | [] => [Str.ofString "nothing"]
  | l :: r => (l :: r).map (lifeText tn))
/-- a history's parts can be written -/
structure Writ (tn : Str → Int → V) (ls : List (Str × Int)) : Prop where
  nm : ∀ l ∈ ls, l.1.length ≤ 8 ∧ 0 ≤ l.2 ∧ l.2 ≤ 1000000000000000000000000000000
  tv : ∀ l ∈ ls, tn l.1 l.2 = .non ∨ ∃ i, tn l.1 l.2 = .int i ∧ 0 ≤ i ∧ i ≤ 1000000000000000000000000000000
  few : ls.length ≤ 1000
section
variable {tn : Str → Int → V} {ls : List (Str × Int)} {l : Str × Int} {K : PySem.W.Frag} {C CH h a : Addr} {e : En} {G H : Hp} {M : List Addr} {bt : List (Str × List Int)} {Qv : VK} {E : XK}
theorem word_len (w : Writ tn ls) (hl : l ∈ ls) : (turnWord (tn l.1 l.2)).length ≤ 31 := by
  rcases w.tv l hl with e | ⟨i, e, h0, h1⟩
  · rw [e]; decide
  · rw [e]; exact lenZ h0 h1
theorem life_len (w : Writ tn ls) (hl : l ∈ ls) : (lifeText tn l).length ≤ 80 := by
  obtain ⟨h1, h2, h3⟩ := w.nm l hl
  have a1 := lenZ h2 h3
  have a2 := word_len w hl
  have e0 : Str.empty.length = 0 := rfl
  have e1 : (Str.ofString " ").length = 1 := rfl
  unfold lifeText
  simp only [Str.length_append]
  omega
theorem sum_len {ts : List Str} {m : Nat} (h : ∀ t ∈ ts, t.length ≤ m) : (ts.map (·.length)).sum ≤ m * ts.length := by
  induction ts with
  | nil => simp
  | cons t ts ih =>
    have a := h t List.mem_cons_self
    have b := ih fun u hu => h u (List.mem_cons_of_mem _ hu)
    simp only [List.map_cons, List.sum_cons, List.length_cons, Nat.mul_add]
    omega
def spHistStr (CH C : Addr) : Sp := fun vs H Q _ => ∃ (G : Hp) (h a : Addr) (bt : List (Str × List Int)) (tn : Str → Int → V), vs = [.ref h] ∧ Gh G H ∧ HistAt CH C G h a bt tn ∧ BtOk bt ∧ Writ tn (lifesOf bt) ∧ Ret G H (fun v _ => v = .str (histText tn (lifesOf bt))) Q
theorem u_histStr (w : Wd e G H M) (hh : HistAt CH C G h a bt tn) (ob : BtOk bt) (wr : Writ tn (lifesOf bt)) (k : ∀ G' H', Wd e G' H' M → Same G G' → Same H H' → Qv (.str (histText tn (lifesOf bt))) H') : spHistStr CH C [.ref h] H Qv E :=
  ⟨G, h, a, bt, tn, rfl, w.gh, hh, ob, wr, ret_use w fun v G' H' w' s1 s2 e1 => by subst e1; exact k G' H' w' s1 s2⟩
end
end Q
namespace Q
open PySem PySem.Spec PyProof.Rows L2
theorem r_gNil {σ : L2.St} {H : Hp} {R : L2.St → Hp → Prop} (q : R σ H) : gNil [] σ H R := ⟨rfl, q⟩
theorem r_gTupR {K : PySem.W.Frag} {n : Nat} {t : TGs} {a : Addr} {xs : List V} {σ : L2.St} {H : Hp} {R : L2.St → Hp → Prop} (h : SqT K H a xs) (hl : xs.length = n) (q : t xs σ H R) : gTup K n t (.ref a) σ H R := r_gTup h hl q
end Q
namespace Q
open PySem PySem.Spec PyProof.Rows L2
/-! ### plain texts -/
def Low (z : Str) : Prop := ∀ c ∈ z.cps.toList, c < 128
theorem low_app {x y : Str} (hx : Low x) (hy : Low y) : Low (x ++ y) := fun c hc => by
  have e : (x ++ y).cps.toList = x.cps.toList ++ y.cps.toList := TL.tl_append x y
  rw [e] at hc
  exact (List.mem_append.mp hc).elim (hx c) (hy c)
theorem low_of {x : Str} (h : x.cps.toList.all (fun c => decide (c < 128)) = true) : Low x := fun c hc => of_decide_eq_true (List.all_eq_true.mp h c hc)
theorem joinL_mem {S : List Nat} {c : Nat} : ∀ {ps : List (List Nat)}, c ∈ TL.joinL S ps → c ∈ S ∨ ∃ p ∈ ps, c ∈ p
  | [], h => by simp [TL.joinL] at h
  | [p], h => .inr ⟨p, by simp, by simpa [TL.joinL] using h⟩
  | p :: q :: r, h => by
    have h : c ∈ p ++ (S ++ TL.joinL S (q :: r)) := h
    rcases List.mem_append.mp h with h | h
    · exact .inr ⟨p, by simp, h⟩
    rcases List.mem_append.mp h with h | h
    · exact .inl h
    rcases joinL_mem h with h | ⟨x, hx, hc⟩
    · exact .inl h
    · exact .inr ⟨x, List.mem_cons_of_mem _ hx, hc⟩
theorem joinL_len {S : List Nat} {m : Nat} : ∀ {ps : List (List Nat)}, (∀ p ∈ ps, p.length ≤ m) → (TL.joinL S ps).length ≤ ps.length * (m + S.length)
  | [], _ => by simp [TL.joinL]
  | [p], h => by
    have := h p (by simp)
    simp [TL.joinL]
    omega
  | p :: q :: r, h => by
    have a := h p (by simp)
    have b := joinL_len (S := S) (m := m) (ps := q :: r) fun x hx => h x (List.mem_cons_of_mem _ hx)
    have e : (TL.joinL S (p :: q :: r)).length = p.length + (S.length + (TL.joinL S (q :: r)).length) := by
      show (p ++ (S ++ TL.joinL S (q :: r))).length = _
      rw [List.length_append, List.length_append]
    rw [e, List.length_cons, Nat.add_mul]
    omega
theorem low_join {a : Str} {ts : List Str} (ha : Low a) (h : ∀ t ∈ ts, Low t) : Low (Txt.join a ts) := fun c hc => by
  rw [TL.join_eq] at hc
  have e : (Str.join a ts).cps.toList = TL.joinL a.cps.toList (ts.map fun t => t.cps.toList) := TL.tl_join a ts
  rw [e] at hc
  rcases joinL_mem hc with h1 | ⟨p, hp, h2⟩
  · exact ha c h1
  · obtain ⟨t, ht, rfl⟩ := List.mem_map.mp hp
    exact h t ht c h2
theorem len_tl (z : Str) : z.length = z.cps.toList.length := by simp [Str.length]
theorem join_len {a : Str} {ts : List Str} {m : Nat} (h : ∀ t ∈ ts, t.length ≤ m) : (Txt.join a ts).length ≤ ts.length * (m + a.length) := by
  rw [TL.join_eq, len_tl]
  have e : (Str.join a ts).cps.toList = TL.joinL a.cps.toList (ts.map fun t => t.cps.toList) := TL.tl_join a ts
  rw [e, len_tl a]
  have := joinL_len (S := a.cps.toList) (m := m) (ps := ts.map fun t => t.cps.toList) fun p hp => by
    obtain ⟨t, ht, rfl⟩ := List.mem_map.mp hp
    rw [← len_tl]
    exact h t ht
  rwa [List.length_map] at this
theorem low_show {z : Str} (h : Low z) (hl : z.length ≤ 99000) : (PyData.str z).showable = true ∧ (PyData.str z).depth ≤ 60 ∧ (PyData.str z).shown.length ≤ sizeLine := by
  refine ⟨by simp [PyData.showable], by simp [PyData.depth], ?_⟩
  have b := StrLaws.reprText_len z fun c hc => Nat.lt_of_lt_of_le (h c hc) (by decide)
  have e : (PyData.str z).shown = reprText z := by simp [PyData.shown]
  rw [e]
  exact sz_m (Nat.le_trans b (by omega))
theorem low_num (i : Int) : Low (Str.ofString (toString i)) := fun c hc => by
  rw [Str.ofString_eq_toList] at hc
  have hc : c ∈ (toString i).toList.map Char.toNat := by simpa using hc
  obtain ⟨ch, hm, rfl⟩ := List.mem_map.mp hc
  exact int_ascii i ch hm
/-! ### what a law chose: a turn for each life -/
abbrev Chs := List ((Str × Int) × V)
def ChAt (G : Hp) : List Addr → Chs → Prop := Paired fun p c => ∃ b, G p = some (.tup [.ref b, c.2]) ∧ G b = some (.tup [.str c.1.1, .int c.1.2])
def kvsOf (cs : Chs) : List (List Key × V) := cs.map fun c => (keyOf c.1, c.2)
def tnOf (cs : Chs) (t : Str) (b : Int) : V := (valV (kvsOf cs) (keyOf (t, b))).getD .non
def choText (c : (Str × Int) × V) : Str := c.1.1 ++ Str.ofString " " ++ Str.ofString (toString c.1.2) ++ Str.ofString " " ++ turnWord c.2
section
variable {K : PySem.W.Frag} {G G' : Hp} {ps : List Addr} {cs : Chs} {bt : List (Str × List Int)}
theorem ChAt.same (h : ChAt G ps cs) (s : Same G G') : ChAt G' ps cs := Paired.mapP h fun _ _ ⟨b, h1, h2⟩ => ⟨b, s _ _ h1, s _ _ h2⟩
theorem ChAt.len (h : ChAt G ps cs) : ps.length = cs.length := Paired.length h
theorem ChAt.snoc (h : ChAt G ps cs) {p b : Addr} {t : Str} {i : Int} {v : V} (h1 : G p = some (.tup [.ref b, v])) (h2 : G b = some (.tup [.str t, .int i])) : ChAt G (ps ++ [p]) (cs ++ [((t, i), v)]) := paired_snoc h ⟨b, h1, h2⟩
theorem ChAt.rev (h : ChAt G ps cs) : ChAt G ps.reverse cs.reverse := by
  induction h with
  | nil => exact .nil
  | cons h _ ih =>
    rw [List.reverse_cons, List.reverse_cons]
    exact paired_snoc ih h
theorem ChAt.pairs {H : Hp} (h : ChAt G ps cs) (s : Same G H) : TPairs K H ps (kvsOf cs) := by
  induction h with
  | nil => exact .nil
  | cons h _ ih =>
    obtain ⟨b, h1, h2⟩ := h
    exact .cons ⟨b, SqT.of (s _ _ h1), s _ _ h2⟩ ih
theorem kvs_nodup (nd : (cs.map (·.1)).Nodup) : ((kvsOf cs).map (·.1)).Nodup := by
  have e : (kvsOf cs).map (·.1) = (cs.map (·.1)).map keyOf := by
    unfold kvsOf
    rw [List.map_map, List.map_map]
    rfl
  rw [e]
  clear e
  generalize cs.map (·.1) = ls at *
  induction ls with
  | nil => exact List.nodup_nil
  | cons l ls ih =>
    obtain ⟨a, b⟩ := List.nodup_cons.mp nd
    refine List.nodup_cons.mpr ⟨fun m => ?_, ih b⟩
    obtain ⟨u, hu, e⟩ := List.mem_map.mp m
    rw [keyOf_inj e] at hu
    exact a hu
theorem val_in (nd : (cs.map (·.1)).Nodup) {c : (Str × Int) × V} (h : c ∈ cs) : valV (kvsOf cs) (keyOf c.1) = some c.2 := by
  induction cs with
  | nil => cases h
  | cons d cs ih =>
    obtain ⟨a, b⟩ := List.nodup_cons.mp (show (d.1 :: cs.map (·.1)).Nodup from nd)
    rcases List.mem_cons.mp h with e | m
    · subst e
      exact valV_pos rfl
    · have ne : ¬ keyOf d.1 = keyOf c.1 := fun z => a (by rw [keyOf_inj z]; exact List.mem_map.mpr ⟨c, m, rfl⟩)
      exact (valV_neg (p := (keyOf d.1, d.2)) ne).trans (ih b m)
theorem tn_in (nd : (cs.map (·.1)).Nodup) {c : (Str × Int) × V} (h : c ∈ cs) : tnOf cs c.1.1 c.1.2 = c.2 := by
  show (valV (kvsOf cs) (keyOf c.1)).getD .non = c.2
  rw [val_in nd h]
  rfl
/-- the turns that were chosen -/
structure ChOk (bt : List (Str × List Int)) (cs : Chs) : Prop where
  fst : cs.map (·.1) = lifesOf bt
  tv : ∀ c ∈ cs, c.2 = .non ∨ ∃ i, c.2 = .int i ∧ 0 ≤ i ∧ i ≤ 1000000000000000000000000000000
  ok : ∀ c ∈ cs, ∃ ns, (c.1.1, ns) ∈ bt ∧ turnOk ns c.1.2 c.2 = true
theorem ChOk.turns (o : ChOk bt cs) (ob : BtOk bt) {ds : Chs} (hp : ds.Perm cs) : TurnsOk K G bt (tnOf cs) (kvsOf ds) := by
  have nd : (cs.map (·.1)).Nodup := by rw [o.fst]; exact lifes_nodup ob.nd ob.nds
  have ndd : (ds.map (·.1)).Nodup := (hp.map _).nodup_iff.mpr nd
  have one : ∀ l ∈ lifesOf bt, ∃ c ∈ cs, c.1 = l := fun l hl => by
    rw [← o.fst] at hl
    obtain ⟨c, hc, e⟩ := List.mem_map.mp hl
    exact ⟨c, hc, e⟩
  refine ⟨?_, fun kv hkv => ?_, fun l hl => ?_, fun l hl => ?_, fun l hl => ?_⟩
  · rw [← o.fst, List.length_map]
    unfold kvsOf
    rw [List.length_map, hp.length_eq]
  · obtain ⟨c, hc, rfl⟩ := List.mem_map.mp hkv
    exact ⟨c.1, by rw [← o.fst]; exact List.mem_map.mpr ⟨c, hp.mem_iff.mp hc, rfl⟩, rfl⟩
  · obtain ⟨c, hc, rfl⟩ := one l hl
    rw [tn_in nd hc]
    exact val_in ndd (hp.mem_iff.mpr hc)
  · obtain ⟨c, hc, rfl⟩ := one l hl
    obtain ⟨ns, m, h⟩ := o.ok c hc
    rw [tn_in nd hc, nsOf_at ob.nd m]
    exact h
  · obtain ⟨c, hc, rfl⟩ := one l hl
    rw [tn_in nd hc]
    rcases o.tv c hc with e | ⟨i, e, _⟩
    · rw [e]; exact ⟨_, kd_non⟩
    · rw [e]; exact ⟨_, kd_int i⟩
theorem ChOk.writ (o : ChOk bt cs) (ob : BtOk bt) (hn : ∀ q ∈ bt, nmOk q.1 = true) (hs : ∀ q ∈ bt, StartsOk q.2) : Writ (tnOf cs) (lifesOf bt) := by
  have nd : (cs.map (·.1)).Nodup := by rw [o.fst]; exact lifes_nodup ob.nd ob.nds
  refine ⟨fun l hl => ?_, fun l hl => ?_, ob.all⟩
  · obtain ⟨ns, h1, h2⟩ := lifes_mem ob.nd hl
    have mq := nsOf_mem h1
    exact ⟨nmOk_len (hn _ mq), (hs _ mq).bd h2⟩
  · rw [← o.fst] at hl
    obtain ⟨c, hc, rfl⟩ := List.mem_map.mp hl
    rw [tn_in nd hc]
    exact o.tv c hc
/-- what the law tells is what is written -/
theorem ChOk.text (o : ChOk bt cs) (ob : BtOk bt) : histText (tnOf cs) (lifesOf bt) = Txt.join (Str.ofString ", ") (match cs with
    | [] => [Str.ofString "nothing"]
    | c :: r => (c :: r).map choText) := by
  have nd : (cs.map (·.1)).Nodup := by rw [o.fst]; exact lifes_nodup ob.nd ob.nds
  have each : ∀ ds : Chs, (∀ c ∈ ds, c ∈ cs) → (ds.map (·.1)).map (lifeText (tnOf cs)) = ds.map choText := fun ds h => by
    rw [List.map_map]
    refine List.map_congr_left fun c hc => ?_
    show lifeText (tnOf cs) c.1 = choText c
    unfold lifeText choText
    rw [tn_in nd (h c hc), Str.empty_append]
  unfold histText
  have e := each cs fun _ h => h
  rw [o.fst] at e
  cases cs with
  | nil =>
    have : lifesOf bt = [] := o.fst.symm
    rw [this]
  | cons c r =>
    cases els : lifesOf bt with
    | nil => rw [← o.fst] at els; cases els
    | cons l ls =>
      rw [els] at e
      show Txt.join _ ((l :: ls).map (lifeText (tnOf (c :: r)))) = _
      rw [e]
end
theorem next_bd {ns : List Int} {b : Int} (h : StartsOk ns) (hb : b ∈ ns) : b ≤ nextOf ns b ∧ nextOf ns b ≤ 1000000000000000000000000000000 := by
  unfold nextOf
  have bd := h.bd hb
  cases e : ns.filter (fun k => decide (b < k)) with
  | nil => exact ⟨bd.2, Int.le_refl _⟩
  | cons k r =>
    have m : k ∈ ns.filter (fun k => decide (b < k)) := by rw [e]; simp
    obtain ⟨m1, m2⟩ := List.mem_filter.mp m
    have m2 := of_decide_eq_true m2
    have k1 := (h.bd m1).2
    show b ≤ k - 1 ∧ k - 1 ≤ _
    omega
theorem turn_int {ns : List Int} {b i : Int} (h : StartsOk ns) (hb : b ∈ ns) (h0 : b ≤ i) (h1 : i ≤ nextOf ns b) : turnOk ns b (.int i) = true := by
  have := next_bd h hb
  show (momV (.int i) b && decide (i ≤ nextOf ns b)) = true
  rw [Bool.and_eq_true]
  refine ⟨?_, decide_eq_true h1⟩
  show (decide (b ≤ i) && decide (i ≤ 1000000000000000000000000000000)) = true
  rw [Bool.and_eq_true, decide_eq_true_iff, decide_eq_true_iff]
  omega
end Q
namespace Q
open PySem PySem.Spec PyProof.Rows L2
/-! ### lives of beginnings in any order -/
def numsR (bs : List (Str × List Int)) : List (Str × List V) := bs.map fun q => (q.1, q.2.map V.int)
/-- bs tells the beginnings bt (without 0), in any order -/
structure Tells (bs bt : List (Str × List Int)) : Prop where
  nd : (bs.map (·.1)).Nodup
  nm : ∀ q ∈ bs, nmOk q.1 = true
  ns : ∀ q ∈ bs, ∃ ns, nsOf bt q.1 = some ns ∧ ∀ k, k ∈ q.2 ↔ k ∈ ns.drop 1
  few : ∀ q ∈ bs, q.2.length ≤ 60
  per : ∀ t, t ∈ bs.map (·.1) ↔ t ∈ bt.map (·.1)
section
variable {K : PySem.W.Frag} {G : Hp} {bs bt bL : List (Str × List Int)} {t : Str} {ts : List Str} {Cn Cm : Addr}
theorem numsR_fst : (numsR bs).map (·.1) = bs.map (·.1) := by
  unfold numsR
  rw [List.map_map]
  rfl
theorem rowOf_numsR : rowOf (numsR bs) t = (nsOf bs t).map fun ns => ns.map V.int := by
  induction bs with
  | nil => rfl
  | cons q bs ih =>
    by_cases e : q.1 = t
    · simp [numsR, rowOf, nsOf, List.find?_cons, e]
    · have a1 : nsOf (q :: bs) t = nsOf bs t := by simp [nsOf, List.find?_cons, e]
      have a2 : rowOf (numsR (q :: bs)) t = rowOf (numsR bs) t := by simp [numsR, rowOf, List.find?_cons, e]
      rw [a1, a2, ih]
theorem Tells.num (h : Tells bs bt) (h2 : ∀ q ∈ bt, StartsOk q.2) {q : Str × List Int} (hq : q ∈ bs) {k : Int} (hk : k ∈ q.2) : 1 ≤ k ∧ k ≤ 1000000000000000000000000000000 := by
  obtain ⟨ns, a, b⟩ := h.ns q hq
  exact (h2 _ (nsOf_mem a)).tail.2.2.1 k ((b k).mp hk)
theorem Tells.rows (h : Tells bs bt) (h2 : ∀ q ∈ bt, StartsOk q.2) : RowsOk K G (numsR bs) := by
  have go : ∀ r ∈ numsR bs, ∃ q ∈ bs, r = (q.1, q.2.map V.int) := fun r hr => by
    obtain ⟨q, hq, e⟩ := List.mem_map.mp hr
    exact ⟨q, hq, e.symm⟩
  refine ⟨fun r hr => ?_, fun r hr v hv => ?_, fun r hr => ?_, fun r hr => ?_⟩
  · obtain ⟨q, hq, rfl⟩ := go r hr
    exact ⟨Nat.le_trans (nmOk_len (h.nm q hq)) (by decide), by rw [List.length_map]; exact h.few q hq⟩
  · obtain ⟨q, hq, rfl⟩ := go r hr
    obtain ⟨k, hk, rfl⟩ := List.mem_map.mp hv
    have := h.num h2 hq hk
    exact ⟨_, odd_pos (by omega) (by omega)⟩
  · obtain ⟨q, hq, rfl⟩ := go r hr
    exact ⟨_, odd_name (h.nm q hq)⟩
  · obtain ⟨q, hq, rfl⟩ := go r hr
    exact nmOk_str (h.nm q hq)
theorem Tells.fault (h : Tells bs bt) (h2 : ∀ q ∈ bt, StartsOk q.2) (hp : ts.Perm ((numsR bs).map (·.1))) : faultL Cn Cm (numsR bs) ts = none := by
  refine faultL_ok fun t ht => ?_
  have m := hp.mem_iff.mp ht
  rw [numsR_fst] at m
  obtain ⟨ns, hn⟩ := nsOf_in m
  have mq := nsOf_mem hn
  refine ⟨h.nm _ mq, _, by rw [rowOf_numsR, hn]; rfl, fun v hv => ?_⟩
  obtain ⟨k, hk, rfl⟩ := List.mem_map.mp hv
  obtain ⟨k0, k1⟩ := h.num h2 mq hk
  show (decide (1 ≤ k) && decide (k ≤ 1000000000000000000000000000000)) = true
  rw [Bool.and_eq_true, decide_eq_true_iff, decide_eq_true_iff]
  exact ⟨k0, k1⟩
/-- names ascending: the lives are bt -/
theorem Tells.lives (h : Tells bs bt) (h2 : ∀ q ∈ bt, StartsOk q.2) (asc : (bt.map (·.1)).Pairwise leS) (ndt : (bt.map (·.1)).Nodup) (hp : ts.Perm ((numsR bs).map (·.1))) (hs : ts.Pairwise leS) (b : BtOf (numsR bs) ts bL) : bL = bt := by
  obtain ⟨b1, b2⟩ := b
  have pm : ts.Perm (bt.map (·.1)) := by
    rw [numsR_fst] at hp
    exact hp.trans ((List.perm_ext_iff_of_nodup h.nd ndt).mpr h.per)
  have ets : ts = bt.map (·.1) := leS_one pm hs asc
  rw [ets] at b1
  have one : ∀ q ∈ bL, q ∈ bt := fun q hq => by
    have mt : q.1 ∈ bs.map (·.1) := (h.per q.1).mpr (by rw [← b1]; exact List.mem_map.mpr ⟨q, hq, rfl⟩)
    obtain ⟨xs, hx⟩ := nsOf_in mt
    have mx := nsOf_mem hx
    obtain ⟨ns, e1, e2⟩ := h.ns _ mx
    have mq := nsOf_mem e1
    have so := h2 _ mq
    have z := b2 q hq
    rw [rowOf_numsR, hx] at z
    obtain ⟨ms, em, pw, mem⟩ := z
    have e3 : ms = ns.drop 1 := ltI_one pw so.tail.2.1 fun k => by
      rw [mem k]
      show V.int k ∈ xs.map V.int ↔ _
      rw [← e2 k, List.mem_map]
      exact ⟨fun ⟨j, hj, e⟩ => by cases e; exact hj, fun hk => ⟨k, hk, rfl⟩⟩
    have e4 : q.2 = ns := by rw [em, e3]; exact so.tail.1.symm
    have e5 : q = (q.1, ns) := by rw [← e4]
    rw [e5]
    exact mq
  have gen : ∀ (xs ys : List (Str × List Int)), xs.map (·.1) = ys.map (·.1) → (ys.map (·.1)).Nodup → (∀ q ∈ xs, q ∈ ys) → xs = ys := by
    intro xs
    induction xs with
    | nil => intro ys e _ _; cases ys with
      | nil => rfl
      | cons _ _ => cases e
    | cons x xs ih =>
      intro ys e nd hm
      cases ys with
      | nil => cases e
      | cons y ys =>
        obtain ⟨n1, n2⟩ := List.nodup_cons.mp nd
        have e1 : x.1 = y.1 := (List.cons.inj e).1
        have e2 : xs.map (·.1) = ys.map (·.1) := (List.cons.inj e).2
        have ex : x = y := by
          rcases List.mem_cons.mp (hm x List.mem_cons_self) with h | h
          · exact h
          · exact absurd (List.mem_map.mpr ⟨x, h, e1⟩) n1
        rw [ex, ih ys e2 n2 fun q hq => ?_]
        rcases List.mem_cons.mp (hm q (List.mem_cons_of_mem _ hq)) with h | h
        · refine absurd ?_ n1
          rw [← h, ← e2]
          exact List.mem_map.mpr ⟨q, hq, rfl⟩
        · exact h
  exact gen bL bt b1 ndt one
end
end Q
namespace Q
open PySem PySem.Spec PyProof.Rows L2
/-! ### a list turned about; three names at once -/
def RevGo (K : PySem.W.Frag) (x : V) (H : Hp) (Qv : VK) : Prop := ∃ a xs, x = .ref a ∧ SqL K H a xs ∧ ∀ p, H p = none → Qv (.ref p) (upd H p (.lst xs.reverse))
def tRevQ (K : PySem.W.Frag) (te : TE) : TE := fun σ H Qv => te σ H fun x H1 => RevGo K x H1 Qv
theorem pe_revQ {X : Cx} {K : PySem.W.Frag} {e : Expr} {te : TE} {k : Nat} {p1 p2 p3 pos : Pos} (hK : X.K = K) (he : PE X e te) : PE X (.Subscript e (.Slice none none (some (.UnaryOp .USub (.Constant (.int 1) k p1) p2)) p3) pos) (tRevQ K te) := by
  subst hK
  exact pe_revL he
section
variable {K : PySem.W.Frag} {te : TE} {σ : L2.St} {H : Hp} {Qv : VK} {a : Addr} {xs : List V}
theorem r_tRev (q : te σ H fun x H1 => RevGo K x H1 Qv) : tRevQ K te σ H Qv := q
theorem r_revL (h : SqL K H a xs) (q : Lay 0 (.lst xs.reverse) Qv H) : RevGo K (.ref a) H Qv := ⟨a, xs, rfl, h, q.2⟩
def Par3K (i j l : Nat) (vs : List V) (σ : L2.St) (N : L2.St → Hp → Prop) (H : Hp) : Prop := ∃ u v w, vs = [u, v, w] ∧ N (((σ.set i (some u)).set j (some v)).set l (some w)) H
theorem r_par3 {i j l : Nat} {ta : TA} {D : Ends} (q : ta σ H fun vs H1 => Par3K i j l vs σ D.nx H1) : tPar3 i j l ta D σ H := q
theorem r_par3K {i j l : Nat} {u v w : V} {N : L2.St → Hp → Prop} (q : N (((σ.set i (some u)).set j (some v)).set l (some w)) H) : Par3K i j l [u, v, w] σ N H := ⟨u, v, w, rfl, q⟩
end
end Q
namespace Q
open PySem PySem.Spec PyProof.Rows L2
/-! ### several things held -/
def Hold (xs : List (Addr × HO)) (H : Hp) : Prop := ∀ q ∈ xs, H q.1 = some q.2
theorem Hold.same {xs : List (Addr × HO)} {H H' : Hp} (h : Hold xs H) (s : Same H H') : Hold xs H' := fun q hq => s _ _ (h q hq)
theorem Hold.but {xs : List (Addr × HO)} {H H' : Hp} {p : Addr} (h : Hold xs H) (b : But p H H') (n : ∀ q ∈ xs, q.1 ≠ p) : Hold xs H' := fun q hq => b _ _ (n q hq) (h q hq)
theorem hold_nil {H : Hp} : Hold [] H := fun q hq => by cases hq
theorem hold_cons {a : Addr} {o : HO} {xs : List (Addr × HO)} {H : Hp} (h : H a = some o) (r : Hold xs H) : Hold ((a, o) :: xs) H := fun q hq => by
  rcases List.mem_cons.mp hq with e | m
  · rw [e]; exact h
  · exact r q m
theorem Hold.hd {a : Addr} {o : HO} {xs : List (Addr × HO)} {H : Hp} (h : Hold ((a, o) :: xs) H) : H a = some o := h (a, o) List.mem_cons_self
theorem Hold.tl {a : Addr} {o : HO} {xs : List (Addr × HO)} {H : Hp} (h : Hold ((a, o) :: xs) H) : Hold xs H := fun q hq => h q (List.mem_cons_of_mem _ hq)
instance {a b : Str} : Decidable (leS a b) := by unfold leS; infer_instance
def TOk (ts : List Str) : Prop := ts.Nodup ∧ ts.length ≤ 3 ∧ (∀ t ∈ ts, nmOk t = true ∧ Low t) ∧ ts.Pairwise leS
instance {z : Str} : Decidable (Low z) := decidable_of_iff (z.cps.toList.all (fun c => decide (c < 128)) = true) ⟨fun h => low_of h, fun h => List.all_eq_true.mpr fun c hc => decide_eq_true (h c hc)⟩
instance {ts : List Str} : Decidable (TOk ts) := by unfold TOk; infer_instance
theorem titles_cut {k : Int} (h0 : 0 ≤ k) (h1 : k < 4) : ∃ ts : List Str, cutV [V.str (Str.ofString "a"), V.str (Str.ofString "aa"), V.str (Str.ofString "b7")] none (some k) = ts.map V.str ∧ TOk ts := by
  refine ⟨[Str.ofString "a", Str.ofString "aa", Str.ofString "b7"].take k.toNat, ?_, ?_⟩
  · obtain rfl | rfl | rfl | rfl : k = 0 ∨ k = 1 ∨ k = 2 ∨ k = 3 := by omega
    all_goals rfl
  · obtain rfl | rfl | rfl | rfl : k = 0 ∨ k = 1 ∨ k = 2 ∨ k = 3 := by omega
    all_goals decide +kernel
def tailsOf (bt : List (Str × List Int)) : List (Str × List Int) := bt.map fun q => (q.1, q.2.drop 1)
theorem tails_fst {bt : List (Str × List Int)} : (tailsOf bt).map (·.1) = bt.map (·.1) := by
  unfold tailsOf
  rw [List.map_map]
  rfl
theorem lifes_few {m : Nat} : ∀ {bt : List (Str × List Int)}, (∀ q ∈ bt, q.2.length ≤ m) → (lifesOf bt).length ≤ m * bt.length
  | [], _ => by simp [lifesOf]
  | q :: bt, h => by
    have a := h q List.mem_cons_self
    have b := lifes_few (m := m) (bt := bt) fun r hr => h r (List.mem_cons_of_mem _ hr)
    have e : lifesOf (q :: bt) = (q.2.map fun b => (q.1, b)) ++ lifesOf bt := by simp [lifesOf]
    rw [e, List.length_append, List.length_map, List.length_cons, Nat.mul_add]
    omega
theorem cho_len {cs : Chs} {bt : List (Str × List Int)} (o : ChOk bt cs) (hs : ∀ q ∈ bt, StartsOk q.2) (hl : bt.length ≤ 3) : cs.length ≤ 21 := by
  have a := lifes_few (m := 7) (bt := bt) fun q hq => (hs q hq).len
  have b := congrArg List.length o.fst
  rw [List.length_map] at b
  omega
theorem ChOk.grow {cs cs1 : Chs} {bt : List (Str × List Int)} {t : Str} {ns : List Int} (o : ChOk bt cs) (h1 : cs1.map (·.1) = ns.map fun b => (t, b)) (h2 : ∀ c ∈ cs1, turnOk ns c.1.2 c.2 = true ∧ (c.2 = .non ∨ ∃ i, c.2 = .int i ∧ 0 ≤ i ∧ i ≤ 1000000000000000000000000000000)) : ChOk (bt ++ [(t, ns)]) (cs ++ cs1) := by
  refine ⟨?_, fun c hc => ?_, fun c hc => ?_⟩
  · rw [List.map_append, o.fst, h1]
    simp [lifesOf]
  · rcases List.mem_append.mp hc with hc | hc
    · exact o.tv c hc
    · exact (h2 c hc).2
  · rcases List.mem_append.mp hc with hc | hc
    · obtain ⟨ms, m, h⟩ := o.ok c hc
      exact ⟨ms, List.mem_append_left _ m, h⟩
    · have m : c.1 ∈ cs1.map (·.1) := List.mem_map.mpr ⟨c, hc, rfl⟩
      rw [h1] at m
      obtain ⟨b, _, e⟩ := List.mem_map.mp m
      refine ⟨ns, List.mem_append_right _ ?_, (h2 c hc).1⟩
      rw [← e]
      exact List.mem_singleton.mpr rfl
theorem LsAt.beg {K : PySem.W.Frag} {G : Hp} {kvs : List (Key × V)} {bs : List (Str × List Int)} (h : LsAt G kvs bs) : BegAt K G kvs (numsR bs) := by
  induction h with
  | nil => exact .nil
  | cons h _ ih => exact .cons (.inl (SqL.of h)) ih
def textOf (cs : Chs) : Str := Txt.join (Str.ofString ", ") (match cs with
  | [] => [Str.ofString "nothing"]
  | c :: r => (c :: r).map choText)
end Q
namespace Q
open PySem PySem.Spec PyProof.Rows L2
section
variable {K : PySem.W.Frag} {G H : Hp} {cs : Chs} {bt : List (Str × List Int)} {lu b : Addr} {σ : L2.St} {i : Nat} {Cv : VK}
theorem cho_len80 (o : ChOk bt cs) (hn : ∀ q ∈ bt, nmOk q.1 = true) (hs : ∀ q ∈ bt, StartsOk q.2) (ob : BtOk bt) : ∀ t ∈ cs.map choText, t.length ≤ 80 := fun t ht => by
  obtain ⟨c, hc, rfl⟩ := List.mem_map.mp ht
  obtain ⟨ns, m, _⟩ := o.ok c hc
  have hl : c.1 ∈ lifesOf bt := by rw [← o.fst]; exact List.mem_map.mpr ⟨c, hc, rfl⟩
  have wr := o.writ ob hn hs
  obtain ⟨q1, q2, q3⟩ := wr.nm c.1 hl
  have nd : (cs.map (·.1)).Nodup := by rw [o.fst]; exact lifes_nodup ob.nd ob.nds
  have wl := word_len wr hl
  rw [tn_in nd hc] at wl
  have a1 := lenZ q2 q3
  have e1 : (Str.ofString " ").length = 1 := rfl
  unfold choText
  simp only [Str.length_append]
  omega
theorem r_dueText (h1 : SqL K H lu ((cs.map choText).map V.str)) (h2 : SqL K H b []) (few : cs.length ≤ 1000) (sm : ∀ t ∈ cs.map choText, t.length ≤ 80) (hv : σ[i]? = some (some (.ref lu))) (q : Cv (.str (textOf cs)) H) :
    rNil K true (.ref lu) (.ref b) H fun x H' => ∃ k, x = .bl k ∧ if k = true then tM1 (JoinGo K) (tC (.str (Str.ofString ", "))) (tVar i) σ H' Cv else tC (.str (Str.ofString "nothing")) σ H' Cv := by
  have sums := sum_len sm
  cases cs with
  | nil =>
    refine r_neNilF h1 h2 ⟨false, rfl, ?_⟩
    rw [if_neg (by decide)]
    exact q
  | cons c r =>
    refine r_neNilT h1 h2 ⟨true, rfl, ?_⟩
    rw [if_pos rfl]
    refine r_tM1 (r_strAnd ⟨_, hv, r_joinL h1 ?_ q⟩)
    have e2 : (Str.ofString ", ").length = 2 := rfl
    rw [e2]
    rw [List.length_map] at sums ⊢
    omega
theorem cho_low (o : ChOk bt cs) (ob : BtOk bt) (hl : ∀ q ∈ bt, Low q.1) : Low (textOf cs) := by
  have e2 : Low (Str.ofString ", ") := by decide +kernel
  have e3 : Low (Str.ofString " ") := by decide +kernel
  unfold textOf
  refine low_join e2 ?_
  cases cs with
  | nil =>
    intro t ht
    rw [List.mem_singleton.mp ht]
    decide +kernel
  | cons c r =>
    intro t ht
    obtain ⟨d, hd, rfl⟩ := List.mem_map.mp ht
    obtain ⟨ns, m, _⟩ := o.ok d hd
    have hw : Low (turnWord d.2) := by
      rcases o.tv d hd with e | ⟨i, e, _⟩
      · rw [e]; show Low (Str.ofString "none"); decide +kernel
      · rw [e]; exact low_num i
    exact low_app (low_app (low_app (low_app (hl _ m) e3) (low_num _)) e3) hw
theorem text_len (few : cs.length ≤ 1000) (sm : ∀ t ∈ cs.map choText, t.length ≤ 80) : (textOf cs).length ≤ 99000 := by
  have e2 : (Str.ofString ", ").length = 2 := rfl
  unfold textOf
  cases cs with
  | nil => decide +kernel
  | cons c r =>
    have := join_len (a := Str.ofString ", ") sm
    rw [e2, List.length_map] at this
    refine Nat.le_trans this ?_
    omega
theorem tails_tells (nd : (bt.map (·.1)).Nodup) (hn : ∀ q ∈ bt, nmOk q.1 = true) (hs : ∀ q ∈ bt, StartsOk q.2) : Tells (tailsOf bt) bt := by
  have go : ∀ q ∈ tailsOf bt, ∃ r ∈ bt, q = (r.1, r.2.drop 1) := fun q hq => by
    obtain ⟨r, hr, e⟩ := List.mem_map.mp hq
    exact ⟨r, hr, e.symm⟩
  refine ⟨by rw [tails_fst]; exact nd, fun q hq => ?_, fun q hq => ?_, fun q hq => ?_, fun t => by rw [tails_fst]⟩
  · obtain ⟨r, hr, rfl⟩ := go q hq
    exact hn r hr
  · obtain ⟨r, hr, rfl⟩ := go q hq
    exact ⟨r.2, nsOf_at nd hr, fun k => Iff.rfl⟩
  · obtain ⟨r, hr, rfl⟩ := go q hq
    exact Nat.le_trans (hs r hr).tail.2.2.2 (by decide)
def revOf (bt : List (Str × List Int)) : List (Str × List Int) := (tailsOf bt).reverse.map fun q => (q.1, q.2.reverse)
theorem rev_fst : (revOf bt).map (·.1) = (bt.map (·.1)).reverse := by
  unfold revOf
  rw [List.map_map, ← tails_fst (bt := bt), ← List.map_reverse]
  rfl
theorem rev_tells (nd : (bt.map (·.1)).Nodup) (hn : ∀ q ∈ bt, nmOk q.1 = true) (hs : ∀ q ∈ bt, StartsOk q.2) : Tells (revOf bt) bt := by
  have tt := tails_tells nd hn hs
  have go : ∀ q ∈ revOf bt, ∃ r ∈ tailsOf bt, q = (r.1, r.2.reverse) := fun q hq => by
    obtain ⟨r, hr, e⟩ := List.mem_map.mp hq
    exact ⟨r, List.mem_reverse.mp hr, e.symm⟩
  refine ⟨?_, fun q hq => ?_, fun q hq => ?_, fun q hq => ?_, fun t => by rw [rev_fst, List.mem_reverse]⟩
  · rw [rev_fst]
    exact (List.reverse_perm _).nodup_iff.mpr nd
  · obtain ⟨r, hr, rfl⟩ := go q hq
    exact tt.nm r hr
  · obtain ⟨r, hr, rfl⟩ := go q hq
    obtain ⟨ns, e1, e2⟩ := tt.ns r hr
    exact ⟨ns, e1, fun k => by rw [List.mem_reverse]; exact e2 k⟩
  · obtain ⟨r, hr, rfl⟩ := go q hq
    rw [List.length_reverse]
    exact tt.few r hr
theorem starts_btok (nd : (bt.map (·.1)).Nodup) (hs : ∀ q ∈ bt, StartsOk q.2) (hl : bt.length ≤ 100) : BtOk bt := by
  refine ⟨nd, fun q hq => Nat.le_trans (hs q hq).len (by decide), ?_, fun q hq => (hs q hq).asc.imp fun h e => by omega⟩
  have := lifes_few (m := 7) (bt := bt) fun q hq => (hs q hq).len
  omega
end
end Q
namespace Q
open PySem PySem.Spec PyProof.Rows L2
theorem LsAt.at_ {G : Hp} {kvs : List (Key × V)} {bt : List (Str × List Int)} (h : LsAt G kvs bt) : ∀ {i : Nat} {k : Key} {v : V}, kvs[i]? = some (k, v) → ∃ s ra ns, k = .inr s ∧ v = .ref ra ∧ bt[i]? = some (s, ns) ∧ G ra = some (.lst (ns.map V.int)) := by
  induction h with
  | nil => intro i k v e; simp at e
  | cons h1 _ ih =>
    intro i k v e
    cases i with
    | zero => cases e; exact ⟨_, _, _, rfl, rfl, rfl, h1⟩
    | succ i => exact ih (by simpa using e)
theorem rev_at {G : Hp} {kvs : List (Key × V)} {bt : List (Str × List Int)} {t : Str} {j : Nat} (ls : LsAt G kvs (tailsOf bt)) (nd : (bt.map (·.1)).Nodup) (h : (bt.map (·.1)).reverse[j]? = some t) :
    ∃ (ra : Addr) (xs : List Int), valV kvs (.inr t) = some (.ref ra) ∧ G ra = some (.lst (xs.map V.int)) ∧ (revOf bt)[j]? = some (t, xs.reverse) := by
  rw [← rev_fst, List.getElem?_map] at h
  obtain ⟨q, hq, e⟩ := Option.map_eq_some_iff.mp h
  have mq := List.mem_of_getElem? hq
  unfold revOf at mq
  obtain ⟨r, hr, er⟩ := List.mem_map.mp mq
  have hr := List.mem_reverse.mp hr
  have nt : ((tailsOf bt).map (·.1)).Nodup := by rw [tails_fst]; exact nd
  have er1 : r.1 = t := by rw [← e, ← er]
  have hn : nsOf (tailsOf bt) t = some r.2 := nsOf_at nt (by rw [← er1]; exact hr)
  rcases ls.val t with ⟨e1, _⟩ | ⟨ra, ms, e1, e2, e3⟩
  · rw [hn] at e1; cases e1
  · rw [hn] at e1
    cases e1
    refine ⟨ra, r.2, e2, e3, ?_⟩
    rw [hq, ← er, er1]
theorem DrAt.begR {K : PySem.W.Frag} {G : Hp} {ps : List Addr} {kvs : List (Key × V)} {rows : List (Str × List V)} (h : DrAt G ps kvs rows) : BegAt K G kvs rows := h.beg
end Q
namespace Q
open PySem PySem.Spec PyProof.Rows L2
/-! ### words of texts, words that write moments -/
abbrev zBlank : Str := Str.ofString " "
abbrev zNl : Str := Str.ofString "\n"
def numB (l : List Nat) : Bool := decide (1 ≤ l.length) && (decide (l.length ≤ 31) && (l.all figB && !(decide (l.head? = some 48) && decide (1 < l.length))))
def momW (z : Str) : Option Int := if numB z.cps.toList = true ∧ ((NumText.digitsVal z.cps.toList : Nat) : Int) ≤ 1000000000000000000000000000000 then some ((NumText.digitsVal z.cps.toList : Nat) : Int) else none
def optI : Option Int → V
  | some i => .int i
  | none => .non
theorem fig_iff (c : Nat) : figB c = true ↔ 48 ≤ c ∧ c ≤ 57 := by
  have e : zFigures.cps.toList = [48, 49, 50, 51, 52, 53, 54, 55, 56, 57] := by decide +kernel
  unfold figB
  rw [decide_eq_true_iff, e]
  simp only [List.mem_cons, List.not_mem_nil, or_false]
  omega
theorem figs_digits {l : List Nat} (h : l.all figB = true) : NumText.AllDigits l := fun c hc => (fig_iff c).mp (List.all_eq_true.mp h c hc)
theorem digits_figs {l : List Nat} (h : NumText.AllDigits l) : l.all figB = true := List.all_eq_true.mpr fun c hc => (fig_iff c).mpr (h c hc)
theorem ofNat_nat : ∀ c : Nat, c < 58 → (Char.ofNat c).toNat = c := by decide
theorem back_signs {l : List Nat} (h : NumText.AllDigits l) : (l.map Char.ofNat).map Char.toNat = l := by
  rw [List.map_map]
  refine (List.map_congr_left fun c hc => ?_).trans (List.map_id l)
  have := h c hc
  exact ofNat_nat c (by omega)
theorem dropW_len (p : Nat → Bool) : ∀ l : List Nat, (l.dropWhile p).length ≤ l.length
  | [] => Nat.le_refl _
  | c :: l => by
    rw [List.dropWhile_cons]
    split
    · exact Nat.le_succ_of_le (dropW_len p l)
    · exact Nat.le_refl _
/-- a number written anew is the same word just without needless noughts -/
theorem num_back {l : List Nat} (h : l.all figB = true) (h1 : 1 ≤ l.length) : TL.numL (NumText.digitsVal l) = l ↔ ¬ (l.head? = some 48 ∧ 1 < l.length) := by
  have hd := figs_digits h
  constructor
  · rintro e ⟨a, b⟩
    match l, a, b with
    | c :: d :: r, a, _ =>
      cases (show some c = some 48 from a)
      have t := NumText.toDigits_all (48 :: d :: r) hd
      have e2 := congrArg List.length e
      unfold TL.numL at e2
      rw [t, List.length_map] at e2
      have l2 := dropW_len (· == 48) (d :: r)
      rw [show (48 :: d :: r).dropWhile (· == 48) = (d :: r).dropWhile (· == 48) from rfl] at e2
      generalize (d :: r).dropWhile (· == 48) = m at e2 l2
      cases m with
      | nil => simp at e2
      | cons x y =>
        simp only [List.length_map, List.length_cons] at e2 l2
        omega
  · intro n
    match l, h1 with
    | c :: r, _ =>
      have t := NumText.toDigits_digitsVal r.length (c :: r) rfl hd (by
        cases r with
        | nil => exact .inl rfl
        | cons d r =>
          refine .inr ⟨c, _, rfl, ?_⟩
          have hc := hd.head
          by_cases e : c = 48
          · exact absurd ⟨by rw [e]; rfl, by simp⟩ n
          · omega)
      unfold TL.numL
      rw [t]
      exact back_signs hd
theorem num_text {z : Str} (h : z.cps.toList.all figB = true) (h1 : 1 ≤ z.cps.toList.length) : Str.ofString (toString ((NumText.digitsVal z.cps.toList : Nat) : Int)) = z ↔ ¬ (z.cps.toList.head? = some 48 ∧ 1 < z.cps.toList.length) := by
  rw [← num_back h h1]
  constructor
  · intro e
    have t := congrArg TL.tl e
    rw [TL.tl_num] at t
    exact t
  · intro e
    refine TL.ext_tl ?_
    rw [TL.tl_num]
    exact e
theorem numB_num {n : Nat} (h : (TL.numL n).length ≤ 31) : numB (TL.numL n) = true := by
  have h0 := TL.numL_ne n
  have h1 : 1 ≤ (TL.numL n).length := List.length_pos_iff.mpr h0
  have h2 := digits_figs (TL.numL_digits n)
  have h3 := (num_back h2 h1).mp (by rw [TL.numL_val])
  unfold numB
  rw [h2, decide_eq_true h1, decide_eq_true h]
  have : (decide ((TL.numL n).head? = some 48) && decide (1 < (TL.numL n).length)) = false := by
    rw [Bool.and_eq_false_iff, decide_eq_false_iff_not, decide_eq_false_iff_not]
    exact Decidable.not_and_iff_or_not.mp h3
  rw [this]
  rfl
theorem momW_num {i : Int} (h0 : 0 ≤ i) (h1 : i ≤ 1000000000000000000000000000000) : momW (Str.ofString (toString i)) = some i := by
  obtain ⟨n, rfl⟩ := Int.eq_ofNat_of_zero_le h0
  have l := lenZ h0 h1
  rw [TL.len_tl, TL.tl_num] at l
  have b := numB_num l
  unfold momW
  rw [show (Str.ofString (toString ((n : Nat) : Int))).cps.toList = TL.numL n from TL.tl_num n, TL.numL_val, if_pos ⟨b, h1⟩]
theorem numB_parts {l : List Nat} (h : numB l = true) : 1 ≤ l.length ∧ l.length ≤ 31 ∧ l.all figB = true ∧ ¬ (l.head? = some 48 ∧ 1 < l.length) := by
  unfold numB at h
  simp only [Bool.and_eq_true, decide_eq_true_eq, Bool.not_eq_true', Bool.and_eq_false_iff, decide_eq_false_iff_not] at h
  obtain ⟨a, b, c, d⟩ := h
  exact ⟨a, b, c, Decidable.not_and_iff_or_not.mpr d⟩
theorem momW_some {z : Str} {i : Int} (h : momW z = some i) : 0 ≤ i ∧ i ≤ 1000000000000000000000000000000 ∧ Str.ofString (toString i) = z := by
  unfold momW at h
  split at h
  · rename_i c
    obtain ⟨a, _, b, d⟩ := numB_parts c.1
    cases h
    exact ⟨Int.natCast_nonneg _, c.2, (num_text b a).mpr d⟩
  · cases h
theorem figs_int {z : Str} (h : z.cps.toList.all figB = true) (h1 : 1 ≤ z.length) (h2 : z.length ≤ 31) : intText? z = some ((NumText.digitsVal z.cps.toList : Nat) : Int) := by
  rw [len_tl] at h1
  exact intText_digits (figs_digits h) (List.length_pos_iff.mp h1) (by omega)
/-! ### texts split -/
theorem split_cons (x y : Str) : ∃ p r, Txt.split x y = p :: r := by
  unfold Txt.split
  split
  · exact ⟨_, _, rfl⟩
  · split
    · exact ⟨_, _, rfl⟩
    · rw [StrLaws.partsBetween_eq]
      exact StrLaws.partsFrom_ne _ _ _ _
theorem joinL_has {S p : List Nat} {c : Nat} (hc : c ∈ p) : ∀ {ps : List (List Nat)}, p ∈ ps → c ∈ TL.joinL S ps
  | [], h => by cases h
  | [a], h => by rw [List.mem_singleton.mp h] at hc; exact hc
  | a :: b :: r, h => by
    show c ∈ a ++ (S ++ TL.joinL S (b :: r))
    rcases List.mem_cons.mp h with h | h
    · rw [h] at hc
      exact List.mem_append_left _ hc
    · exact List.mem_append_right _ (List.mem_append_right _ (joinL_has hc h))
theorem low_split {x y p : Str} (h : Low x) (hp : p ∈ Txt.split x y) : Low p := fun c hc => by
  refine h c ?_
  have e := congrArg TL.tl (StrLaws.join_split x y)
  rw [TL.tl_join] at e
  rw [← show TL.tl x = x.cps.toList from rfl, ← e]
  exact joinL_has hc (List.mem_map.mpr ⟨p, hp, rfl⟩)
theorem split_part {x y p : Str} (hy : 1 ≤ y.length) (hp : p ∈ Txt.split x y) : p.length ≤ x.length := by
  have w := split_weight x y hy
  have h : ∀ l : List Str, p ∈ l → p.length + 1 ≤ (l.map (·.length)).sum + l.length := by
    intro l
    induction l with
    | nil => intro h; cases h
    | cons a l ih =>
      intro h
      simp only [List.map_cons, List.sum_cons, List.length_cons]
      rcases List.mem_cons.mp h with h | h
      · rw [h]; omega
      · have := ih h
        omega
  have := h _ hp
  omega
theorem split_len {x y : Str} (hy : 1 ≤ y.length) : (Txt.split x y).length ≤ x.length + 1 := by
  have w := split_weight x y hy
  omega
/-! ### what is right of an entry's words -/
def okW (k : Nat) (z : Str) : Bool := match k with
  | 0 => decide (z = Str.ofString "check")
  | 1 => nmOk z
  | 2 => (momW z).isSome
  | 3 => decide (z = Str.ofString "by")
  | _ => nmOk z
def badAt (ws : List Str) (at_ k : Nat) : Bool := match ws[at_ + k]? with
  | some z => !okW k z
  | none => true
def firstBad (ws : List Str) (at_ : Nat) : Option Nat := (List.range 5).find? (badAt ws at_)
def wordsOf (x : Str) : List Str := Txt.split ((Txt.split x zNl).headD Str.empty) zBlank
def duePg (x : Str) : Option (Int × Int) := match firstBad (wordsOf x) 0 with
  | some k => some (0, (k : Int))
  | none => if 5 < (wordsOf x).length then some (0, 5) else if 1 < (Txt.split x zNl).length then some (1, 0) else none
theorem bad_here {ws : List Str} {a k : Nat} (hk : k < 5) (h : badAt ws a k = true) (hb : ∀ j, j < k → badAt ws a j = false) : firstBad ws a = some k := by
  unfold firstBad
  rw [List.find?_range_eq_some]
  exact ⟨h, List.mem_range.mpr hk, fun j hj => by rw [hb j hj]; rfl⟩
theorem bad_none {ws : List Str} {a : Nat} (hb : ∀ j, j < 5 → badAt ws a j = false) : firstBad ws a = none := by
  unfold firstBad
  rw [List.find?_eq_none]
  intro j hj
  rw [hb j (List.mem_range.mp hj)]
  exact Bool.false_ne_true
theorem none_bad {ws : List Str} {a : Nat} (h : firstBad ws a = none) {k : Nat} (hk : k < 5) : ∃ z, ws[a + k]? = some z ∧ okW k z = true := by
  unfold firstBad at h
  rw [List.find?_eq_none] at h
  have := h k (List.mem_range.mpr hk)
  unfold badAt at this
  cases e : ws[a + k]? with
  | none => rw [e] at this; exact absurd rfl this
  | some z =>
    rw [e] at this
    refine ⟨z, rfl, ?_⟩
    simpa using this
def entText (t : Str) (i : Int) (b : Str) : Str := Str.empty ++ Str.ofString "check " ++ t ++ Str.ofString " " ++ Str.ofString (toString i) ++ Str.ofString " by " ++ b
def entWords (t : Str) (i : Int) (b : Str) : List Str := [Str.ofString "check", t, Str.ofString (toString i), Str.ofString "by", b]
theorem ent_join (t : Str) (i : Int) (b : Str) : Txt.join zBlank (entWords t i b) = entText t i b := by
  refine TL.ext_tl ?_
  rw [TL.join_eq, TL.tl_join]
  unfold entText entWords
  simp only [TL.tl_append]
  have e1 : TL.tl (Str.ofString "check ") = TL.tl (Str.ofString "check") ++ TL.tl zBlank := by decide +kernel
  have e2 : TL.tl (Str.ofString " by ") = TL.tl zBlank ++ TL.tl (Str.ofString "by") ++ TL.tl zBlank := by decide +kernel
  have e0 : TL.tl Str.empty = [] := rfl
  rw [e1, e2, e0]
  simp only [List.map_cons, List.map_nil, TL.joinL, List.nil_append, List.append_assoc]
theorem nm_free {z : Str} (h : nmOk z = true) {c : Nat} (hc : c < 48) : c ∉ z.cps.toList := fun m => by
  unfold nmOk at h
  simp only [Bool.and_eq_true] at h
  have a := List.all_eq_true.mp h.2.2.2 c m
  have e : zLetters.cps.toList.all (fun c => decide (97 ≤ c)) = true := by decide +kernel
  rcases Bool.or_eq_true_iff.mp a with a | a
  · have := List.all_eq_true.mp e c (of_decide_eq_true a)
    have := of_decide_eq_true this
    omega
  · have := (fig_iff c).mp a
    omega
theorem ent_free {t b : Str} {i : Int} (ht : nmOk t = true) (hb : nmOk b = true) (h0 : 0 ≤ i) {c : Nat} (hc : c < 48) : ∀ p ∈ entWords t i b, c ∉ TL.tl p := by
  intro p hp
  obtain ⟨n, rfl⟩ := Int.eq_ofNat_of_zero_le h0
  simp only [entWords, List.mem_cons, List.not_mem_nil, or_false] at hp
  have low : ∀ x : Str, x.cps.toList.all (fun c => decide (48 ≤ c)) = true → c ∉ TL.tl x := fun x hx m => by
    have := of_decide_eq_true (List.all_eq_true.mp hx c m)
    omega
  rcases hp with rfl | rfl | rfl | rfl | rfl
  · exact low _ (by decide +kernel)
  · exact nm_free ht hc
  · rw [TL.tl_num]
    exact TL.numL_free (.inl hc)
  · exact low _ (by decide +kernel)
  · exact nm_free hb hc
theorem ent_words {t b : Str} {i : Int} (ht : nmOk t = true) (hb : nmOk b = true) (h0 : 0 ≤ i) : Txt.split (entText t i b) zNl = [entText t i b] ∧ wordsOf (entText t i b) = entWords t i b := by
  have e1 : Txt.split (entText t i b) zNl = [entText t i b] := by
    have h := TL.split_join (y := zNl) (s := 10) (S := []) (by decide +kernel) (by decide +kernel) (parts := [entText t i b]) (by simp) (fun p hp => by
      rw [List.mem_singleton.mp hp, ← ent_join, TL.join_eq, TL.tl_join]
      intro m
      rcases joinL_mem m with m | ⟨q, hq, m⟩
      · have e : TL.tl zBlank = [32] := by decide +kernel
        rw [e] at m
        cases List.mem_singleton.mp m
      · obtain ⟨p, hp, rfl⟩ := List.mem_map.mp hq
        exact ent_free ht hb h0 (by decide) p hp m)
    exact h
  refine ⟨e1, ?_⟩
  unfold wordsOf
  rw [e1]
  show Txt.split (entText t i b) zBlank = _
  rw [← ent_join]
  exact TL.split_join (y := zBlank) (s := 32) (S := []) (by decide +kernel) (by decide +kernel) (by simp [entWords]) (ent_free ht hb h0 (by decide))
theorem ent_due {t b : Str} {i : Int} (ht : nmOk t = true) (hb : nmOk b = true) (h0 : 0 ≤ i) (h1 : i ≤ 1000000000000000000000000000000) : duePg (entText t i b) = none := by
  obtain ⟨e1, e2⟩ := ent_words ht hb h0 (i := i)
  have f : firstBad (entWords t i b) 0 = none := bad_none fun j hj => by
    match j, hj with
    | 0, _ => show (!okW 0 (Str.ofString "check")) = false; rfl
    | 1, _ => show (!nmOk t) = false; rw [ht]; rfl
    | 2, _ => show (!(momW (Str.ofString (toString i))).isSome) = false; rw [momW_num h0 h1]; rfl
    | 3, _ => show (!okW 3 (Str.ofString "by")) = false; rfl
    | 4, _ => show (!nmOk b) = false; rw [hb]; rfl
  unfold duePg
  rw [e2, f, e1]
  rfl
/-- a text with nothing due is that of its entry -/
theorem due_none {x : Str} (h : duePg x = none) : ∃ t i b, nmOk t = true ∧ nmOk b = true ∧ 0 ≤ i ∧ i ≤ 1000000000000000000000000000000 ∧ x = entText t i b ∧ wordsOf x = entWords t i b ∧ firstBad (wordsOf x) 0 = none := by
  unfold duePg at h
  cases f : firstBad (wordsOf x) 0 with
  | some k => rw [f] at h; cases h
  | none =>
    rw [f] at h
    simp only at h
    split at h
    · cases h
    · rename_i l5
      split at h
      · cases h
      · rename_i l1
        obtain ⟨z0, a0, b0⟩ := none_bad f (k := 0) (by decide)
        obtain ⟨z1, a1, b1⟩ := none_bad f (k := 1) (by decide)
        obtain ⟨z2, a2, b2⟩ := none_bad f (k := 2) (by decide)
        obtain ⟨z3, a3, b3⟩ := none_bad f (k := 3) (by decide)
        obtain ⟨z4, a4, b4⟩ := none_bad f (k := 4) (by decide)
        obtain ⟨i, hi⟩ : ∃ i, momW z2 = some i := Option.isSome_iff_exists.mp b2
        obtain ⟨i0, i1, ei⟩ := momW_some hi
        have ew : wordsOf x = entWords z1 i z4 := by
          have e0 : z0 = Str.ofString "check" := of_decide_eq_true b0
          have e3 : z3 = Str.ofString "by" := of_decide_eq_true b3
          have len : (wordsOf x).length = 5 := by
            have := (List.getElem?_eq_some_iff.mp a4).1
            omega
          match hw : wordsOf x, len with
          | [p0, p1, p2, p3, p4], _ =>
            rw [hw] at a0 a1 a2 a3 a4
            cases a0
            cases a1
            cases a2
            cases a3
            cases a4
            rw [e0, e3, ← ei]
            rfl
        obtain ⟨p, r, es⟩ := split_cons x zNl
        have er : r = [] := by
          rw [es] at l1
          cases r with
          | nil => rfl
          | cons q r => simp at l1
        refine ⟨z1, i, z4, b1, b4, i0, i1, ?_, ew, rfl⟩
        have ex := StrLaws.join_split x zNl
        rw [es, er] at ex
        have ex : p = x := ex
        have ej := StrLaws.join_split p zBlank
        have e2 : Txt.split p zBlank = entWords z1 i z4 := by
          rw [← ew]
          unfold wordsOf
          rw [es]
          rfl
        rw [e2, ← TL.join_eq, ent_join] at ej
        rw [← ex, ej]
end Q
namespace Q
open PySem PySem.Spec PyProof.Rows L2
/-! ### what the reader of an entry promises -/
def RetXf (G H : Hp) (cls : Addr) (fs : List (Str × V)) (E : XK) : Prop := ∀ d H' G', Same H H' → Gh G' H' → Same G G' → (∀ a, H a ≠ none → G' a = G a) → G' d = some (.xd fs) → E (.ref cls) (some d) H'
theorem retXf_of {G H G' H' : Hp} {M : List Addr} {cls d : Addr} {fs : List (Str × V)} {E : XK} (k : RetXf G H cls fs E) (w : Wd ⟨H, G, [], []⟩ G' H' M) (hd : G' d = some (.xd fs)) : E (.ref cls) (some d) H' :=
  k d H' G' (fun a o h => w.kp a o (by simp) h) w.gh w.gr w.fr hd
theorem retXf_use {e : En} {G H : Hp} {M : List Addr} {cls : Addr} {fs : List (Str × V)} {E : XK} (w : Wd e G H M) (k : ∀ d G' H', Wd e G' H' M → Same G G' → Same H H' → G' d = some (.xd fs) → E (.ref cls) (some d) H') : RetXf G H cls fs E :=
  fun d H' G' s1 s2 s3 fr hd => ret_use (P := fun _ G' => G' d = some (.xd fs)) (Q := fun _ H' => E (.ref cls) (some d) H') w (fun _ G' H' w' a b p => k d G' H' w' a b p) .non H' G' s1 s2 s3 fr hd
def textF (l k : Int) : List (Str × V) := [("word", .int k), ("line", .int l)]
def entForms : List Str := [Str.ofString "check", Str.ofString "TOOL", Str.ofString "MOMENT", Str.ofString "by", Str.ofString "TOOL"]
def canB (f z : Str) : Bool := if f = Str.ofString "TOOL" ∨ f = Str.ofString "NAME" then nmOk z else if f = Str.ofString "MOMENT" then (momW z).isSome else decide (z = f)
theorem can_ok : ∀ k, k < 5 → ∀ f z, entForms[k]? = some f → canB f z = okW k z
  | 0, _, f, z, h => by cases (show some (Str.ofString "check") = some f from h); unfold canB; rw [if_neg (by decide +kernel), if_neg (by decide +kernel)]; rfl
  | 1, _, f, z, h => by cases (show some (Str.ofString "TOOL") = some f from h); unfold canB; rw [if_pos (.inl rfl)]; rfl
  | 2, _, f, z, h => by cases (show some (Str.ofString "MOMENT") = some f from h); unfold canB; rw [if_neg (by decide +kernel), if_pos rfl]; rfl
  | 3, _, f, z, h => by cases (show some (Str.ofString "by") = some f from h); unfold canB; rw [if_neg (by decide +kernel), if_neg (by decide +kernel)]; rfl
  | 4, _, f, z, h => by cases (show some (Str.ofString "TOOL") = some f from h); unfold canB; rw [if_pos (.inl rfl)]; rfl
def spMomIn : Sp := fun vs H Q _ => ∃ (G : Hp) (z : Str), vs = [.str z] ∧ Gh G H ∧ z.length ≤ 1000000 ∧ Ret G H (fun v _ => v = optI (momW z)) Q
def spCan : Sp := fun vs H Q _ => ∃ (G : Hp) (f z : Str), vs = [.str f, .str z] ∧ Gh G H ∧ z.length ≤ 1000000 ∧ Ret G H (fun v _ => v = .bl (canB f z)) Q
def WsAt (G : Hp) (p : Addr) (ws : List Str) : Prop := G p = some (.lst (ws.map V.str)) ∧ ws.length ≤ 1000000 ∧ ∀ z ∈ ws, z.length ≤ 1000000
def spNeed (K : PySem.W.Frag) (Ct : Addr) : Sp := fun vs H Q E => ∃ (G : Hp) (l : Int) (p f : Addr) (ws : List Str) (n : Nat), vs = [.int l, .ref p, .int n, .ref f] ∧ Gh G H ∧ WsAt G p ws ∧ n ≤ 1000000 ∧ SqT K G f (entForms.map V.str) ∧
  (firstBad ws n = none → Ret G H (fun v _ => v = .non) Q) ∧ ∀ k, firstBad ws n = some k → RetXf G H Ct (textF l ((n : Int) + (k : Int))) E
def spNeedEnd (Ct : Addr) : Sp := fun vs H Q E => ∃ (G : Hp) (l : Int) (p : Addr) (ws : List Str) (n : Nat), vs = [.int l, .ref p, .int n] ∧ Gh G H ∧ WsAt G p ws ∧
  (ws.length ≤ n → Ret G H (fun v _ => v = .non) Q) ∧ (n < ws.length → RetXf G H Ct (textF l (n : Int)) E)
def LinesAt (G : Hp) (p : Addr) (z : Str) : Prop := ∃ vs q, G p = some (.lst vs) ∧ vs.length = (Txt.split z zNl).length ∧ vs[0]? = some (.ref q) ∧ WsAt G q (wordsOf z)
def spLines (K : PySem.W.Frag) (Ct : Addr) : Sp := fun vs H Q E => ∃ (G : Hp) (x : V) (t : Value), vs = [x] ∧ Gh G H ∧ Kd K G x t ∧ (∀ z, x = .str z → z.length ≤ 100000 ∧ Ret G H (fun v G' => ∃ p, v = .ref p ∧ LinesAt G' p z) Q) ∧
  ((∀ z, x ≠ .str z) → RetXf G H Ct (textF 0 0) E)
def spOneLine (Ct : Addr) : Sp := fun vs H Q E => ∃ (G : Hp) (p : Addr) (z : Str) (n : Nat), vs = [.ref p, .int n] ∧ Gh G H ∧ LinesAt G p z ∧ z.length ≤ 100000 ∧
  (¬ n < (wordsOf z).length → ¬ 1 < (Txt.split z zNl).length → Ret G H (fun v _ => v = .non) Q) ∧ (n < (wordsOf z).length → RetXf G H Ct (textF 0 (n : Int)) E) ∧ (¬ n < (wordsOf z).length → 1 < (Txt.split z zNl).length → RetXf G H Ct (textF 1 0) E)
def spEntryAt (Ct : Addr) : Sp := fun vs H Q E => ∃ (G : Hp) (p : Addr) (ws : List Str) (n : Nat), vs = [.ref p, .int n] ∧ Gh G H ∧ WsAt G p ws ∧ n ≤ 100000 ∧
  (firstBad ws n = none → ∀ t m b, ws[n + 1]? = some t → ws[n + 2]? = some m → ws[n + 4]? = some b → Ret G H (fun v G' => ∃ p, v = .ref p ∧ G' p = some (.tup [.str t, optI (momW m), .str b])) Q) ∧
  ∀ k, firstBad ws n = some k → RetXf G H Ct (textF 0 ((n : Int) + (k : Int))) E
def readDue : V → Option (Int × Int)
  | .str z => duePg z
  | _ => some (0, 0)
def RightE (t : Str) (i : Int) (b : Str) : Prop := nmOk t = true ∧ nmOk b = true ∧ 0 ≤ i ∧ i ≤ 1000000000000000000000000000000
def spParts (K : PySem.W.Frag) (Ct : Addr) : Sp := fun vs H Q E => ∃ (G : Hp) (x : V) (u : Value), vs = [x] ∧ Gh G H ∧ Kd K G x u ∧ (∀ z, x = .str z → z.length ≤ 100000) ∧
  (∀ t i b, RightE t i b → x = .str (entText t i b) → Ret G H (fun v G' => ∃ p, v = .ref p ∧ G' p = some (.tup [.str t, .int i, .str b])) Q) ∧ ∀ l k, readDue x = some (l, k) → RetXf G H Ct (textF l k) E
/-! ### entries -/
structure EnC (K : PySem.W.Frag) (C : Addr) : Prop where
  c : Cls K C
  n1 : NoAttr K C "tool"
  n2 : NoAttr K C "moment"
  n3 : NoAttr K C "by"
  n4 : NoAttr K C "face"
  ca : PySem.W.findIn K (.ref C) "__class__" = some (some (.builtin "object.__class__"))
  cn : PySem.W.specialIn K (.builtin "object.__class__") "__get__" = some (some (.builtin "getset_descriptor.__get__"))
  ct : PySem.W.takesIn K (.builtin "object.__class__") = some true
  cm : PySem.W.mroIn K C (.type "object") = some true
  me : PySem.W.kitOne K (.ref C) (.ref C) = some true
  tup : PySem.W.kitOne K (.type "tuple") (.ref C) = some false
  fme : PySem.W.notFirst K C (.ref C) = true
def faceE (t : Str) (i : Int) (b : Str) : PyData := .tuple [.str t, .int i, .str b]
def EntAt (C : Addr) (G : Hp) (a : Addr) (t : Str) (i : Int) (b : Str) : Prop := RightE t i b ∧ ∃ dx fc, G a = some (.ins C dx [("tool", .str t), ("moment", .int i), ("by", .str b), ("face", .ref fc)]) ∧ G fc = some (.tup [.str t, .int i, .str b])
theorem EntAt.same {C a : Addr} {G G' : Hp} {t b : Str} {i : Int} (h : EntAt C G a t i b) (s : Same G G') : EntAt C G' a t i b := by
  obtain ⟨r, dx, fc, h1, h2⟩ := h
  exact ⟨r, dx, fc, s _ _ h1, s _ _ h2⟩
theorem RightE.mom {t b : Str} {i : Int} (h : RightE t i b) : momV (.int i) 0 = true := by
  show (_ && _) = true
  rw [decide_eq_true h.2.2.1, decide_eq_true h.2.2.2] <;> rfl
def spEntInit (C : Addr) : Sp := fun vs H Q _ => ∃ (G : Hp) (x dx : Addr) (t : Str) (i : Int) (b : Str), vs = [.ref x, .str t, .int i, .str b] ∧ Gh G H ∧ G x = none ∧ H x = some (.ins C dx []) ∧ RightE t i b ∧
  ∀ (G' H' : Hp) (fc : Addr), But x H H' → Gh G' H' → Same G G' → (∀ a, H a ≠ none → G' a = G a) → G' fc = some (.tup [.str t, .int i, .str b]) → H' x = some (.ins C dx [("tool", .str t), ("moment", .int i), ("by", .str b), ("face", .ref fc)]) → Q .non H'
theorem u_ent {C : Addr} {e : En} {G H : Hp} {M : List Addr} {t b : Str} {i : Int} {Qv : VK} {E : XK} (w : Wd e G H M) (r : RightE t i b)
    (k : ∀ a G' H', Wd e G' H' M → Same G G' → Same H H' → EntAt C G' a t i b → Qv (.ref a) H') : MakeGo C (spEntInit C) [.str t, .int i, .str b] E H Qv := by
  refine make_go w fun x dx G1 H1 hx nm s1 t1 w1 h1 n0 => ?_
  refine ⟨G1, x, dx, t, i, b, rfl, w1.gh, (w1.mu x List.mem_cons_self).1, h1, r, fun G2 H2 fc b2 s2 s3 fr hf h2 => ⟨rfl, ?_⟩⟩
  have w2 : Wd e G2 H2 (x :: M) := by
    have w3 := wd_but w1 List.mem_cons_self b2 h2
    refine ⟨s2.1, fun a ha => ?_, w1.nd, w3.dom, fun a o h => s3 _ _ (w1.gr _ _ h), fun a ha => by rw [fr a (w1.dom a ha)]; exact w1.fr a ha, w3.kp, s2.2, w3.mt, w3.tb⟩
    obtain ⟨g1, ⟨o, g2⟩, g3⟩ := w1.mu a ha
    obtain ⟨_, g4, _⟩ := w3.mu a ha
    exact ⟨by rw [fr a (some_ne g2)]; exact g1, g4, g3⟩
  obtain ⟨w4, s4⟩ := wd_freeze w2 h2 n0
  refine k x _ H2 w4 (s1.trans (s3.trans s4)) (fun a o h => ?_) ⟨r, dx, fc, upd_same, s4 _ _ hf⟩
  refine b2 a o (fun q => ?_) (t1 _ _ h)
  subst q
  rw [hx] at h
  cases h
/-- == of an entry and an entry -/
def spEntEq (C : Addr) : Sp := fun vs H Q _ => ∃ (G : Hp) (a c : Addr) (t : Str) (i : Int) (b : Str), vs = [.ref a, .ref c] ∧ Gh G H ∧ EntAt C G a t i b ∧ EntAt C G c t i b ∧ Ret G H (fun v _ => v = .bl true) Q
def spEntStr (C : Addr) : Sp := fun vs H Q _ => ∃ (G : Hp) (a : Addr) (t : Str) (i : Int) (b : Str), vs = [.ref a] ∧ Gh G H ∧ EntAt C G a t i b ∧ Ret G H (fun v _ => v = .str (entText t i b)) Q
def spRead (K : PySem.W.Frag) (C Ct : Addr) : Sp := fun vs H Q E => ∃ (G : Hp) (x : V) (u : Value), vs = [.ref C, x] ∧ Gh G H ∧ Kd K G x u ∧ (∀ z, x = .str z → z.length ≤ 100000) ∧
  (∀ t i b, RightE t i b → x = .str (entText t i b) → Ret G H (fun v G' => ∃ a, v = .ref a ∧ EntAt C G' a t i b) Q) ∧ ∀ l k, readDue x = some (l, k) → RetXf G H Ct (textF l k) E
section
variable {K : PySem.W.Frag} {C Ct : Addr} {e : En} {G H : Hp} {M : List Addr} {Q : VK} {E : XK}
theorem EnC.ty (S : EnC K C) {a : Addr} {t b : Str} {i : Int} (h : EntAt C G a t i b) : TyX K G (.ref a) (.ref C) := by
  obtain ⟨_, dx, fc, h1, _⟩ := h
  exact .base (.ins h1 S.c S.ca S.cn S.ct S.cm)
theorem u_momIn {z : Str} (w : Wd e G H M) (h : z.length ≤ 1000000) (k : ∀ G' H', Wd e G' H' M → Same G G' → Same H H' → Q (optI (momW z)) H') : spMomIn [.str z] H Q E :=
  ⟨G, z, rfl, w.gh, h, ret_use w fun v G' H' w' s1 s2 p => by subst p; exact k G' H' w' s1 s2⟩
theorem u_can {f z : Str} (w : Wd e G H M) (h : z.length ≤ 1000000) (k : ∀ G' H', Wd e G' H' M → Same G G' → Same H H' → Q (.bl (canB f z)) H') : spCan [.str f, .str z] H Q E :=
  ⟨G, f, z, rfl, w.gh, h, ret_use w fun v G' H' w' s1 s2 p => by subst p; exact k G' H' w' s1 s2⟩
theorem u_need {l : Int} {p f : Addr} {ws : List Str} {n : Nat} (w : Wd e G H M) (h : WsAt G p ws) (hn : n ≤ 1000000) (hf : SqT K G f (entForms.map V.str)) (good : firstBad ws n = none → ∀ G' H', Wd e G' H' M → Same G G' → Same H H' → Q .non H')
    (bad : ∀ k, firstBad ws n = some k → ∀ d G' H', Wd e G' H' M → Same G G' → Same H H' → G' d = some (.xd (textF l ((n : Int) + (k : Int)))) → E (.ref Ct) (some d) H') : spNeed K Ct [.int l, .ref p, .int n, .ref f] H Q E :=
  ⟨G, l, p, f, ws, n, rfl, w.gh, h, hn, hf, fun c => ret_use w fun v G' H' w' s1 s2 p => by subst p; exact good c G' H' w' s1 s2, fun k c => retXf_use w (bad k c)⟩
theorem u_needEnd {l : Int} {p : Addr} {ws : List Str} {n : Nat} (w : Wd e G H M) (h : WsAt G p ws) (good : ws.length ≤ n → ∀ G' H', Wd e G' H' M → Same G G' → Same H H' → Q .non H')
    (bad : n < ws.length → ∀ d G' H', Wd e G' H' M → Same G G' → Same H H' → G' d = some (.xd (textF l (n : Int))) → E (.ref Ct) (some d) H') : spNeedEnd Ct [.int l, .ref p, .int n] H Q E :=
  ⟨G, l, p, ws, n, rfl, w.gh, h, fun c => ret_use w fun v G' H' w' s1 s2 p => by subst p; exact good c G' H' w' s1 s2, fun c => retXf_use w (bad c)⟩
theorem u_lines {x : V} {t : Value} (w : Wd e G H M) (hx : Kd K G x t) (hz : ∀ z, x = .str z → z.length ≤ 100000) (good : ∀ z, x = .str z → ∀ p G' H', Wd e G' H' M → Same G G' → Same H H' → LinesAt G' p z → Q (.ref p) H')
    (bad : (∀ z, x ≠ .str z) → ∀ d G' H', Wd e G' H' M → Same G G' → Same H H' → G' d = some (.xd (textF 0 0)) → E (.ref Ct) (some d) H') : spLines K Ct [x] H Q E :=
  ⟨G, x, t, rfl, w.gh, hx, fun z c => ⟨hz z c, ret_use w fun v G' H' w' s1 s2 ⟨p, e1, e2⟩ => by subst e1; exact good z c p G' H' w' s1 s2 e2⟩, fun c => retXf_use w (bad c)⟩
theorem u_oneLine {p : Addr} {z : Str} {n : Nat} (w : Wd e G H M) (h : LinesAt G p z) (hz : z.length ≤ 100000) (good : ¬ n < (wordsOf z).length → ¬ 1 < (Txt.split z zNl).length → ∀ G' H', Wd e G' H' M → Same G G' → Same H H' → Q .non H')
    (bad1 : n < (wordsOf z).length → ∀ d G' H', Wd e G' H' M → Same G G' → Same H H' → G' d = some (.xd (textF 0 (n : Int))) → E (.ref Ct) (some d) H')
    (bad2 : ¬ n < (wordsOf z).length → 1 < (Txt.split z zNl).length → ∀ d G' H', Wd e G' H' M → Same G G' → Same H H' → G' d = some (.xd (textF 1 0)) → E (.ref Ct) (some d) H') : spOneLine Ct [.ref p, .int n] H Q E :=
  ⟨G, p, z, n, rfl, w.gh, h, hz, fun c c2 => ret_use w fun v G' H' w' s1 s2 p => by subst p; exact good c c2 G' H' w' s1 s2, fun c => retXf_use w (bad1 c), fun c c2 => retXf_use w (bad2 c c2)⟩
theorem u_entryAt {p : Addr} {ws : List Str} {n : Nat} (w : Wd e G H M) (h : WsAt G p ws) (hn : n ≤ 100000)
    (good : firstBad ws n = none → ∀ t m b, ws[n + 1]? = some t → ws[n + 2]? = some m → ws[n + 4]? = some b → ∀ p G' H', Wd e G' H' M → Same G G' → Same H H' → G' p = some (.tup [.str t, optI (momW m), .str b]) → Q (.ref p) H')
    (bad : ∀ k, firstBad ws n = some k → ∀ d G' H', Wd e G' H' M → Same G G' → Same H H' → G' d = some (.xd (textF 0 ((n : Int) + (k : Int)))) → E (.ref Ct) (some d) H') : spEntryAt Ct [.ref p, .int n] H Q E :=
  ⟨G, p, ws, n, rfl, w.gh, h, hn, fun c t m b h1 h2 h3 => ret_use w fun v G' H' w' s1 s2 ⟨p, e1, e2⟩ => by subst e1; exact good c t m b h1 h2 h3 p G' H' w' s1 s2 e2, fun k c => retXf_use w (bad k c)⟩
theorem u_parts {x : V} {u : Value} (w : Wd e G H M) (hx : Kd K G x u) (hz : ∀ z, x = .str z → z.length ≤ 100000) (good : ∀ t i b, RightE t i b → x = .str (entText t i b) → ∀ p G' H', Wd e G' H' M → Same G G' → Same H H' → G' p = some (.tup [.str t, .int i, .str b]) → Q (.ref p) H')
    (bad : ∀ l k, readDue x = some (l, k) → ∀ d G' H', Wd e G' H' M → Same G G' → Same H H' → G' d = some (.xd (textF l k)) → E (.ref Ct) (some d) H') : spParts K Ct [x] H Q E :=
  ⟨G, x, u, rfl, w.gh, hx, hz, fun t i b r c => ret_use w fun v G' H' w' s1 s2 ⟨p, e1, e2⟩ => by subst e1; exact good t i b r c p G' H' w' s1 s2 e2, fun l k c => retXf_use w (bad l k c)⟩
theorem u_read {x : V} {u : Value} (w : Wd e G H M) (hx : Kd K G x u) (hz : ∀ z, x = .str z → z.length ≤ 100000) (good : ∀ t i b, RightE t i b → x = .str (entText t i b) → ∀ a G' H', Wd e G' H' M → Same G G' → Same H H' → EntAt C G' a t i b → Q (.ref a) H')
    (bad : ∀ l k, readDue x = some (l, k) → ∀ d G' H', Wd e G' H' M → Same G G' → Same H H' → G' d = some (.xd (textF l k)) → E (.ref Ct) (some d) H') : spRead K C Ct [.ref C, x] H Q E :=
  ⟨G, x, u, rfl, w.gh, hx, hz, fun t i b r c => ret_use w fun v G' H' w' s1 s2 ⟨p, e1, e2⟩ => by subst e1; exact good t i b r c p G' H' w' s1 s2 e2, fun l k c => retXf_use w (bad l k c)⟩
theorem u_entEq {a c : Addr} {t b : Str} {i : Int} (w : Wd e G H M) (h1 : EntAt C G a t i b) (h2 : EntAt C G c t i b) (k : ∀ G' H', Wd e G' H' M → Same G G' → Same H H' → Q (.bl true) H') : spEntEq C [.ref a, .ref c] H Q E :=
  ⟨G, a, c, t, i, b, rfl, w.gh, h1, h2, ret_use w fun v G' H' w' s1 s2 p => by subst p; exact k G' H' w' s1 s2⟩
theorem u_entStr {a : Addr} {t b : Str} {i : Int} (w : Wd e G H M) (h1 : EntAt C G a t i b) (k : ∀ G' H', Wd e G' H' M → Same G G' → Same H H' → Q (.str (entText t i b)) H') : spEntStr C [.ref a] H Q E :=
  ⟨G, a, t, i, b, rfl, w.gh, h1, ret_use w fun v G' H' w' s1 s2 p => by subst p; exact k G' H' w' s1 s2⟩
end
theorem shaped_faceE {t b : Str} {i : Int} (h : RightE t i b) : SeqAt.shaped (faceE t i b) = true := by
  have e := nmOk_str h.1
  have e2 := nmOk_str h.2.1
  simp [faceE, SeqAt.shaped, PyData.canLay0, PyData.canLayAll0, PyData.depth, PyData.depthAll, e, e2]
theorem eq_faceE {t b : Str} {i : Int} : PyData.eqv (faceE t i b) (faceE t i b) = true := by simp [faceE, PyData.eqv, PyData.eqvAll]
end Q
namespace Q
open PySem PySem.Spec PyProof.Rows L2
/-! ### enumerate of a tuple -/
abbrev tupIt (q : Addr) : Obj := { cls := .type "tuple_iterator", data := .fields #[.ref q, .int 0 0] }
abbrev enOf (z : Addr) : Obj := { cls := .type "enumerate", data := .fields #[.none, .bool false, .ref z, rawInt 0, .none, .none] }
set_option maxHeartbeats 1000000 in
theorem new_enT (q : Addr) (its : Array Value) :
    Meets (Builtin.«enumerate.__new__» ⟨[.type "enumerate", .ref q], []⟩) (fun _ R z => z.heap.IsTuple q its ∧ R (.ok (.ret (.ref (z.heap.push (tupIt q)).objs.size))) { z with heap := (z.heap.push (tupIt q)).push (enOf z.heap.objs.size) }) :=
  .of_wp fun P1 w1 A1 R1 z hz => by
    obtain ⟨h0, g0, d0, k0, o0⟩ := z
    obtain ⟨ht, hz⟩ := hz
    have sub := sub_enumerate
    have go : ∀ {A2 : Around} {E2 : Value → Shared → Prop} {Q2 : Value → Shared → Prop}, Q2 (.ref h0.objs.size) ⟨h0.push (tupIt q), g0, d0, k0, o0⟩ → wpAny (model P1 w1) A2 (pyIter (.ref q)) Q2 E2 ⟨h0, g0, d0, k0, o0⟩ :=
      fun y => (begins_tuple q its).iter P1 w1 _ _ ⟨h0, g0, d0, k0, o0⟩ _ ht y
    wp_walk using go
    refine wpAny_stack_any fun _ => wpAny_pure ?_
    split
    · rename_i cl _ _ _ _ _
      cases (cl == Value.type "enumerate") <;> (wp_walk using go; exact ⟨_, rfl, hz⟩)
    · wp_walk using go
      exact ⟨_, rfl, hz⟩
theorem call_enT {P1 : Program} {w1 : World} {A1 : Around} {E1 : Value → Shared → Prop} {z : Shared} {q : Addr} {its : Array Value} {Q1 : Value → Shared → Prop} (ht : z.heap.IsTuple q its)
    (k : ∀ h1, IsEnum h1 (z.heap.objs.size + 1) z.heap.objs.size 0 .none → h1.IsTupleIter z.heap.objs.size q 0 → (∀ b o, z.heap.get? b = some o → h1.get? b = some o) → Q1 (.ref (z.heap.objs.size + 1)) { z with heap := h1 }) :
    wpAny (model P1 w1) A1 (call (.type "enumerate") [.ref q]) Q1 E1 z := by
  have sz : (z.heap.push (tupIt q)).objs.size = z.heap.objs.size + 1 := Heap.size_push ..
  have en : IsEnum ((z.heap.push (tupIt q)).push (enOf z.heap.objs.size)) (z.heap.objs.size + 1) z.heap.objs.size 0 .none := by
    have y := Heap.get?_push_size (z.heap.push (tupIt q)) (o := enOf z.heap.objs.size) rfl
    rw [sz] at y
    exact y
  have fin := k _ en ⟨_, Heap.get?_push_of_some _ (Heap.get?_push_size _ rfl), rfl, rfl⟩ fun b o x => Heap.get?_push_of_some _ (Heap.get?_push_of_some _ x)
  have ty : { z with heap := (z.heap.push (tupIt q)).push (enOf z.heap.objs.size) }.TypeIs (.ref (z.heap.objs.size + 1)) "enumerate" := ⟨_, en, rfl⟩
  refine callType_new F.called_enumerate (by decide) (F.typeCall_enumerate_1 _) (F.newCall_enumerate_1 _) (fun _ => F.args_object_init_2 _ _) F.entry_enumerate_new (new_enT q its) ⟨ht, ?_⟩
  rw [sz]
  exact ⟨ty, fin⟩
/-- the tuple at a, each item in a new pair -/
def IteT (K : PySem.W.Frag) (a : Addr) : It :=
  ⟨fun i H => ∃ (xs : List V) (x : V), SqT K H a xs ∧ xs[i]? = some x, fun i H v H' => ∃ T x, v = .ref T ∧ H T = none ∧ H' = upd H T (.tup [.int (i : Nat), x]) ∧ ∀ xs, SqT K H a xs → xs[i]? = some x, fun i H => ∃ xs : List V, SqT K H a xs ∧ xs.length ≤ i⟩
theorem turn_enT {P : Program} {w : World} {K : PySem.W.Frag} {elts : List Expr} {kk : Nat} {tpos : Pos} {a e it : Addr} (ne : e ≠ it) (nt : a ≠ it) (nae : a ≠ e) :
    Turn P w K (.Tuple elts kk tpos) (IteT K a) [e, it] e (fun i h => (∃ old, IsEnum h e it ((i : Nat) : Int) old) ∧ h.IsTupleIter it a i) where
  mem := List.mem_cons_self
  obj := fun i h st b hb => by
    obtain ⟨⟨old, he⟩, o1, e1, _, d1⟩ := st
    simp only [List.mem_cons, List.not_mem_nil, or_false] at hb
    rcases hb with rfl | rfl
    · exact ⟨_, he, fun v q => nomatch q⟩
    · exact ⟨o1, e1, fun v q => by rw [d1] at q; cases q⟩
  keep := fun i h h' st k => let ⟨⟨old, he⟩, hi⟩ := st; ⟨⟨old, k e (by simp) _ he⟩, hi.at fun o q => k it (by simp) o q⟩
  item := by
    intro X hP hw hK hc i pins s σ H E I hf st hg
    subst hP hw hK
    obtain ⟨⟨old, he⟩, hit⟩ := st
    obtain ⟨xs, x, hq, hx⟩ := hg
    obtain ⟨its, rv, p, hz⟩ := I.tuple hq
    obtain ⟨u, hu, ru⟩ := rv.get hx
    have le : e < s.heap.objs.size := Heap.lt_size he
    have li : it < s.heap.objs.size := by obtain ⟨_, q, _⟩ := hit; exact Heap.lt_size q
    have hi : i < its.toArray.size := by
      have := (List.getElem?_eq_some_iff.mp hu).1
      simpa using this
    have hh : X.A.in1.handled = none := I.ok.hd hc
    refine wpAny_pyNext_enum_itemC (Draws.tuple hh it a nt its.toArray) he ⟨hit, p⟩ hi ne (by simp [ne, Ne.symm nae]) fun y h' tk hy ho hst hT hsz hk => ?_
    have hy2 : its.toArray[i]? = some y := hy
    have ey : u = y := by
      rw [List.getElem?_toArray, hu] at hy2
      exact Option.some.inj hy2
    subst ey
    refine ⟨_, rfl, wpAny_letOwnedTupleGo_enum (s := { s with heap := h', toks := tk + 1 }) ho fun g he' sb => ?_⟩
    have hT2 : g.get? s.heap.objs.size = some { cls := .type "tuple", data := .seq #[.int i tk, u] } := (sb.2 _ (Nat.ne_of_gt le)).trans hT
    have new : ObjOk X.prog X.w (upd H s.heap.objs.size (.tup [.int (i : Nat), x])) g s.heap.objs.size (.tup [.int (i : Nat), x]) :=
      ⟨by show 2 ≤ sizeLine; decide, [.int i tk, u], .cons ⟨_, rfl⟩ (.cons ru .nil), ⟨_, hT2, rfl, _, rfl⟩⟩
    have I1 : Inv X pins σ (upd H s.heap.objs.size (.tup [.int (i : Nat), x])) { s with heap := g, toks := tk + 1 } :=
      I.turnedNew (t' := tk + 1) (ch := [e, it]) (fun b ob hb q => (sb.2 b (fun z => hb (by simp [z]))).trans (hk b ob (fun z => hb (by simp [z])) (fun z => hb (by simp [z])) q)) hf (Nat.le_refl _) new
    refine ⟨.ref s.heap.objs.size, _, I1, rfl, ⟨_, x, rfl, I.hok.fresh (Nat.le_refl _), rfl, fun ys hy => by rw [I.tuple_inj hy hq]; exact hx⟩, ⟨⟨u, ?_⟩, hst.1.at fun o q => (sb.2 it ne.symm).trans q⟩, fun b hb => ?_⟩
    · have e1 : ((i + 1 : Nat) : Int) = (i : Int) + 1 := by omega
      rw [e1]
      exact he'
    · have lb : b < s.heap.objs.size := by
        rcases List.mem_cons.mp hb with z | z
        · rw [z]; exact le
        · rw [List.mem_singleton.mp z]; exact li
      rw [upd_ne (Nat.ne_of_lt lb)]
      exact (hf b hb).1
  done := by
    intro X hP hw hK hc i pins s σ H E I hf st hg
    subst hP hw hK
    obtain ⟨⟨old, he⟩, hit⟩ := st
    obtain ⟨xs, hq, hx⟩ := hg
    obtain ⟨its, rv, p, hz⟩ := I.tuple hq
    obtain ⟨f0, f1, f2, f3, f4, f5⟩ := hf it (by simp)
    have hl := rv.length
    have hh : X.A.in1.handled = none := I.ok.hd hc
    have D : Draws X.prog X.w X.A.in1 it [it, a] its.toArray.size (fun j v => its.toArray[j]? = some v) (fun j h => ∃ m, (m = j ∨ its.toArray.size ≤ m ∧ its.toArray.size ≤ j) ∧ h.IsTupleIter it a m ∧ h.IsTuple a its.toArray) :=
      ⟨fun _ _ ⟨_, _, y, _⟩ => let ⟨o, ho, _⟩ := y; ⟨o, ho⟩, fun _ _ _ ⟨m, hm, y1, y2⟩ hk => ⟨m, hm, y1.at fun o q => hk it (by simp) o q, y2.at fun o q => hk a (by simp) o q⟩, fun j s2 Q2 E2 hj ⟨m, hm, y1, y2⟩ h2 => by
        obtain rfl : m = j := by omega
        exact (Draws.tuple hh it a nt its.toArray).item m s2 Q2 E2 hj ⟨y1, y2⟩ fun x h' tk a1 a2 a3 => h2 x h' tk a1 ⟨m + 1, .inl rfl, a2⟩ a3, fun s2 Q2 E2 ⟨m, hm, y1, y2⟩ h2 => by
        have le : its.toArray.size ≤ m := by omega
        exact wpAny_nextOf_tuple_end hh y1 y2 (by simpa using le) h2⟩
    have le : its.toArray.size ≤ i := by
      have e : its.toArray.size = its.length := by simp
      omega
    exact wpAny_pyNext_enum_endD D he ⟨i, .inr ⟨le, Nat.le_refl _⟩, hit, p⟩ fun h' eb => ⟨rfl, I.turned (t' := s.toks) (fun b o hb q => eb b o hb q) f0 f1 f3 f4 f5⟩
  self := fun A i s Q E st h => let ⟨⟨_, he⟩, _⟩ := st; wpAny_pyIter_enum he h
def iEnumT (K : PySem.W.Frag) (ta : TA) : TI := fun σ H R => ta σ H fun vs H1 => ∃ a xs, vs = [.ref a] ∧ SqT K H1 a xs ∧ R (IteT K a) H1
theorem pi_enumT {X : Cx} {e : Expr} {ta : TA} {p pos tpos : Pos} {elts : List Expr} {kk : Nat} (hg : Gl X "enumerate") (hm : X.mg "enumerate" = none) (ha : PA X [e] ta) (hs : starEach [e] X.env = [(false, eval e X.env)] := by rfl) :
    PI X (.Tuple elts kk tpos) (.Call (.Name "enumerate" p) [e] [] pos) (iEnumT X.K ta) := by
  refine ⟨fun pins s σ H R I0 q0 => Call_ (ld_blt I0 hg hm boot_enumerate (PyProof.Rows.callWith_type1 (thn (ha.run pos pins s σ H _ I0 q0) fun us s1 z => ?_) hs rfl))⟩
  obtain ⟨_, H1, I1, r1, a, xs, rfl, hq, q⟩ := z
  obtain ⟨_, rfl, ra⟩ := Vals.one r1
  cases (show _ = Value.ref a from ra)
  obtain ⟨its, rv, pt, hz⟩ := I1.tuple hq
  have la : a < s1.heap.objs.size := by obtain ⟨o, y, _⟩ := id pt; exact Heap.lt_size y
  refine call_enT pt fun h' he hit hk => wpAny_pyIter_enum he ?_
  have I2 : Inv X pins σ H1 { s1 with heap := h' } := I1.kept (t' := s1.toks) hk
  refine ⟨s1.heap.objs.size + 1, [s1.heap.objs.size + 1, s1.heap.objs.size], _, _, H1, rfl, I2, turn_enT (Nat.succ_ne_self _) (Nat.ne_of_lt la) (Nat.ne_of_lt (Nat.lt_succ_of_lt la)), ⟨⟨.none, he⟩, hit⟩, fun b hb => ?_, q⟩
  have lb : s1.heap.objs.size ≤ b := by
    rcases List.mem_cons.mp hb with z | z
    · rw [z]
      exact Nat.le_succ _
    · rw [List.mem_singleton.mp z]
      exact Nat.le_refl _
  exact I1.fpOk lb (I1.hok.fresh lb)
theorem walk_enumT {K : PySem.W.Frag} {a : Addr} {xs : List V} : Walk (IteT K a) xs.length (fun H => SqT K H a xs) (YPair (fun i => some (.int (i : Nat))) (fun i => xs[i]?)) :=
  ⟨fun i _ hi q => ⟨xs, xs[i], q, by simp [hi]⟩, fun _ q => ⟨xs, q, Nat.le_refl _⟩, fun i H v H' _ q ⟨T, x, h1, h2, h3, h4⟩ => ⟨T, .int (i : Nat), x, h1, h2, h3, rfl, h4 xs q⟩⟩
theorem r_iEnumT {K : PySem.W.Frag} {ta : TA} {σ : L2.St} {H : Hp} {R : It → Hp → Prop} (q : ta σ H fun vs H1 => ∃ a xs, vs = [.ref a] ∧ SqT K H1 a xs ∧ R (IteT K a) H1) : iEnumT K ta σ H R := q
theorem r_iEnumTR {K : PySem.W.Frag} {H : Hp} {R : Addr → Prop} {a : Addr} {xs : List V} (h : SqT K H a xs) (q : R a) : ∃ b xs, [V.ref a] = [.ref b] ∧ SqT K H b xs ∧ R b := ⟨a, xs, rfl, h, q⟩
end Q
namespace Q
open PySem PySem.Spec PyProof.Rows L2
/-! ### split; insert, pop at a place -/
def SplitGo (x : V) (xs : List V) (H : Hp) (Q : VK) : Prop := ∃ a b, x = .str a ∧ xs = [.str b] ∧ (b.length == 0) = false ∧ a.length + 2 ≤ sizeLine ∧ rNewStrs (Txt.split a b) H Q
def SplitGoM (x : V) (xs : List V) (H : Hp) (Q : VK) : Prop := SplitGo x xs H Q
theorem pe_splitQ {X : Cx} {o e : Expr} {to te : TE} {apos pos : Pos} (ho : PE X o to) (he : PE X e te) (hs : starEach [e] X.env = [(false, eval e X.env)] := by rfl) (hb : attributeBase o "split" X.env (eval o X.env) = eval o X.env := by rfl) (hl : (apos.endLine == pos.line) = true := by rfl) :
    PE X (.Call (.Attribute o "split" apos) [e] [] pos) (tM1 SplitGo to te) := pe_split ho he hs hb hl
theorem pe_splitM {X : Cx} {o e : Expr} {to te : TE} {apos pos : Pos} (ho : PE X o to) (he : PE X e te) (hs : starEach [e] X.env = [(false, eval e X.env)] := by rfl) (hb : attributeBase o "split" X.env (eval o X.env) = eval o X.env := by rfl) (hl : (apos.endLine == pos.line) = true := by rfl) :
    PE X (.Call (.Attribute o "split" apos) [e] [] pos) (tM1 SplitGoM to te) := pe_split ho he hs hb hl
section
variable {e : En} {G H : Hp} {M : List Addr} {l : Addr} {xs : List V} {y : V} {Qv : VK}
theorem split_sz {a b : Str} (hb : (b.length == 0) = false) (ha : a.length ≤ 900000) : (Txt.split a b).length ≤ sizeLine := by
  have h1 : 1 ≤ b.length := by
    have := beq_eq_false_iff_ne.mp hb
    omega
  have := split_len (x := a) (y := b) h1
  exact sz_m (by omega)
theorem r_split {a b : Str} (hb : (b.length == 0) = false) (ha : a.length ≤ 900000) (q : Lay (Txt.split a b).length (.lst ((Txt.split a b).map V.str)) Qv H) : SplitGo (.str a) [.str b] H Qv :=
  ⟨a, b, rfl, rfl, hb, sz_m (by omega), fun p hp => q.2 p hp⟩
theorem r_splitM {a b : Str} (hb : (b.length == 0) = false) (ha : a.length ≤ 900000) (q : LayM (Txt.split a b).length (.lst ((Txt.split a b).map V.str)) Qv H) : SplitGoM (.str a) [.str b] H Qv :=
  ⟨a, b, rfl, rfl, hb, sz_m (by omega), fun p hp => q.2 p hp⟩
theorem r_popM {n : Nat} (w : Wd e G H M) (hm : l ∈ M) (h : H l = some (.lst xs)) (hn : n ≤ 1000000) (hy : xs[n]? = some y) (q : ∀ H', Wd e G H' M → H' l = some (.lst (xs.eraseIdx n)) → But l H H' → Qv y H') : rPopAt (.ref l) [.int (n : Int)] H Qv := by
  have hlt : n < xs.length := (List.getElem?_eq_some_iff.mp hy).1
  refine ⟨l, xs, n, n, y, rfl, rfl, h, by omega, by omega, ?_, hy, q _ (wd_mut w hm) upd_same but_upd⟩
  have e : ixN xs.length (n : Int) = some n := by
    unfold ixN
    rw [if_pos (Int.natCast_nonneg _), if_pos (by omega)]
    rfl
  exact (ixN_seq e).1
end
end Q
namespace Q
open PySem PySem.Spec PyProof.Rows L2
theorem WsAt.same {G G' : Hp} {p : Addr} {ws : List Str} (h : WsAt G p ws) (s : Same G G') : WsAt G' p ws := ⟨s _ _ h.1, h.2⟩
theorem LinesAt.same {G G' : Hp} {p : Addr} {z : Str} (h : LinesAt G p z) (s : Same G G') : LinesAt G' p z := by
  obtain ⟨vs, q, h1, h2, h3, h4⟩ := h
  exact ⟨vs, q, s _ _ h1, h2, h3, h4.same s⟩
theorem due_bad {z : Str} {k : Nat} (h : firstBad (wordsOf z) 0 = some k) : duePg z = some (0, (k : Int)) := by
  unfold duePg
  rw [h]
theorem due_more {z : Str} (h : firstBad (wordsOf z) 0 = none) (h5 : 5 < (wordsOf z).length) : duePg z = some (0, 5) := by
  unfold duePg
  rw [h]
  exact if_pos h5
theorem due_line {z : Str} (h : firstBad (wordsOf z) 0 = none) (h5 : ¬ 5 < (wordsOf z).length) (h1 : 1 < (Txt.split z zNl).length) : duePg z = some (1, 0) := by
  unfold duePg
  rw [h]
  exact (if_neg h5).trans (if_pos h1)
theorem due_well {z : Str} (h : firstBad (wordsOf z) 0 = none) (h5 : ¬ 5 < (wordsOf z).length) (h1 : ¬ 1 < (Txt.split z zNl).length) : duePg z = none := by
  unfold duePg
  rw [h]
  exact (if_neg h5).trans (if_neg h1)
end Q
namespace Q
open PySem PySem.Spec PyProof.Rows L2
/-! ### classmethods of own classes; a class that stands in a local name is called -/
structure CmD (P : Program) (w : World) (K : PySem.W.Frag) (mg : Str → Option Value) (base : Heap) (CX : CXT) (k : Nat) (C : Addr) (m : Str) (sp : Sp) : Prop where
  ex : ∃ (mc : Value) (p g : Addr) (fd : FuncData) (ps : List Str), ClX.CRead K C mc ∧ ClX.CMet K C mc m p g ∧ Binds K fd ps [] ∧ FnOk P w K mg base CX k g fd ps sp
structure CmK (P : Program) (w : World) (K : PySem.W.Frag) (mg : Str → Option Value) (base : Heap) (CX : CXT) (k : Nat) (C : Addr) (m : Str) (ks : List Str) (gV : List V → List V → List V) (sp : Sp) : Prop where
  ex : ∃ (mc : Value) (p g : Addr) (fd : FuncData) (ps : List Str) (gg : List Value → List Value → List Value), ClX.CRead K C mc ∧ ClX.CMet K C mc m p g ∧ KBn K fd ps 1 ks gg gV ∧ FnOk P w K mg base CX k g fd ps sp
def tCm (C : Addr) (sp : Sp) (E : XK) (ta : TE) (t : TA) : TE := fun σ H Q => ta σ H fun x H1 => StatGo C x (t σ H1 fun vs H2 => sp (.ref C :: vs) H2 Q E)
def tCmK (C : Addr) (n : Nat) (sp : Sp) (E : XK) (ta : TE) (t : TA) (gV : List V → List V → List V) : TE := fun σ H Q => ta σ H fun x H1 => StatGo C x (t σ H1 fun zs H2 => zs.length = n ∧ sp (gV [.ref C] zs) H2 Q E)
def tMakeL (i : Nat) (C : Addr) (sp : Sp) (dvs : List V) (E : XK) (t : TA) : TE := fun σ H Q => σ[i]? = some (some (.ref C)) ∧ tMake C sp dvs E t σ H Q
section
variable {X : Cx} {CX : CXT} {k j i : Nat} {C p g : Addr} {mc : Value} {sp : Sp} {E : XK} {o e : Expr} {es : List Expr} {m x y : Str} {pos apos np : Pos} {ta : TE} {t : TA} {pl : Sem Bool} {ks : List Str} {kws : List Keyword} {gV : List V → List V → List V} {dvs : List V}
theorem run_cmA {q : Addr} {pins : List (Addr × Obj)} {σ : L2.St} {H : Hp} {s : Shared} {Q : VK} {us : List Value} {kw : List (Str × Value)} {al : List Value} {vs : List V} {f : FuncData} {ps : List Str} (I : Inv X ((q, PySem.W.methodObj (.ref g) (.ref C)) :: pins) σ H s)
    (F : FnOk X.prog X.w X.K X.mg X.base CX k g f ps sp) (hr : Room k X.A) (hx : Passes CX X E) (hb : BindsTo s f ⟨.ref C :: us, kw⟩ (ps.zip al)) (r : Vals vs al) (h : sp vs H Q E) :
    wpAny (model X.prog X.w) X.A (call (.ref q) us kw) (EP X pins σ Q) X.xe s := by
  refine wpAny_call (PySem.W.method_call (ClX.pin_at I) (codeAny_mono (F.run X.A X.stack s H ⟨.ref C :: us, kw⟩ al vs Q E hr I.env0 hb r h) fun o s' hq => ?_))
  match o, hq with
  | .error e, hq => exact hx _ σ H s e s' I hq
  | .ok (.ret u), hq => exact ClX.unpinE (I.after hq)
  | .ok .next, hq => exact hq.elim
  | .ok .brk, hq => exact hq.elim
  | .ok .cont, hq => exact hq.elim
theorem pe_cmD (he : PE X o ta) (D : CmD X.prog X.w X.K X.mg X.base CX k C m sp) (hr : Room j X.A) (hx : Passes CX X E) (ha : PA X (e :: es) t) (hj : k ≤ j := by decide)
    (hst : starEach (e :: es) X.env = (false, eval e X.env) :: starEach es X.env := by rfl) (hpl : (backTo pos (starEach es X.env)).any (·.1) = false := by rfl)
    (ht : eval (.Call (.Attribute o m apos) (e :: es) [] pos) X.env = (do
      let ov ← eval o X.env
      standAt apos.atName
      let (f, first) ← holding [ov] (getMethod ov m pl)
      callWith pos f first (backTo pos (starEach (e :: es) X.env)) (backToKw pos (keywordEach [] X.env))) := by rfl) : PE X (.Call (.Attribute o m apos) (e :: es) [] pos) (tCm C sp E ta t) := by
  obtain ⟨mc, p, g, fd, ps, r, c, hb, F⟩ := D.ex
  refine ⟨fun pins s σ H Q I h => ?_⟩
  refine PySem.W.methodCall_KW (pl := pl) (thn (he.run pins s σ H _ I h) fun u s1 told => ?_) ht
  obtain ⟨x, H1, I1, rx, ex, q⟩ := told
  subst ex
  obtain rfl : u = Value.ref C := rx
  refine ClX.getmethcm_ok I1 r c fun s2 I2 => ?_
  refine ClX.callwith_cm I2 (ClX.base_none I1 (Nat.le_refl _)) c.fi (thn (ha.run pos _ s2 σ H1 _ I2 q) fun us s3 told => ?_) hst hpl
  obtain ⟨vs, H2, I3, rv, q2⟩ := told
  refine ⟨⟨ClX.pin_at I3, I3.kIn⟩, run_cmA (al := .ref C :: us) (vs := .ref C :: vs) I3 F (hr.mono hj) hx ?_ (.cons rfl rv) q2⟩
  have l := F.len _ _ _ _ q2
  have b := hb s3 (.ref C :: us) I3.kIn (by rw [List.append_nil, ← l, List.length_cons, List.length_cons, rv.length])
  rw [List.append_nil] at b
  exact b
theorem pe_cmKD (he : PE X o ta) (D : CmK X.prog X.w X.K X.mg X.base CX k C m ks gV sp) (hr : Room j X.A) (hx : Passes CX X E) (hkw : PK X kws t) (hj : k ≤ j := by decide)
    (hall : (backToKw pos (keywordEach kws X.env)).all (·.1.isSome) = true := by rfl) (hks : (backToKw pos (keywordEach kws X.env)).filterMap (·.1) = ks := by rfl)
    (hpl : ((backTo pos (starEach [] X.env)).any (·.1) || (backToKw pos (keywordEach kws X.env)).any (·.1.isNone)) = false := by rfl)
    (ht : eval (.Call (.Attribute o m apos) [] kws pos) X.env = (do
      let ov ← eval o X.env
      standAt apos.atName
      let (f, first) ← holding [ov] (getMethod ov m pl)
      callWith pos f first (backTo pos (starEach [] X.env)) (backToKw pos (keywordEach kws X.env))) := by rfl) : PE X (.Call (.Attribute o m apos) [] kws pos) (tCmK C ks.length sp E ta t gV) := by
  obtain ⟨mc, p, g, fd, ps, gg, r, c, hb, F⟩ := D.ex
  refine ⟨fun pins s σ H Q I h => ?_⟩
  refine PySem.W.methodCall_KW (pl := pl) (thn (he.run pins s σ H _ I h) fun u s1 told => ?_) ht
  obtain ⟨x, H1, I1, rx, ex, q⟩ := told
  subst ex
  obtain rfl : u = Value.ref C := rx
  refine ClX.getmethcm_ok I1 r c fun s2 I2 => ?_
  refine PySem.W.callWith_of (P := PySem.W.MethP X.K s1.heap.objs.size g (.ref C)) hpl (PySem.W.keeps_M c.fi) (evalArgs_kw2_nil hall (thn (hkw.run pos _ s2 σ H1 _ I2 q) fun ws s3 told => ?_))
  obtain ⟨zs, H2, I3, rz, l2, q2⟩ := told
  have e2 : ws.length = ks.length := rz.length.symm.trans l2
  refine ⟨⟨ClX.pin_at I3, I3.kIn⟩, ?_⟩
  rw [hks]
  exact run_cmA I3 F (hr.mono hj) hx (hb.to _ [.ref C] ws I3.kIn rfl e2) (hb.rel (show Vals [V.ref C] [Value.ref C] from .cons rfl .nil) rz) q2
theorem pe_makeL (D : MkD X.prog X.w X.K X.mg X.base CX k y C dvs sp) (hr : Room j X.A) (hx : Passes CX X E) (hN : X.N[i]? = some x) (hv : Vis X.env.scope x) (ha : PA X (e :: es) t) (hj : k + 1 ≤ j := by decide)
    (hdb : (x == ("__debug__" : Str)) = false := by decide) (hcd : (x == ("__classdict__" : Str)) = false := by decide)
    (he : starEach (e :: es) X.env = (false, eval e X.env) :: starEach es X.env := by rfl) (hpl : (backTo pos (starEach es X.env)).any (·.1) = false := by rfl) : PE X (.Call (.Name x np) (e :: es) [] pos) (tMakeL i C sp dvs E t) := by
  obtain ⟨f, fd, ps, ds, h1, h2, h3, h4, h5⟩ := D.ex
  refine ⟨fun pins s σ H Q I z => ?_⟩
  refine wpAny_Call_Name_kw (thn ((pe_var (pos := np) hN hv hdb hcd).run pins s σ H (fun v H1 => v = .ref C ∧ H1 = H) I ⟨.ref C, z.1, rfl, rfl⟩) fun u s1 told => ?_)
  obtain ⟨v, H1, I1, r1, e1, e2⟩ := told
  subst e1 e2
  cases r1
  refine PySem.W.callWith_K (h₀ := X.base) I.ok.mod.kin h2.kp (thn (ha.run pos pins s1 σ _ _ I1 z.2) fun us s2 told => ?_) he hpl
  obtain ⟨vs, H2, I2, r, q⟩ := told
  exact ⟨I2.kIn, run_make h2 h5 (hr.mono hj) h3 h4 hx I2 r q⟩
end
section
variable {C : Addr} {sp : Sp} {E : XK} {ta : TE} {t : TA} {σ : L2.St} {H : Hp} {Qv : VK} {n i : Nat} {gV : List V → List V → List V} {dvs : List V}
theorem r_tCm (q : ta σ H fun x H1 => StatGo C x (t σ H1 fun vs H2 => sp (.ref C :: vs) H2 Qv E)) : tCm C sp E ta t σ H Qv := q
theorem r_tCmK (q : ta σ H fun x H1 => StatGo C x (t σ H1 fun zs H2 => zs.length = n ∧ sp (gV [.ref C] zs) H2 Qv E)) : tCmK C n sp E ta t gV σ H Qv := q
theorem r_tMakeL (h : σ[i]? = some (some (.ref C))) (q : t σ H fun vs H1 => MakeGo C sp (vs ++ dvs) E H1 Qv) : tMakeL i C sp dvs E t σ H Qv := ⟨h, q⟩
end
end Q
namespace Q
open PySem PySem.Spec PyProof.Rows L2
/-! ### an exception that is asked and read within its clause -/
/-- what a clause that takes every exception of the body wishes of it; the exception is told within the suite already -/
def wTold (K : PySem.W.Frag) (c : Value) (i m : Nat) (ts : Addr → Value → Option Addr → TS) (D : Ends) : WX := fun cls d σ H => PySem.W.exmOne K cls c = some true ∧ ∀ a, H a = none → σ.length = m →
  ts a cls d { nx := fun τ G => D.nx (τ.set i none) G, rt := D.rt, bk := fun τ G => D.bk (τ.set i none) G, ct := fun τ G => D.ct (τ.set i none) G } (σ.set i (some (.ref a))) (upd H a (ExK cls d a))
section
variable {X : Cx} {x n : Str} {c : Value} {i : Nat} {body rest : List Stmt} {first : Stmt} {np tp hp : Pos} {tb : WX → TS} {ts : Addr → Value → Option Addr → TS}
theorem ps_try_told (hst : X.stack = X.env :: X.outer) (hfr : X.env.frame = some X.env.locals) (hN : X.N.Nodup) (hi : X.N[i]? = some n) (hln : X.env.kindOf n = some .local) (hc : Names X x c)
    (hb : ∀ (W : WX) (pn : List (Addr × Obj)) (xe : Value → Shared → Prop), Takes (X.tr pn xe) W → PassesOwn (model X.prog X.w) X.A X.env xe → PSs (X.tr pn xe) body (tb W))
    (hs : ∀ (a : Addr) (oe : Obj) (cls : Value) (d : Option Addr) (pn : List (Addr × Obj)), Zc cls d oe → (∃ vs, oe.data = .fields vs) → PSs (X.suite a pn) (first :: rest) (ts a cls d)) :
    PS X (.Try body [.ExceptHandler (some (.Name x np)) (some n) (first :: rest) hp] [] [] tp) (fun D σ H => tb (wTold X.K c i X.N.length ts D) D σ H) := by
  refine ⟨fun pins s σ H D I0 h0 => ?_⟩
  have hok := I0.ok
  have frames : X.A.frames = some (X.env :: X.outer) := by
    rw [hok.frames, hst]
  let clause : List ExceptHandler := [.ExceptHandler (some (.Name x np)) (some n) (first :: rest) hp]
  let caught : Value → Shared → Prop := fun e t => wpAny (model X.prog X.w) X.A (noteFrame e X.env) (fun _ t2 => wpAny (model X.prog X.w) X.A (setFlight e none)
    (fun _ t3 => wpAny (model X.prog X.w) X.A (handleBy e X.env clause) (SP X pins D) X.xe t3) X.xe t2) X.xe t
  refine wpAny_Try_except ?_
  have catches : Takes (X.tr (X.pn ++ pins) caught) (wTold X.K c i X.N.length ts D) := by
    rintro u t ⟨a, B, sI, pins1, σ1, H1, cls, d, rfl, J0, ground, up, sky, na, os, ag, takes, suite⟩
    have J : Inv X pins σ1 H1 sI := J0.ofTry hok
    have air : Sky B (X.env :: X.outer) a (Zc cls d) X.env.locals t.heap := by
      rw [← hst]
      exact sky
    show wpAny (model X.prog X.w) X.A (noteFrame (.ref a) X.env) _ _ t
    refine Sky.land Zc.steady frames hfr air fun h3 fl3 up3 => ?_
    have J3 : Inv X pins σ1 H1 { t with heap := h3 } := J.landed ground fl3.1 (up.trans up3) os ag
    obtain ⟨oe3, vs3, at3, z3, d3⟩ := fl3.there
    have offF : a ∉ frs (X.env :: X.outer) := fun hm => by
      obtain ⟨_, o2, e2, nf⟩ := fl3.2.2.1.mem hm
      obtain rfl := Option.some.inj (at3.symm.trans e2)
      exact nf _ d3
    have offL : a ≠ X.env.locals := fun z => by
      refine offF (List.mem_filterMap.mpr ⟨X.env, List.mem_cons_self, ?_⟩)
      rw [hfr, z]
    have offO : a ∉ X.fs := fun hm => by
      obtain ⟨e, he, q⟩ := List.mem_filterMap.mp hm
      exact offF (List.mem_filterMap.mpr ⟨e, List.mem_cons_of_mem _ he, q⟩)
    have offS : a ∉ frs X.stack := by
      rw [hst]
      exact offF
    have gone : ∀ o, sI.heap.get? a = some o → False := fun o z => by
      have y := ground a o z offS
      rw [fl3.2.1] at y
      cases y
    have far : ∀ o, X.s_0.heap.get? a = some o → X.H_0 a = none → a ∉ X.ex → False := fun o z n nx => gone o (J.base.keep a o z n offO nx)
    have apart : ∀ p ∈ X.pn ++ pins, p.1 ≠ a := fun p hp z => by
      have y := (J.pin p hp).1
      rw [z] at y
      exact gone _ y
    have S3 := J3.suite at3 d3 na offL offO
    refine wpAny_handleBy_cons (codeAny_handlers_test ?_) (by intro q; cases q)
    have ty : PySem.W.Looks (model X.prog X.w) h3 (typeOf (.ref a)) cls := fun A Q E s k q => by
      refine wpAny_typeOf_ref (k _ _ at3) ?_
      rw [z3.1]
      exact q
    have match_ := PySem.W.exm_one (M := model X.prog X.w) J3.kIn ty takes
    have named : ∀ {Q E : Value → Shared → Prop}, Q c { t with heap := h3 } → wpAny (model X.prog X.w) (X.A.mark (some (.ref a))) (eval (.Name x np) X.env) Q E { t with heap := h3 } := by
      intro Q E q
      obtain ⟨hg, hdbg, y⟩ := hc
      rcases y with hm | ⟨hm, hv, hnn⟩
      · exact ld_glob (X := X.suite a ((a, oe3) :: (X.pn ++ pins))) S3 hg hm q hdbg
      · exact ld_blt (X := X.suite a ((a, oe3) :: (X.pn ++ pins))) S3 hg hm hv q hnn hdbg
    refine named (match_.here (codeAny_handlers_suite_as ?_))
    refine HandSPX.lands_againZ fl3 fun h4 fl4 up4 => ?_
    have J4 : Inv X pins σ1 H1 { t with heap := h4 } := J.landed ground fl4.1 ((up.trans up3).trans up4) os ag
    obtain ⟨oe4, vs4, at4, z4, d4⟩ := fl4.there
    have S4 := J4.suite at4 d4 na offL offO
    refine store_ok (X := X.suite a ((a, oe4) :: (X.pn ++ pins))) (v := .ref a) S4 hN hi (.inl hln) rfl (fun s5 S5 => ?_) (.inr hln)
    have T5 : Inv (X.suite a (X.pn ++ pins)) [(a, oe4)] (σ1.set i (some (.ref a))) H1 s5 := ⟨hok.suite _ _, S5.os, S5.bare, S5.base, S5.loc, S5.cell, S5.free, S5.freeC, fun p hp => S5.pin p (by
      rcases List.mem_append.mp hp with q | q
      · exact List.mem_append_left _ (List.mem_cons_of_mem _ q)
      · rw [List.mem_singleton.mp q]
        exact List.mem_append_left _ List.mem_cons_self), S5.hok, S5.len⟩
    have U5 := track_exc (d := d) (cls := cls) T5 z4 d4 far (fun p hp => apart p (by rw [List.append_nil] at hp; exact hp))
    have go := (hs a oe4 cls d (X.pn ++ pins) z4 ⟨_, d4⟩).run [] s5 _ _ _ U5 (suite a na J.len)
    refine wpAny_mono go (fun f s6 done => ?_) fun _ _ z => z.elim
    have leave : ∀ {τ : L2.St} {G : Hp} {R : Shared → Prop}, Inv (X.suite a (X.pn ++ pins)) [] τ G s6 → (∀ s7, Inv X pins (τ.set i none) G s7 → R s7) →
        wpAny (model X.prog X.w) X.A (do bindName X.env n .none; unbindBehindTheSuite X.env n hp) (fun _ s7 => R s7) X.xe s6 := by
      intro τ G R S6 k
      exact gone_ok (X := X) (pins := pins) ⟨hok, S6.os, S6.bare, S6.base, S6.loc, S6.cell, S6.free, S6.freeC, fun p hp => S6.pin p (List.mem_append_left _ hp), S6.hok, S6.len⟩ hN hi hln fun s7 J7 => k s7 J7
    match f, done with
    | .next, done =>
      obtain ⟨τ, G, S6, q⟩ := done
      exact leave S6 fun s7 J7 => ⟨_, _, J7, q⟩
    | .brk, done =>
      obtain ⟨τ, G, S6, q⟩ := done
      exact leave S6 fun s7 J7 => ⟨_, _, J7, q⟩
    | .cont, done =>
      obtain ⟨τ, G, S6, q⟩ := done
      exact leave S6 fun s7 J7 => ⟨_, _, J7, q⟩
    | .ret u, done =>
      obtain ⟨v, τ, G, S6, r, q⟩ := done
      exact leave S6 fun s7 J7 => ⟨_, _, _, J7, r, q⟩
  have go := (hb (wTold X.K c i X.N.length ts D) (X.pn ++ pins) caught catches PassesOwn.looking).run [] s σ H D (I0.toTry _) h0
  refine wpAny_mono go (fun f s1 done => ?_) fun e s1 z => z
  match f, done with
  | .next, done =>
    obtain ⟨τ, G, J1, q⟩ := done
    exact wpAny_execs_nil ⟨τ, G, J1.ofTry hok, q⟩
  | .brk, done =>
    obtain ⟨τ, G, J1, q⟩ := done
    exact ⟨τ, G, J1.ofTry hok, q⟩
  | .cont, done =>
    obtain ⟨τ, G, J1, q⟩ := done
    exact ⟨τ, G, J1.ofTry hok, q⟩
  | .ret u, done =>
    obtain ⟨v, τ, G, J1, r, q⟩ := done
    exact ⟨v, τ, G, J1.ofTry hok, r, q⟩
end
/-- try: return e, one clause -/
def tTryRet (K : PySem.W.Frag) (c : Value) (i m : Nat) (tl : XK → TE) (ts : Addr → Value → Option Addr → TS) : TS := fun D σ H =>
  ∃ Ech : XK, (∀ cls d σ' H', Ech cls d H' → wTold K c i m ts D cls d σ' H') ∧ tl Ech σ H D.rt
section
variable {X : Cx} {x n : Str} {c : Value} {i : Nat} {e : Expr} {rest : List Stmt} {first : Stmt} {np tp hp rp : Pos} {tl : XK → TE} {ts : Addr → Value → Option Addr → TS}
theorem ps_tryRet (hst : X.stack = X.env :: X.outer) (hfr : X.env.frame = some X.env.locals) (hN : X.N.Nodup) (hi : X.N[i]? = some n) (hln : X.env.kindOf n = some .local) (hc : Names X x c)
    (he : ∀ (W : WX) (pn : List (Addr × Obj)) (xe : Value → Shared → Prop) (E : XK), Takes (X.tr pn xe) W → (∀ cls d σ' H', E cls d H' → W cls d σ' H') → PE (X.tr pn xe) e (tl E))
    (hs : ∀ (a : Addr) (oe : Obj) (cls : Value) (d : Option Addr) (pn : List (Addr × Obj)), Zc cls d oe → (∃ vs, oe.data = .fields vs) → PSs (X.suite a pn) (first :: rest) (ts a cls d)) :
    PS X (.Try [.Return (some e) rp] [.ExceptHandler (some (.Name x np)) (some n) (first :: rest) hp] [] [] tp) (tTryRet X.K c i X.N.length tl ts) := by
  refine ps_try_told (ts := ts) (tb := fun W D σ H => ∃ Ech : XK, (∀ cls d σ' H', Ech cls d H' → W cls d σ' H') ∧ tl Ech σ H D.rt) hst hfr hN hi hln hc (fun W pn xe tk _ => ?_) hs
  refine pss_one ⟨fun pins s' σ H' D I h' => ?_⟩
  obtain ⟨Ech, hW, h1⟩ := h'
  exact (ps_ret (he W pn xe Ech tk hW)).run pins s' σ H' D I h1
end
end Q
namespace Q
open PySem PySem.Spec PyProof.Rows L2
/-! ### entries read: what the law's own defs promise -/
theorem low_str {z : Str} (h : Low z) : PyData.strOk z = true := by
  unfold PyData.strOk
  rw [Array.all_eq_true_iff_forall_mem]
  intro c hc
  exact decide_eq_true (Nat.lt_of_lt_of_le (h c (Array.mem_toList_iff.mpr hc)) (by decide))
def optP (G : Hp) (o : Option (Int × Int)) (v : V) : Prop := match o with
  | none => v = .non
  | some (l, k) => ∃ p, v = .ref p ∧ G p = some (.tup [.int l, .int k])
theorem optP.same {G G' : Hp} {o : Option (Int × Int)} {v : V} (h : optP G o v) (s : Same G G') : optP G' o v := by
  cases o with
  | none => exact h
  | some q =>
    obtain ⟨p, e, hp⟩ := h
    exact ⟨p, e, s _ _ hp⟩
def spMomL : Sp := fun vs H Q _ => ∃ (G : Hp) (z : Str), vs = [.str z] ∧ Gh G H ∧ z.length ≤ 1000000 ∧ PyData.strOk z = true ∧ Ret G H (fun v _ => v = .bl (momW z).isSome) Q
def spDueL : Sp := fun vs H Q _ => ∃ (G : Hp) (z : Str), vs = [.str z] ∧ Gh G H ∧ z.length ≤ 100000 ∧ Low z ∧ Ret G H (fun v G' => optP G' (duePg z) v) Q
def spBentL : Sp := fun vs H Q _ => ∃ (G : Hp) (p c : Addr) (n : Nat) (z : Str), vs = [.ref p, .str z] ∧ Gh G H ∧ G p = none ∧ Cells c G ∧ PenAt p c n H ∧ n ≤ 1000000 ∧ z.length ≤ 900 ∧ Low z ∧
  RetP p c (n + 4) G H (fun v _ => ∃ y : Str, v = .str y ∧ y.length ≤ z.length + 100 ∧ Low y) Q
def HeardE (C : Addr) (G : Hp) (x v : V) : Prop := (∃ l k, readDue x = some (l, k) ∧ optP G (some (l, k)) v) ∨ ∃ a t i b, v = .ref a ∧ EntAt C G a t i b ∧ x = .str (entText t i b)
def spHeardL (K : PySem.W.Frag) (C : Addr) : Sp := fun vs H Q _ => ∃ (G : Hp) (x : V) (u : Value), vs = [x] ∧ Gh G H ∧ Kd K G x u ∧ (∀ z, x = .str z → z.length ≤ 100000) ∧ Ret G H (fun v G' => HeardE C G' x v) Q
def namesE : List Str := ["a", "b0", "z9", "std", "abcdefgh", "a1234567", "by", "check", "done", "pass", "today", "empty", "self", "not"]
theorem names_ok : ∀ z ∈ namesE, nmOk z = true := by decide +kernel
def spNamesL : Sp := fun vs H Q _ => ∃ (G : Hp), vs = [] ∧ Gh G H ∧ Ret G H (fun v G' => ∃ l, v = .ref l ∧ G' l = some (.lst (namesE.map V.str))) Q
section
variable {K : PySem.W.Frag} {C : Addr} {e : En} {G H : Hp} {M : List Addr} {Q : VK} {E : XK}
theorem u_momL {z : Str} (w : Wd e G H M) (h : z.length ≤ 1000000) (ht : PyData.strOk z = true) (k : ∀ G' H', Wd e G' H' M → Same G G' → Same H H' → Q (.bl (momW z).isSome) H') : spMomL [.str z] H Q E :=
  ⟨G, z, rfl, w.gh, h, ht, ret_use w fun v G' H' w' s1 s2 p => by subst p; exact k G' H' w' s1 s2⟩
theorem u_dueL {z : Str} (w : Wd e G H M) (h : z.length ≤ 100000) (ht : Low z) (k : ∀ v G' H', Wd e G' H' M → Same G G' → Same H H' → optP G' (duePg z) v → Q v H') : spDueL [.str z] H Q E :=
  ⟨G, z, rfl, w.gh, h, ht, ret_use w fun v G' H' w' s1 s2 p => k v G' H' w' s1 s2 p⟩
theorem u_bentL {p c : Addr} {n : Nat} {z : Str} (w : Wd e G H M) (hm : p ∈ M) (hc : Cells c G) (P : PenAt p c n H) (hn : n ≤ 1000000) (hz : z.length ≤ 900) (hl : Low z)
    (k : ∀ y G' H', Wd e G' H' M → Same G G' → But p H H' → PenAt p c (n + 4) H' → y.length ≤ z.length + 100 → Low y → Q (.str y) H') : spBentL [.ref p, .str z] H Q E :=
  ⟨G, p, c, n, z, rfl, w.gh, (w.mu p hm).1, hc, P, hn, hz, hl, retP_use w hm fun v G' H' w' s b P' ⟨y, e1, h1, h2⟩ => by subst e1; exact k y G' H' w' s b P' h1 h2⟩
theorem u_heardL {x : V} {u : Value} (w : Wd e G H M) (hx : Kd K G x u) (hz : ∀ z, x = .str z → z.length ≤ 100000) (k : ∀ v G' H', Wd e G' H' M → Same G G' → Same H H' → HeardE C G' x v → Q v H') : spHeardL K C [x] H Q E :=
  ⟨G, x, u, rfl, w.gh, hx, hz, ret_use w fun v G' H' w' s1 s2 p => k v G' H' w' s1 s2 p⟩
theorem u_namesL (w : Wd e G H M) (k : ∀ l G' H', Wd e G' H' M → Same G G' → Same H H' → G' l = some (.lst (namesE.map V.str)) → Q (.ref l) H') : spNamesL [] H Q E :=
  ⟨G, rfl, w.gh, ret_use w fun v G' H' w' s1 s2 ⟨l, e1, e2⟩ => by subst e1; exact k l G' H' w' s1 s2 e2⟩
end
theorem due_fin {z : Str} {l k : Int} (h : duePg z = some (l, k)) : (l = 0 ∧ ∃ n : Nat, n ≤ 5 ∧ k = (n : Int)) ∨ (l = 1 ∧ k = 0) := by
  unfold duePg at h
  cases f : firstBad (wordsOf z) 0 with
  | some j =>
    rw [f] at h
    cases h
    refine .inl ⟨rfl, j, ?_, rfl⟩
    unfold firstBad at f
    rw [List.find?_range_eq_some] at f
    exact Nat.le_of_lt (List.mem_range.mp f.2.1)
  | none =>
    rw [f] at h
    simp only at h
    split at h
    · cases h
      exact .inl ⟨rfl, 5, Nat.le_refl _, rfl⟩
    · split at h
      · cases h
        exact .inr ⟨rfl, rfl⟩
      · cases h
theorem due_fin2 {x : V} {l k : Int} (h : readDue x = some (l, k)) : (l = 0 ∧ ∃ n : Nat, n ≤ 5 ∧ k = (n : Int)) ∨ (l = 1 ∧ k = 0) := by
  cases x with
  | str z => exact due_fin h
  | _ => cases h; exact .inl ⟨rfl, 0, by decide, rfl⟩
theorem two_show {l k : Int} (h : (l = 0 ∧ ∃ n : Nat, n ≤ 5 ∧ k = (n : Int)) ∨ (l = 1 ∧ k = 0)) : (PyData.tuple [.int l, .int k]).showable = true ∧ (PyData.tuple [.int l, .int k]).depth ≤ 60 ∧ (PyData.tuple [.int l, .int k]).shown.length ≤ sizeLine := by
  rcases h with ⟨rfl, n, hn, rfl⟩ | ⟨rfl, rfl⟩
  · match n, hn with
    | 0, _ => decide +kernel
    | 1, _ => decide +kernel
    | 2, _ => decide +kernel
    | 3, _ => decide +kernel
    | 4, _ => decide +kernel
    | 5, _ => decide +kernel
  · decide +kernel
theorem ent_low {t b : Str} {i : Int} (ht : nmOk t = true) (hb : nmOk b = true) : Low (entText t i b) := by
  have nm : ∀ {z : Str}, nmOk z = true → Low z := fun {z} h c hc => by
    unfold nmOk at h
    simp only [Bool.and_eq_true] at h
    have a := List.all_eq_true.mp h.2.2.2 c hc
    have e : zLetters.cps.toList.all (fun c => decide (c < 128)) = true := by decide +kernel
    rcases Bool.or_eq_true_iff.mp a with a | a
    · exact of_decide_eq_true (List.all_eq_true.mp e c (of_decide_eq_true a))
    · have := (fig_iff c).mp a
      omega
  unfold entText
  exact low_app (low_app (low_app (low_app (low_app (low_app (low_of (by decide +kernel)) (low_of (by decide +kernel))) (nm ht)) (low_of (by decide +kernel))) (low_num i)) (low_of (by decide +kernel))) (nm hb)
theorem ent_len {t b : Str} {i : Int} (r : RightE t i b) : (entText t i b).length ≤ 60 := by
  have l1 := nmOk_len r.1
  have l2 := nmOk_len r.2.1
  have l3 := lenZ r.2.2.1 r.2.2.2
  unfold entText
  simp only [Str.length_append]
  have e0 : Str.empty.length = 0 := rfl
  have e1 : (Str.ofString " ").length = 1 := rfl
  have e2 : (Str.ofString "check ").length = 6 := rfl
  have e3 : (Str.ofString " by ").length = 4 := rfl
  omega
theorem readDue_none {x : V} (h : readDue x = none) : ∃ t i b, RightE t i b ∧ x = .str (entText t i b) := by
  cases x with
  | str z =>
    obtain ⟨t, i, b, r1, r2, r3, r4, e, _⟩ := due_none h
    exact ⟨t, i, b, ⟨r1, r2, r3, r4⟩, by rw [e]⟩
  | _ => cases h
theorem ent_readDue {t b : Str} {i : Int} (r : RightE t i b) : readDue (.str (entText t i b)) = none := ent_due r.1 r.2.1 r.2.2.1 r.2.2.2
end Q
namespace Q
open PySem PySem.Spec PyProof.Rows L2
/-! ### a text times a number; how long lists of texts are -/
theorem iteN {c : Bool} {A B : Prop} (h : c = false) (b : B) : if c = true then A else B := by rw [h]; exact b
theorem iteY {c : Bool} {A B : Prop} (h : c = true) (a : A) : if c = true then A else B := by rw [h]; exact a
def rMulS : R2 := fun x y H Q => ∃ (a : Str) (n : Nat), x = .str a ∧ y = .int (n : Int) ∧ a.length ≤ 1 ∧ n ≤ 1000 ∧ Q (.str (Txt.mul a (n : Int))) H
theorem q_mulS {X : Cx} : OpR X (binaryOp .Mult) rMulS := by
  intro pins s σ H x y v u Q I rx ry h
  obtain ⟨a, n, rfl, rfl, ha, hn, q⟩ := h
  obtain ⟨t, rfl⟩ := rx
  obtain ⟨t', rfl⟩ := ry
  exact SB.mul (mulOk_of 1 1000 ha (by omega) (by omega) (by decide) (by decide)) fun t2 k2 => ⟨.str (Txt.mul a (n : Int)), H, I.tok _, ⟨_, rfl⟩, q⟩
theorem r_mulS {a : Str} {n : Nat} {H : Hp} {Qv : VK} (ha : a.length ≤ 1) (hn : n ≤ 1000) (q : Qv (.str (Txt.mul a (n : Int))) H) : rMulS (.str a) (.int (n : Int)) H Qv := ⟨a, n, rfl, rfl, ha, hn, q⟩
/-- what joining takes at most, and plain signs alone -/
def Wt (ws : List Str) (n : Nat) : Prop := (ws.map (·.length)).sum + ws.length ≤ n ∧ ∀ y ∈ ws, Low y
theorem wt_split {z : Str} (h : Low z) : Wt (Txt.split z zBlank) (z.length + 1) := ⟨split_weight z zBlank (by decide +kernel), fun y hy => low_split h hy⟩
theorem wt_mem {ws : List Str} {n : Nat} (h : Wt ws n) {y : Str} (hy : y ∈ ws) : y.length + 1 ≤ n := by
  have := h.1
  clear h
  induction ws generalizing n with
  | nil => cases hy
  | cons a l ih =>
    simp only [List.map_cons, List.sum_cons, List.length_cons] at this
    rcases List.mem_cons.mp hy with e | e
    · rw [e]; omega
    · have := ih e (n := n - a.length - 1) (by omega)
      omega
theorem wt_snoc {ws : List Str} {n m : Nat} {y : Str} (h : Wt ws n) (hl : Low y) (hm : y.length + 1 ≤ m) : Wt (ws ++ [y]) (n + m) := by
  refine ⟨?_, fun u hu => ?_⟩
  · have := h.1
    simp only [List.map_append, List.map_cons, List.map_nil, List.sum_append, List.sum_cons, List.sum_nil, List.length_append, List.length_cons, List.length_nil]
    omega
  · rcases List.mem_append.mp hu with q | q
    · exact h.2 u q
    · rw [List.mem_singleton.mp q]; exact hl
theorem wt_ins {ws : List Str} {n m i : Nat} {y : Str} (h : Wt ws n) (hl : Low y) (hm : y.length + 1 ≤ m) : Wt (ws.take i ++ [y] ++ ws.drop i) (n + m) := by
  have e1 : ((ws.take i).map (·.length)).sum + ((ws.drop i).map (·.length)).sum = (ws.map (·.length)).sum := by rw [← List.sum_append, ← List.map_append, List.take_append_drop]
  have e2 : (ws.take i).length + (ws.drop i).length = ws.length := by rw [← List.length_append, List.take_append_drop]
  refine ⟨?_, fun u hu => ?_⟩
  · have := h.1
    simp only [List.map_append, List.map_cons, List.map_nil, List.sum_append, List.sum_cons, List.sum_nil, List.length_append, List.length_cons, List.length_nil]
    omega
  · rcases List.mem_append.mp hu with q | q
    · rcases List.mem_append.mp q with q | q
      · exact h.2 u (List.mem_of_mem_take q)
      · rw [List.mem_singleton.mp q]; exact hl
    · exact h.2 u (List.mem_of_mem_drop q)
theorem sum_erase : ∀ (l : List Str) (i : Nat), ((l.eraseIdx i).map (·.length)).sum + (l.eraseIdx i).length ≤ (l.map (·.length)).sum + l.length
  | [], _ => by simp
  | a :: l, 0 => by simp only [List.eraseIdx_cons_zero, List.map_cons, List.sum_cons, List.length_cons]; omega
  | a :: l, i + 1 => by
    have := sum_erase l i
    simp only [List.eraseIdx_cons_succ, List.map_cons, List.sum_cons, List.length_cons]
    omega
theorem wt_erase {ws : List Str} {n i : Nat} (h : Wt ws n) : Wt (ws.eraseIdx i) n := ⟨Nat.le_trans (sum_erase ws i) h.1, fun u hu => h.2 u ((List.eraseIdx_subset) hu)⟩
theorem sum_set : ∀ (l : List Str) (i : Nat) (y : Str), ((l.set i y).map (·.length)).sum ≤ (l.map (·.length)).sum + y.length
  | [], _, _ => by simp
  | a :: l, 0, y => by simp only [List.set_cons_zero, List.map_cons, List.sum_cons]; omega
  | a :: l, i + 1, y => by
    have := sum_set l i y
    simp only [List.set_cons_succ, List.map_cons, List.sum_cons]
    omega
theorem wt_set {ws : List Str} {n m i : Nat} {y : Str} (h : Wt ws n) (hl : Low y) (hm : y.length ≤ m) : Wt (ws.set i y) (n + m) := by
  refine ⟨?_, fun u hu => ?_⟩
  · have h1 := sum_set ws i y
    have h2 := h.1
    rw [List.length_set]
    omega
  · rcases List.mem_or_eq_of_mem_set hu with q | q
    · exact h.2 u q
    · rw [q]; exact hl
theorem wt_rev {ws : List Str} {n : Nat} (h : Wt ws n) : Wt ws.reverse n := by
  refine ⟨?_, fun u hu => h.2 u (List.mem_reverse.mp hu)⟩
  have := h.1
  rw [List.map_reverse, List.sum_reverse, List.length_reverse]
  exact this
theorem wt_more {ws : List Str} {n m : Nat} (h : Wt ws n) (hm : n ≤ m) : Wt ws m := ⟨Nat.le_trans h.1 hm, h.2⟩
theorem wt_join {ws : List Str} {n : Nat} (h : Wt ws n) : (Txt.join zBlank ws).length ≤ n ∧ Low (Txt.join zBlank ws) := by
  refine ⟨?_, low_join (low_of (by decide +kernel)) h.2⟩
  have h1 := h.1
  have e1 : zBlank.length = 1 := by decide +kernel
  rw [TL.join_eq]
  cases ws with
  | nil =>
    have : (Str.join zBlank []).length = 0 := rfl
    omega
  | cons a l =>
    rw [len_join_cons, e1]
    simp only [List.length_cons] at h1
    omega
theorem sum_put : ∀ (l : List Str) (i : Nat) (y v : Str), l[i]? = some y → ((l.set i v).map (·.length)).sum + y.length = (l.map (·.length)).sum + v.length
  | [], _, _, _, h => by cases h
  | a :: l, 0, y, v, h => by
    cases (show some a = some y from h)
    simp only [List.set_cons_zero, List.map_cons, List.sum_cons]
    omega
  | a :: l, i + 1, y, v, h => by
    have := sum_put l i y v h
    simp only [List.set_cons_succ, List.map_cons, List.sum_cons]
    omega
theorem wt_put {ws : List Str} {n m i : Nat} {y v : Str} (h : Wt ws n) (hy : ws[i]? = some y) (hl : Low v) (hm : v.length ≤ y.length + m) : Wt (ws.set i v) (n + m) := by
  refine ⟨?_, fun u hu => ?_⟩
  · have h1 := sum_put ws i y v hy
    have h2 := h.1
    rw [List.length_set]
    omega
  · rcases List.mem_or_eq_of_mem_set hu with q | q
    · exact h.2 u q
    · rw [q]; exact hl
theorem er_map : ∀ (l : List Str) (i : Nat), (l.eraseIdx i).map V.str = (l.map V.str).eraseIdx i
  | [], _ => rfl
  | _ :: _, 0 => rfl
  | a :: l, i + 1 => by
    show V.str a :: (l.eraseIdx i).map V.str = V.str a :: (l.map V.str).eraseIdx i
    rw [er_map l i]
end Q
namespace Q
open PySem PySem.Spec PyProof.Rows L2 Builtin Builtin.Str
/-! ### e.replace(y, z, 1) of written texts; min of two numbers -/
def repl1 (x y z : Str) : Str := if ((occurrences x y 0 x.length 1).isEmpty || (y.length == 0 && z.length == 0)) = true then x else glued z (partsBetween x (occurrences x y 0 x.length 1) y.length)
theorem repl1_fits (x y z : Str) : (glued z (partsBetween x (occurrences x y 0 x.length 1) y.length)).length ≤ x.length + z.length := by
  have h1 := StrLaws.occ_length_le x y 0 x.length 1
  have hy : (glued y (partsBetween x (occurrences x y 0 x.length 1) y.length)).length = x.length := by rw [StrLaws.glued_between_self]
  rw [size_glued, length_partsBetween, Nat.add_sub_cancel] at hy
  rw [size_glued, length_partsBetween, Nat.add_sub_cancel]
  have h2 : (occurrences x y 0 x.length 1).length * z.length ≤ 1 * z.length := Nat.mul_le_mul_right _ h1
  omega
theorem repl1_len (x y z : Str) : (repl1 x y z).length ≤ x.length + z.length := by
  unfold repl1
  split
  · exact Nat.le_add_right _ _
  · exact repl1_fits x y z
theorem part_low {x : Str} (h : Low x) : ∀ (cuts : List Nat) (w n : Nat), ∀ p ∈ partsBetween x cuts w, Low p := by
  intro cuts w n p hp c hc
  simp only [partsBetween, List.mem_map] at hp
  obtain ⟨⟨i, j⟩, _, rfl⟩ := hp
  refine h c ?_
  have e : (strSub x i j).cps.toList = (x.cps.toList.take j).drop i := by
    show (x.cps.extract i j).toList = _
    rw [Array.toList_extract]
    simp [List.extract_eq_drop_take, List.drop_take]
  rw [e] at hc
  exact List.mem_of_mem_take (List.mem_of_mem_drop hc)
theorem repl1_low {x y z : Str} (hx : Low x) (hz : Low z) : Low (repl1 x y z) := by
  unfold repl1
  split
  · exact hx
  · rw [StrLaws.glued_eq_join, ← TL.join_eq]
    exact low_join hz (part_low hx _ _ 0)
theorem gives_repl1 (x y z : Str) (t u v tk : Tok) (h0 : (u == 0 || v == 0) = false) (huv : (u == v) = false) (hyz : (y == z) = false) (hl : tooLong (x.length + (occurrences x y 0 x.length 1).length * z.length) = false) :
    Gives («str.replace» ⟨[.str x t, .str y u, .str z v, .int 1 tk], []⟩) (if ((occurrences x y 0 x.length 1).isEmpty || (y.length == 0 && z.length == 0)) = true then .val (.str x t) else .str (glued z (partsBetween x (occurrences x y 0 x.length 1) y.length))) := by
  have tree : «str.replace» ⟨[.str x t, .str y u, .str z v, .int 1 tk], []⟩ = (if ((occurrences x y 0 x.length 1).isEmpty || (y.length == 0 && z.length == 0)) = true then (do rule "str.replace.nothing"; ret (.str x t)) else
          (do let same ← isSame (.str y u) (.str z v)
              if same = true then (do rule "str.replace.old-is-new"; ret (.str x t)) else
              if tooLong (x.length + (occurrences x y 0 x.length 1).length * z.length) = true then unsupported "str.replace:memory" else
              retStr (glued z (partsBetween x (occurrences x y 0 x.length 1) y.length)))) := by
    show (do let limit ← countLimit "str.replace" (some (.int 1 tk)) (x.length + 1); _) = _
    rw [countLimit_int "str.replace" 1 tk (x.length + 1) (by decide)]
    rfl
  rw [tree]
  cases hc : ((occurrences x y 0 x.length 1).isEmpty || (y.length == 0 && z.length == 0))
  · rw [isSame_str_other y z u v h0 huv hyz, hl]
    exact .of_eq rfl
  · exact .rule (.of_eq rfl)
theorem call_repl1 {prog : Program} {w : World} {A : Around} {E : Value → Shared → Prop} {s : Shared} {x y z : Str} {t u v tk : Tok} {Q : Value → Shared → Prop}
    (hu : u ≠ 0) (hv : v ≠ 0) (huv : u ≠ v) (hyz : (y == z) = false) (hb : x.length + z.length ≤ 16777216)
    (hq : ∀ t' k, Q (.str (repl1 x y z) t') { s with toks := k }) : wpAny (model prog w) A (call (.builtin "str.replace") [.str x t, .str y u, .str z v, .int 1 tk]) Q E s := by
  have hl : tooLong (x.length + (occurrences x y 0 x.length 1).length * z.length) = false := by
    have h1 := StrLaws.occ_length_le x y 0 x.length 1
    have h2 : (occurrences x y 0 x.length 1).length * z.length ≤ 1 * z.length := Nat.mul_le_mul_right _ h1
    have e : (2 : Nat) ^ 24 = 16777216 := by decide
    unfold tooLong sizeLine
    exact decide_eq_false (by omega)
  refine call_gives F.slot_str_replace (typeIs_str _ _ _) F.entry_str_replace (F.args_str_replace_4 _ _ _ _) (gives_repl1 x y z t u v tk (by simp [hu, hv]) (by simp [huv]) hyz hl) ?_
  have hq' := hq
  unfold repl1 at hq'
  cases hc : ((occurrences x y 0 x.length 1).isEmpty || (y.length == 0 && z.length == 0))
  · rw [hc] at hq'
    simp only [Bool.false_eq_true, if_false] at hq' ⊢
    exact ⟨by have := repl1_fits x y z; rw [sizeLine_eq]; omega, hq' _ _⟩
  · rw [hc] at hq'
    simp only [if_true] at hq' ⊢
    exact hq' t s.toks
theorem call_m3 {prog : Program} {w : World} {A : Around} {E : Value → Shared → Prop} {s : Shared} {env : Env} {o e1 e2 e3 : Expr} {name : Str} {apos pos : Pos} {Q : Value → Shared → Prop}
    (hbase : attributeBase o name env (eval o env) = eval o env) (hs : starEach [e1, e2, e3] env = [(false, eval e1 env), (false, eval e2 env), (false, eval e3 env)]) (hline : (apos.endLine == pos.line) = true)
    (h : wpAny (model prog w) A (eval o env) (fun ov s₁ => MethodOnS prog w A E name ov pos [(false, eval e1 env), (false, eval e2 env), (false, eval e3 env)] Q s₁) E s) :
    wpAny (model prog w) A (eval (.Call (.Attribute o name apos) [e1, e2, e3] [] pos) env) Q E s := by
  refine wpAny_Call_method_lateS hbase (by rw [hs]; rfl) hline ?_
  rw [hs]
  exact h
def tRepl1 (to : TE) (y z : Str) : TE := fun σ H Q => to σ H fun v H1 => ∃ x, v = .str x ∧ x.length + z.length ≤ 16777216 ∧ Q (.str (repl1 x y z)) H1
section
variable {X : Cx} {o e e2 a b c : Expr} {te ta tb : TE} {to : TE} {tc : TT} {y z : Str} {i j k : Nat} {c0 c1 c2 c3 apos pos pos' pos2 p : Pos} {rest : List Stmt}
theorem pet_repl1 (ho : PE X o to) (hyz : (y == z) = false := by decide)
    (hst : starEach [.Constant (.str y) j c0, .Constant (.str z) k c1, .Constant (.int 1) i c2] X.env = [(false, eval (.Constant (.str y) j c0) X.env), (false, eval (.Constant (.str z) k c1) X.env), (false, eval (.Constant (.int 1) i c2) X.env)] := by rfl)
    (hbase : attributeBase o "replace" X.env (eval o X.env) = eval o X.env := by rfl) (hline : (apos.endLine == pos.line) = true := by rfl) :
    PET X (.Call (.Attribute o "replace" apos) [.Constant (.str y) j c0, .Constant (.str z) k c1, .Constant (.int 1) i c2] [] pos) (tRepl1 to y z) := by
  intro pins s σ H Q h0 I h
  refine call_m3 hbase hst hline (wpAny_mono (PySem.wpAny_toks (ho.run pins s σ H _ I h)) (fun v s1 q => ?_) fun _ _ z => z.2)
  obtain ⟨hk, v', H1, I1, r1, x, e1, hb, q⟩ := q
  subst e1
  obtain ⟨tx, e2⟩ := r1
  subst e2
  refine ⟨"str", _, PySem.F.plainAttrs_str, PySem.F.slot_str_replace, PySem.F.type_str_replace, typeIs_str _ _ _, (fun _ e => nomatch e), Calls.callWith_builtin rfl (Calls.evalArgs_plain (Calls.spliced_cons ?_))⟩
  refine Calls.Constant_str (Calls.spliced_cons ?_)
  refine Calls.Constant_str (Calls.spliced_cons ?_)
  refine wpAny_Constant_int (Calls.spliced_nil ?_)
  exact call_repl1 (by show s1.toks ≠ 0; omega) (by show s1.toks + 1 ≠ 0; omega) (by show s1.toks ≠ s1.toks + 1; omega) hyz hb fun t' k => ⟨.str (repl1 x y z), H1, I1.tok k, ⟨t', rfl⟩, q⟩
theorem pet_ifExp (hc : PT X c tc) (ha : PET X a ta) (hb : PET X b tb) : PET X (.IfExp c a b pos) (tIf tc ta tb) := by
  intro pins s σ H Q h0 I h
  refine wpAny_IfExp (wpAny_mono (PySem.wpAny_toks (hc.run pins s σ H _ I h)) (fun d s1 q => ?_) fun _ _ z => z.2)
  obtain ⟨hk, H1, I1, q1⟩ := q
  cases d with
  | true => exact ha pins s1 σ H1 Q (Nat.le_trans h0 hk) I1 q1
  | false => exact hb pins s1 σ H1 Q (Nat.le_trans h0 hk) I1 q1
theorem pet_of (h : PE X e te) : PET X e te := fun pins s σ H Q _ I q => h.run pins s σ H Q I q
/-- x = "..".join(e), and what follows has a token -/
theorem pss_joinT {x sep : Str} {cpos : Pos} {u : TS} (hN : X.N.Nodup) (hi : X.N[i]? = some x) (hx : Loc X.env.scope x) (he : PE X e te) (h2 : PSsT X rest u)
    (hsw : swapsWith (.Call (.Attribute (.Constant (.str sep) j cpos) "join" apos) [e] [] pos) (some (.Name x pos')) pos2.line X.env = pure false := by rfl)
    (hs : starEach [e] X.env = [(false, eval e X.env)] := by rfl) (hbase : attributeBase (.Constant (.str sep) j cpos) "join" X.env (eval (.Constant (.str sep) j cpos) X.env) = eval (.Constant (.str sep) j cpos) X.env := by rfl) (hline : (apos.endLine == pos.line) = true := by rfl)
    (hf : X.fn x = true ∨ X.env.scope.names.lookup x = some .local := by first | exact .inl rfl | exact .inr rfl | assumption) :
    PSs X (.Assign [.Name x pos'] (.Call (.Attribute (.Constant (.str sep) j cpos) "join" apos) [e] [] pos) pos2 :: rest) (tSeq (tAsg (tM1 (fun x xs H Q => ∃ a p, ∃ ys : List Str, x = .str a ∧ xs = [.ref p] ∧ (SqL X.K H p (ys.map V.str) ∨ SqT X.K H p (ys.map V.str)) ∧
      (ys.map (·.length)).sum + ys.length * a.length ≤ 16777216 ∧ Q (.str (Txt.join a ys)) H) (tC (.str sep)) te) (gName i)) u) := by
  refine ⟨fun pins s σ H D I h => ?_⟩
  refine wpAny_execs_cons (wpAny_Assign_Name ?_ hsw)
  refine PySem.Call_method1 hbase hs hline (Calls.Constant_str ?_)
  have h' : (∃ a, V.str sep = .str a) ∧ te σ H _ := h
  refine ⟨"str", _, PySem.F.plainAttrs_str, F.slot_str_join, F.type_str_join, typeIs_str _ _ _, (fun _ e => nomatch e), Calls.callWith_builtin rfl (Calls.evalArgs_plain (Calls.spliced_cons ?_))⟩
  refine wpAny_mono (PySem.wpAny_toks (he.run pins _ σ H _ (I.tok (s.toks + 1)) h'.2)) (fun v s1 q => ?_) fun _ _ z => z.2
  obtain ⟨hk, y, H2, I2, r2, q2⟩ := q
  refine Calls.spliced_nil ?_
  have hk1 : 1 ≤ s1.toks := Nat.le_trans (Nat.le_add_left 1 _) hk
  have jn := mt_join pins s1 σ H2 (.str sep) [y] (.str sep s.toks) [v] (fun x H1 => gName i x σ H1 (u D)) I2 ⟨_, rfl⟩ (.cons r2 .nil) q2
  refine wpAny_mono (PySem.wpAny_toks jn) (fun v3 s3 q => ?_) fun _ _ z => z.2
  obtain ⟨hk3, y3, H3, I3, r3, q3⟩ := q
  have hk3 : 1 ≤ s3.toks := Nat.le_trans hk1 hk3
  refine wpAny_mono (PySem.wpAny_toks (store_ok (Q := fun _ s4 => Inv X pins (σ.set i (some y3)) H3 s4) I3 hN hi hx r3 (fun _ I4 => I4) hf)) (fun _ s4 q => ?_) fun _ _ z => z.2
  exact h2 pins s4 _ H3 D (Nat.le_trans hk3 q.1) q.2 q3
end
def rMin2 : List V → Hp → VK → Prop := fun vs H Q => ∃ a b : Int, vs = [.int a, .int b] ∧ Q (.int (min a b)) H
theorem cr_min2 {X : Cx} (hc : X.calm = true) : CallR X (.builtin "min") rMin2 := by
  intro pins s σ H vs us Q I r h
  obtain ⟨a, b, rfl, q⟩ := h
  cases r with
  | cons r1 r =>
    cases r with
    | cons r2 r =>
      cases r
      obtain ⟨t1, rfl⟩ := r1
      obtain ⟨t2, rfl⟩ := r2
      refine min_two_ints (I.ok.hd hc) fun h' tk hk => ?_
      by_cases c : b < a
      · rw [if_pos c]
        rw [show min a b = b by omega] at q
        exact ⟨.int b, H, I.kept hk, ⟨_, rfl⟩, q⟩
      · rw [if_neg c]
        rw [show min a b = a by omega] at q
        exact ⟨.int a, H, I.kept hk, ⟨_, rfl⟩, q⟩
theorem r_min2 {a b : Int} {H : Hp} {Qv : VK} (q : Qv (.int (min a b)) H) : rMin2 [.int a, .int b] H Qv := ⟨a, b, rfl, q⟩
end Q
namespace Q
open PySem PySem.Spec PyProof.Rows L2
/-! ### what was heard of a text: told, or its line and word -/
def HearB (C : Addr) (Q : VK) : XK := fun cls d H1 => ∃ (e : En) (G : Hp) (M : List Addr) (l k : Int) (dd : Addr), Wd e G H1 M ∧ cls = .ref C ∧ d = some dd ∧ G dd = some (.xd (textF l k)) ∧
  ∀ p G' H', Wd e G' H' M → Same G G' → Same H1 H' → G' p = some (.tup [.str "text", .int l, .int k]) → Q (.ref p) H'
def TText (C : Addr) : (XK → Hp → VK → Prop) → Hp → VK → Prop := fun tl H Q => ∀ (E : XK) (Q' : VK), (∀ cls d H1, HearB C Q cls d H1 → E cls d H1) → (∀ v H1, HearT Q v H1 → Q' v H1) → tl E H Q'
theorem r_lamB {T : List (Addr × Str)} {C : Addr} {t : XK → TE} {σ : L2.St} {e : En} {G H : Hp} {M : List Addr} {Q : VK} (w : Wd e G H M) (eT : e.T = T) (cov : ∀ a, e.H0 a ≠ none → (∃ q, (a, q) ∈ e.T) ∨ (a ∉ e.P0 ∧ ∀ o, e.H0 a = some o → NoT o)) (inP : ∀ p ∈ e.T, p.1 ∈ e.P0)
    (k : ∀ (H1 : Hp) (E : XK) (Q' : VK), Wd e G H1 M → LamX.ExtN H H1 → (∀ cls d H2, HearB C Q cls d H2 → E cls d H2) → (∀ v H2, HearT Q v H2 → Q' v H2) → t E σ H1 Q') : LamX.tLam T (TText C) t σ H Q := by
  subst eT
  exact ⟨w.tb, fun H1 x tb E Q' hE hQ => k H1 E Q' (wd_lam w x tb cov inP) x hE hQ⟩
/-! ### the words of a saying -/
def okS (k : Nat) (z : Str) : Bool := match k with
  | 0 => nmOk z
  | 1 => (momW z).isSome
  | _ => decide (z = Str.ofString "sound" ∨ z = Str.ofString "unsound")
def rightsS : List Str → List Bool
  | [] => []
  | [a] => [okS 0 a]
  | [a, b] => [okS 0 a, okS 1 b]
  | a :: b :: c :: _ => [okS 0 a, okS 1 b, okS 2 c]
def sDueP (x : Str) : Option Nat := match (rightsS (Txt.split x zBlank)).findIdx? (fun b => !b) with
  | some k => some k
  | none => if (Txt.split x zBlank).length = 3 then none else some (min (Txt.split x zBlank).length 3)
def sDueV : V → Option Nat
  | .str z => sDueP z
  | _ => some 0
theorem fal_at : ∀ {bs : List Bool} {i : Nat}, bs[i]? = some false → (∀ j, j < i → bs[j]? = some true) → bs.findIdx? (fun b => !b) = some i
  | [], _, h, _ => by cases h
  | b :: bs, 0, h, _ => by
    cases (show some b = some false from h)
    rfl
  | b :: bs, i + 1, h, hb => by
    have h0 : b = true := by
      have := hb 0 (Nat.succ_pos _)
      simpa using this
    subst h0
    rw [List.findIdx?_cons]
    have ih := fal_at (bs := bs) (i := i) (by simpa using h) (fun j hj => by have := hb (j + 1) (Nat.succ_lt_succ hj); simpa using this)
    rw [ih]
    rfl
theorem fal_no : ∀ {bs : List Bool}, (∀ j, j < bs.length → bs[j]? = some true) → bs.findIdx? (fun b => !b) = none
  | [], _ => rfl
  | b :: bs, hb => by
    have h0 : b = true := by
      have := hb 0 (Nat.succ_pos _)
      simpa using this
    subst h0
    rw [List.findIdx?_cons]
    have ih := fal_no (bs := bs) (fun j hj => by have := hb (j + 1) (Nat.succ_lt_succ hj); simpa using this)
    rw [ih]
    rfl
theorem rights_len : ∀ ws : List Str, (rightsS ws).length = min ws.length 3
  | [] => rfl
  | [_] => rfl
  | [_, _] => rfl
  | _ :: _ :: _ :: r => by
    show 3 = min (r.length + 1 + 1 + 1) 3
    omega
theorem sdue_bad {x : Str} {k : Nat} (h : (rightsS (Txt.split x zBlank)).findIdx? (fun b => !b) = some k) : sDueP x = some k := by
  unfold sDueP
  rw [h]
theorem sdue_len {x : Str} (h : (rightsS (Txt.split x zBlank)).findIdx? (fun b => !b) = none) (h3 : (Txt.split x zBlank).length ≠ 3) : sDueP x = some (min (Txt.split x zBlank).length 3) := by
  unfold sDueP
  rw [h]
  exact if_neg h3
theorem sdue_three {x : Str} (h : (rightsS (Txt.split x zBlank)).findIdx? (fun b => !b) = none) (h3 : (Txt.split x zBlank).length = 3) : sDueP x = none := by
  unfold sDueP
  rw [h]
  exact if_pos h3
def truthT (b : Bool) : Str := if b then Str.ofString "sound" else Str.ofString "unsound"
def sayWords (t : Str) (i : Int) (b : Bool) : List Str := [t, Str.ofString (toString i), truthT b]
theorem say_join (t : Str) (i : Int) (b : Bool) : Txt.join zBlank (sayWords t i b) = sayText t i b := by
  refine TL.ext_tl ?_
  rw [TL.join_eq, TL.tl_join]
  unfold sayText sayWords truthT
  simp only [TL.tl_append]
  have e1 : TL.tl (Str.ofString " ") = TL.tl zBlank := rfl
  have e0 : TL.tl Str.empty = [] := rfl
  rw [e1, e0]
  simp only [List.map_cons, List.map_nil, TL.joinL, List.nil_append, List.append_assoc]
theorem say_free {t : Str} {i : Int} {b : Bool} (ht : nmOk t = true) (h0 : 0 ≤ i) {c : Nat} (hc : c < 48) : ∀ p ∈ sayWords t i b, c ∉ TL.tl p := by
  intro p hp
  obtain ⟨n, rfl⟩ := Int.eq_ofNat_of_zero_le h0
  simp only [sayWords, List.mem_cons, List.not_mem_nil, or_false] at hp
  have low : ∀ x : Str, x.cps.toList.all (fun c => decide (48 ≤ c)) = true → c ∉ TL.tl x := fun x hx m => by
    have := of_decide_eq_true (List.all_eq_true.mp hx c m)
    omega
  rcases hp with rfl | rfl | rfl
  · exact nm_free ht hc
  · rw [TL.tl_num]
    exact TL.numL_free (.inl hc)
  · cases b
    · exact low _ (by decide +kernel)
    · exact low _ (by decide +kernel)
theorem say_words {t : Str} {i : Int} (r : Right t i) (b : Bool) : Txt.split (sayText t i b) zBlank = sayWords t i b := by
  rw [← say_join]
  exact TL.split_join (y := zBlank) (s := 32) (S := []) (by decide +kernel) (by decide +kernel) (by simp [sayWords]) (say_free r.1 r.2.1 (by decide))
theorem say_due {t : Str} {i : Int} (r : Right t i) (b : Bool) : sDueP (sayText t i b) = none := by
  have e := say_words r b
  refine sdue_three ?_ (by rw [e] <;> rfl)
  rw [e]
  have e0 : okS 0 t = true := r.1
  have e1 : okS 1 (Str.ofString (toString i)) = true := by
    show (momW _).isSome = true
    rw [momW_num r.2.1 r.2.2]
    rfl
  have e2 : okS 2 (truthT b) = true := by cases b <;> decide +kernel
  show [okS 0 t, okS 1 (Str.ofString (toString i)), okS 2 (truthT b)].findIdx? _ = none
  rw [e0, e1, e2]
  rfl
theorem truth_of {z : Str} (h : okS 2 z = true) : z = truthT (decide (z = Str.ofString "sound")) := by
  rcases of_decide_eq_true h with e | e
  · rw [e]
    decide +kernel
  · rw [e]
    decide +kernel
/-- three right words: the saying -/
theorem three_words {x : Str} (h : (rightsS (Txt.split x zBlank)).findIdx? (fun b => !b) = none) (h3 : (Txt.split x zBlank).length = 3) :
    ∃ a b c i, Txt.split x zBlank = [a, b, c] ∧ momW b = some i ∧ Right a i ∧ x = sayText a i (decide (c = Str.ofString "sound")) ∧ okS 2 c = true := by
  match e : Txt.split x zBlank, h3 with
  | [a, b, c], _ =>
    rw [e] at h
    have hb := List.findIdx?_eq_none_iff.mp h
    have h0 := hb (okS 0 a) (by simp [rightsS])
    have h1 := hb (okS 1 b) (by simp [rightsS])
    have h2 := hb (okS 2 c) (by simp [rightsS])
    simp only [Bool.not_eq_false', Bool.not_eq_eq_eq_not, Bool.not_false] at h0 h1 h2
    obtain ⟨i, hi⟩ : ∃ i, momW b = some i := Option.isSome_iff_exists.mp h1
    obtain ⟨i0, i1, ei⟩ := momW_some hi
    refine ⟨a, b, c, i, rfl, hi, ⟨h0, i0, i1⟩, ?_, h2⟩
    have ex := StrLaws.join_split x zBlank
    rw [e, ← TL.join_eq] at ex
    rw [← say_join, ← ex]
    unfold sayWords
    rw [ei, ← truth_of h2]
theorem sdue_none {x : Str} (h : sDueP x = none) : ∃ t i b, Right t i ∧ x = sayText t i b := by
  have h1 : (rightsS (Txt.split x zBlank)).findIdx? (fun b => !b) = none := by
    unfold sDueP at h
    cases f : (rightsS (Txt.split x zBlank)).findIdx? (fun b => !b) with
    | some k => rw [f] at h; cases h
    | none => rfl
  have h3 : (Txt.split x zBlank).length = 3 := by
    refine Decidable.byContradiction fun n => ?_
    rw [sdue_len h1 n] at h
    cases h
  obtain ⟨a, b, c, i, _, _, r, e, _⟩ := three_words h1 h3
  exact ⟨a, i, _, r, e⟩
theorem sdue_small {x : Str} {k : Nat} (h : sDueP x = some k) : k ≤ 3 := by
  unfold sDueP at h
  cases f : (rightsS (Txt.split x zBlank)).findIdx? (fun b => !b) with
  | some j =>
    rw [f] at h
    cases h
    obtain ⟨hj, _⟩ := List.findIdx?_eq_some_iff_getElem.mp f
    rw [rights_len] at hj
    omega
  | none =>
    rw [f] at h
    simp only at h
    split at h
    · cases h
    · cases h
      omega
theorem say_inj {t t' : Str} {i i' : Int} {b b' : Bool} (r : Right t i) (r' : Right t' i') (e : sayText t i b = sayText t' i' b') : t = t' ∧ i = i' ∧ b = b' := by
  have h1 := say_words r b
  rw [e, say_words r' b'] at h1
  unfold sayWords at h1
  injection h1 with e1 h1
  injection h1 with e2 h1
  injection h1 with e3 _
  have m1 := momW_num r.2.1 r.2.2
  have m2 := momW_num r'.2.1 r'.2.2
  rw [← e2, m2] at m1
  refine ⟨e1.symm, (Option.some.inj m1).symm, ?_⟩
  cases b <;> cases b' <;> first | rfl | (exact absurd e3 (by decide +kernel))
theorem say_len {t : Str} {i : Int} (r : Right t i) (b : Bool) : (sayText t i b).length ≤ 50 := by
  have l1 := r.len
  have l3 := lenZ r.2.1 r.2.2
  have l4 : (if b then Str.ofString "sound" else Str.ofString "unsound" : Str).length ≤ 7 := by cases b <;> decide +kernel
  unfold sayText
  simp only [Str.length_append]
  have e0 : Str.empty.length = 0 := rfl
  have e1 : (Str.ofString " ").length = 1 := rfl
  omega
theorem nm_low {z : Str} (h : nmOk z = true) : Low z := fun c hc => by
  unfold nmOk at h
  simp only [Bool.and_eq_true] at h
  have a := List.all_eq_true.mp h.2.2.2 c hc
  have e : zLetters.cps.toList.all (fun c => decide (c < 128)) = true := by decide +kernel
  rcases Bool.or_eq_true_iff.mp a with a | a
  · exact of_decide_eq_true (List.all_eq_true.mp e c (of_decide_eq_true a))
  · have := (fig_iff c).mp a
    omega
theorem say_low {t : Str} {i : Int} (r : Right t i) (b : Bool) : Low (sayText t i b) := by
  unfold sayText
  refine low_app (low_app (low_app (low_app (low_app (low_of (by decide +kernel)) (nm_low r.1)) (low_of (by decide +kernel))) (low_num i)) (low_of (by decide +kernel))) ?_
  cases b <;> exact low_of (by decide +kernel)
/-! ### what reading a saying promises -/
def spSayRead (K : PySem.W.Frag) (C Ct : Addr) : Sp := fun vs H Q E => ∃ (G : Hp) (x : V) (u : Value), vs = [.ref C, x] ∧ Gh G H ∧ Kd K G x u ∧ (∀ z, x = .str z → z.length ≤ 100000) ∧
  (∀ t i b, Right t i → x = .str (sayText t i b) → Ret G H (fun v G' => ∃ a, v = .ref a ∧ SayAt C G' a t i b) Q) ∧ ∀ k, sDueV x = some k → RetXf G H Ct (textF 0 (k : Int)) E
theorem u_sayRead {K : PySem.W.Frag} {C Ct : Addr} {e : En} {G H : Hp} {M : List Addr} {Q : VK} {E : XK} {x : V} {u : Value} (w : Wd e G H M) (hx : Kd K G x u) (hz : ∀ z, x = .str z → z.length ≤ 100000) (good : ∀ t i b, Right t i → x = .str (sayText t i b) → ∀ a G' H', Wd e G' H' M → Same G G' → Same H H' → SayAt C G' a t i b → Q (.ref a) H')
    (bad : ∀ k, sDueV x = some k → ∀ d G' H', Wd e G' H' M → Same G G' → Same H H' → G' d = some (.xd (textF 0 (k : Int))) → E (.ref Ct) (some d) H') : spSayRead K C Ct [.ref C, x] H Q E :=
  ⟨G, x, u, rfl, w.gh, hx, hz, fun t i b r c => ret_use w fun v G' H' w' s1 s2 ⟨p, e1, e2⟩ => by subst e1; exact good t i b r c p G' H' w' s1 s2 e2, fun k c => retXf_use w (bad k c)⟩
/-! ### the law's own defs -/
def momN (z : Str) : Int := (momW z).getD (-1)
theorem momN_pos (z : Str) : decide ((0 : Int) ≤ momN z) = (momW z).isSome := by
  unfold momN
  cases h : momW z with
  | none => rfl
  | some i =>
    have := (momW_some h).1
    exact decide_eq_true this
def spNumS : Sp := fun vs H Q _ => ∃ (G : Hp) (z : Str), vs = [.str z] ∧ Gh G H ∧ z.length ≤ 1000000 ∧ PyData.strOk z = true ∧ Ret G H (fun v _ => v = .int (momN z)) Q
/-- what is due: the text's fault, or told and the saying -/
def DueS (C : Addr) (G : Hp) (z : Str) (v : V) : Prop := (∃ k p, sDueP z = some k ∧ v = .ref p ∧ G p = some (.tup [.str "text", .int 0, .int (k : Int)])) ∨
  ∃ p a t i b, Right t i ∧ z = sayText t i b ∧ v = .ref p ∧ G p = some (.tup [.str "told", .ref a]) ∧ SayAt C G a t i b
theorem DueS.same {C : Addr} {G G' : Hp} {z : Str} {v : V} (h : DueS C G z v) (s : Same G G') : DueS C G' z v := by
  rcases h with ⟨k, p, h1, h2, h3⟩ | ⟨p, a, t, i, b, h1, h2, h3, h4, h5⟩
  · exact .inl ⟨k, p, h1, h2, s _ _ h3⟩
  · exact .inr ⟨p, a, t, i, b, h1, h2, h3, s _ _ h4, h5.same s⟩
def spDueS (C : Addr) : Sp := fun vs H Q _ => ∃ (G : Hp) (z : Str), vs = [.str z] ∧ Gh G H ∧ z.length ≤ 100000 ∧ Low z ∧ Ret G H (fun v G' => DueS C G' z v) Q
section
variable {K : PySem.W.Frag} {C : Addr} {e : En} {G H : Hp} {M : List Addr} {Q : VK} {E : XK}
theorem u_numS {z : Str} (w : Wd e G H M) (h : z.length ≤ 1000000) (ht : PyData.strOk z = true) (k : ∀ G' H', Wd e G' H' M → Same G G' → Same H H' → Q (.int (momN z)) H') : spNumS [.str z] H Q E :=
  ⟨G, z, rfl, w.gh, h, ht, ret_use w fun v G' H' w' s1 s2 p => by subst p; exact k G' H' w' s1 s2⟩
theorem u_dueS {z : Str} (w : Wd e G H M) (h : z.length ≤ 100000) (ht : Low z) (k : ∀ v G' H', Wd e G' H' M → Same G G' → Same H H' → DueS C G' z v → Q v H') : spDueS C [.str z] H Q E :=
  ⟨G, z, rfl, w.gh, h, ht, ret_use w fun v G' H' w' s1 s2 p => k v G' H' w' s1 s2 p⟩
end
theorem text_show {k : Nat} (h : k ≤ 3) : (PyData.tuple [.str "text", .int 0, .int (k : Int)]).showable = true ∧ (PyData.tuple [.str "text", .int 0, .int (k : Int)]).depth ≤ 60 ∧ (PyData.tuple [.str "text", .int 0, .int (k : Int)]).shown.length ≤ sizeLine := by
  match k, h with
  | 0, _ => decide +kernel
  | 1, _ => decide +kernel
  | 2, _ => decide +kernel
  | 3, _ => decide +kernel
/-- what was heard of reading x -/
def HeardS (C : Addr) (G : Hp) (x v : V) : Prop := (∃ k p, sDueV x = some k ∧ v = .ref p ∧ G p = some (.tup [.str "text", .int 0, .int (k : Int)])) ∨
  ∃ p a t i b, Right t i ∧ x = .str (sayText t i b) ∧ v = .ref p ∧ G p = some (.tup [.str "told", .ref a]) ∧ SayAt C G a t i b
theorem u_hearS {K : PySem.W.Frag} {C Ct : Addr} {e : En} {G H : Hp} {M : List Addr} {Q Q' : VK} {E : XK} {x : V} {u : Value} (w : Wd e G H M) (hx : Kd K G x u) (hz : ∀ z, x = .str z → z.length ≤ 100000)
    (hE : ∀ cls d H1, HearB Ct Q cls d H1 → E cls d H1) (hQ : ∀ v H1, HearT Q v H1 → Q' v H1) (k : ∀ v G' H', Wd e G' H' M → Same G G' → Same H H' → HeardS C G' x v → Q v H') : spSayRead K C Ct [.ref C, x] H Q' E :=
  u_sayRead w hx hz (fun t i b r ex a G1 H1 w1 s1 t1 ha => hQ _ _ ⟨e, G1, M, w1, fun l G2 H2 w2 s2 t2 hl => k _ G2 H2 w2 (s1.trans s2) (t1.trans t2) (.inr ⟨l, a, t, i, b, r, ex, rfl, hl, ha.same s2⟩)⟩)
    (fun j hd d G1 H1 w1 s1 t1 hdd => hE _ _ _ ⟨e, G1, M, 0, (j : Int), d, w1, rfl, rfl, hdd, fun p G2 H2 w2 s2 t2 hp => k _ G2 H2 w2 (s1.trans s2) (t1.trans t2) (.inl ⟨j, p, hd, rfl, hp⟩)⟩)
end Q
namespace Q
open PySem PySem.Spec PyProof.Rows L2
/-! ### a dict of the top with text keys: in, []; a head that looks at one -/
def DicAt (K : PySem.W.Frag) (w : World) (d : Addr) (ks : List Str) : Prop := He.dicW K d = some (He.keysIn w.params ks)
theorem dic_entries {K : PySem.W.Frag} {d : Addr} {l : List (Option (Str × Int))} (h : He.dicW K d = some l) : ∃ es n sl, K.lookup d = some ⟨.type "dict", none, .dict es n, sl⟩ ∧ es.toList.map He.keyOf = l := by
  unfold He.dicW at h
  split at h
  · rename_i c es n sl q
    split at h
    · rename_i z
      obtain ⟨z1, _⟩ := He.ba z
      obtain rfl : c = "dict" := of_decide_eq_true z1
      exact ⟨es, n, sl, q, Option.some.inj h⟩
    · cases h
  · cases h
theorem ent_key {P : Params} : ∀ {l : List DictEntry} {ks : List Str}, l.map He.keyOf = He.keysIn P ks → ∀ e ∈ l, ∃ x t, e.key = .str x t ∧ x ∈ ks
  | [], _, _, _, m => by cases m
  | e0 :: r, [], h, _, _ => by cases h
  | e0 :: r, k :: ks, h, e, m => by
    have h1 : He.keyOf e0 :: r.map He.keyOf = some (k, PyData.keyHash P k) :: He.keysIn P ks := h
    injection h1 with h2 h3
    rcases List.mem_cons.mp m with rfl | m
    · unfold He.keyOf at h2
      split at h2
      · rename_i x t q
        have h4 := Option.some.inj h2
        obtain ⟨h5, _⟩ := Prod.mk.inj h4
        exact ⟨x, t, q, by rw [h5]; exact List.mem_cons_self⟩
      · cases h2
    · obtain ⟨x, t, q, z⟩ := ent_key h3 e m
      exact ⟨x, t, q, List.mem_cons_of_mem _ z⟩
theorem key_ent {P : Params} : ∀ {l : List DictEntry} {ks : List Str}, l.map He.keyOf = He.keysIn P ks → ∀ x ∈ ks, ∃ e ∈ l, ∃ t, e.key = .str x t
  | [], [], _, _, m => by cases m
  | [], _ :: _, h, _, _ => by cases h
  | e0 :: r, [], h, _, _ => by cases h
  | e0 :: r, k :: ks, h, x, m => by
    have h1 : He.keyOf e0 :: r.map He.keyOf = some (k, PyData.keyHash P k) :: He.keysIn P ks := h
    injection h1 with h2 h3
    rcases List.mem_cons.mp m with rfl | m
    · unfold He.keyOf at h2
      split at h2
      · rename_i y t q
        have h4 := Option.some.inj h2
        obtain ⟨h5, _⟩ := Prod.mk.inj h4
        exact ⟨e0, List.mem_cons_self, t, by rw [q, h5]⟩
      · cases h2
    · obtain ⟨e, z, t, q⟩ := key_ent h3 x m
      exact ⟨e, List.mem_cons_of_mem _ z, t, q⟩
theorem dic_has {K : PySem.W.Frag} {w : World} {d : Addr} {ks : List Str} (h : DicAt K w d ks) (z : Str) : ∃ r, PySem.W.nsIn K d z = some r ∧ r.isSome = decide (z ∈ ks) := by
  obtain ⟨es, n, sl, q, hk⟩ := dic_entries h
  have e : PySem.W.nsIn K d z = (match es.toList.find? (·.key.isStr z) with
      | some e => some (some e.val)
      | none => if es.toList.any (·.refKey) then none else some none) := by
    unfold PySem.W.nsIn
    rw [q] <;> rfl
  rw [e]
  by_cases m : z ∈ ks
  · obtain ⟨e1, he1, t, hq⟩ := key_ent hk z m
    cases f : es.toList.find? (·.key.isStr z) with
    | some e2 => exact ⟨_, rfl, by rw [decide_eq_true m]; rfl⟩
    | none =>
      have := List.find?_eq_none.mp f e1 he1
      rw [hq] at this
      exact absurd (by simp [Value.isStr]) this
  · cases f : es.toList.find? (·.key.isStr z) with
    | some e2 =>
      obtain ⟨x, t, hq, hx⟩ := ent_key hk e2 (List.mem_of_find?_eq_some f)
      have := List.find?_some f
      rw [hq] at this
      have ex : x = z := by simpa [Value.isStr] using this
      exact absurd (ex ▸ hx) m
    | none =>
      refine ⟨none, ?_, by rw [decide_eq_false m]; rfl⟩
      have : es.toList.any (·.refKey) = false := by
        rw [List.any_eq_false]
        intro e1 he1
        obtain ⟨x, t, hq, _⟩ := ent_key hk e1 he1
        simp [DictEntry.refKey, hq]
      show (if es.toList.any (·.refKey) = true then none else some none) = some none
      rw [this]
      rfl
def rInKd (K : PySem.W.Frag) (w : World) : R2 := fun x y H Q => ∃ (z : Str) (d : Addr) (ks : List Str), x = .str z ∧ y = .ref d ∧ DicAt K w d ks ∧ Q (.bl (decide (z ∈ ks))) H
theorem q_inKd {X : Cx} : OpR X (compareOp .In) (rInKd X.K X.w) := by
  intro pins s σ H x y v u Q I rx ry h
  obtain ⟨z, d, ks, rfl, rfl, D, q⟩ := h
  obtain ⟨es, n, kd⟩ := He.dicW_ok D
  obtain ⟨r, hr, er⟩ := dic_has D z
  rw [← er] at q
  exact op_in_kd kd pins s σ H (.str z) (.ref d) v u Q I rx ry ⟨z, r, rfl, rfl, hr, q⟩
theorem r_inKd {K : PySem.W.Frag} {w : World} {d : Addr} {ks : List Str} {z : Str} {H : Hp} {Q : VK} (D : DicAt K w d ks) (q : Q (.bl (decide (z ∈ ks))) H) : rInKd K w (.str z) (.ref d) H Q := ⟨z, d, ks, rfl, rfl, D, q⟩
theorem q_ixKd {X : Cx} : IxR X (rIxD X.K X.w) := ix_kdict
theorem r_ixKd {K : PySem.W.Frag} {w : World} {d : Addr} {z : Str} {v : V} {H : Hp} {Q : VK} (D : KDct K w d z v) (q : Q v H) : rIxD K w (.ref d) (.str z) H Q := ⟨d, z, v, rfl, rfl, D, q⟩
theorem dic_val {K : PySem.W.Frag} {w : World} {d : Addr} {ks : List Str} {kvs : List (Str × He.Dv)} (h : DicAt K w d ks) (hv : He.valsB K d kvs = true) {q : Str × He.Dv} (hq : q ∈ kvs) : KDct K w d q.1 (q.2.v K) := by
  obtain ⟨es, n, kd⟩ := He.dicW_ok h
  obtain ⟨u, e, r⟩ := He.valsB_ok hv hq
  exact ⟨es, n, u, kd.at_, kd.lit, e, r⟩
/-- the two words of truth -/
structure TrC (K : PySem.W.Frag) (w : World) (d : Addr) : Prop where
  at_ : DicAt K w d ["sound", "unsound"]
  val : ∀ z, okS 2 z = true → KDct K w d z (.bl (decide (z = Str.ofString "sound")))
theorem trC_of {K : PySem.W.Frag} {w : World} {d : Addr} (h : DicAt K w d ["sound", "unsound"]) (hv : He.valsB K d [("sound", .bl true), ("unsound", .bl false)] = true) : TrC K w d := by
  refine ⟨h, fun z hz => ?_⟩
  rcases of_decide_eq_true hz with e | e
  · have := dic_val h hv (q := ("sound", .bl true)) (by simp)
    rw [e]
    exact this
  · have := dic_val h hv (q := ("unsound", .bl false)) (by simp)
    rw [e]
    exact this
/-! ### the Hook of a head that looks at such dicts -/
abbrev AlD2 : Type := AlR × List (Option (List (Option (Str × Int))))
def obsD2 (n : Nat) (fa : List He.Fa) (fn : List He5.DefA) (tf : List (PySem.W.Frag → Addr)) (ex : PySem.W.Frag → Bool) (ts : List He.Tab) (g : Addr → Option Obj) : AlD2 := (obsR n fa fn tf ex g, ts.map fun t => He.dicW (He.frT g (asQ g n)) (t.1 (He.frT g (asQ g n))))
def SaysD2 (fa : List He.Fa) (fn : List He5.DefA) (tf : List (PySem.W.Frag → Addr)) (ex : PySem.W.Frag → Bool) (ts : List He.Tab) (w : World) (h : Heap) (K : PySem.W.Frag) : Prop := SaysR fa fn tf ex h K ∧ ∀ t ∈ ts, DicAt K w (t.1 K) t.2
def hookD2 (n : Nat) (fa : List He.Fa) (fn : List He5.DefA) (tf : List (PySem.W.Frag → Addr)) (ex : PySem.W.Frag → Bool) (ts : List He.Tab) : PySem.W.Hook where
  α := AlD2
  obs := fun s => obsD2 n fa fn tf ex ts s.heap.get?
  val := fun w => ((He5.valA fn, true), ts.map fun t => some (He.keysIn w.params t.2))
  says := fun w h => ∃ K : PySem.W.Frag, K.In h ∧ SaysD2 fa fn tf ex ts w h K
  of := fun w s e => by
    have e1 : obsR n fa fn tf ex s.heap.get? = (He5.valA fn, true) := congrArg (fun z : AlD2 => z.1) e
    have e2 : (ts.map fun t => He.dicW (He.frT s.heap.get? (asQ s.heap.get? n)) (t.1 (He.frT s.heap.get? (asQ s.heap.get? n)))) = ts.map fun t => some (He.keysIn w.params t.2) := congrArg (fun z : AlD2 => z.2) e
    exact ⟨_, He.frT_in, saysR_of e1, fun t ht => List.map_inj_left.mp e2 t ht⟩
  keeps := fun _ _ _ ⟨K, hK, c, d⟩ k => ⟨K, PySem.W.Frag.In.keeps hK k, ⟨c.t, c.more, c.hd, c.out, fun p hp => k _ _ (c.empty p hp)⟩, d⟩
theorem obsD2_eq {n : Nat} {fa : List He.Fa} {fn : List He5.DefA} {tf : List (PySem.W.Frag → Addr)} {ex : PySem.W.Frag → Bool} {ts : List He.Tab} {g : Addr → Option Obj} {s : Shared} (h : ∀ a, g a = s.heap.get? a) : obsD2 n fa fn tf ex ts g = (hookD2 n fa fn tf ex ts).obs s := by
  obtain rfl : g = s.heap.get? := funext h
  rfl
end Q
namespace Q
open PySem PySem.Spec PyProof.Rows L2
/-! ### rights of words, word by word -/
theorem rights_1 {ws : List Str} {a : Str} {r : List Str} (h : ws = a :: r) (h1 : ¬ 1 < ws.length) : rightsS (ws.take 2) = [okS 0 a] := by
  subst h
  match r, h1 with
  | [], _ => rfl
  | b :: r, h1 => exact absurd (by simp) h1
theorem rights_2 {ws : List Str} {a b : Str} {r : List Str} (h : ws = a :: r) (hb : ws[1]? = some b) : rightsS (ws.take 2) = [okS 0 a] ++ [okS 1 b] := by
  subst h
  match r, hb with
  | c :: r, hb =>
    cases (show some c = some b from hb)
    rfl
theorem rights_3 {ws : List Str} {c : Str} (hc : ws[2]? = some c) : rightsS ws = rightsS (ws.take 2) ++ [okS 2 c] := by
  match ws, hc with
  | a :: b :: d :: r, hc =>
    cases (show some d = some c from hc)
    rfl
theorem rights_no {ws : List Str} (h : ¬ 2 < ws.length) : rightsS ws = rightsS (ws.take 2) := by rw [List.take_of_length_le (by omega)]
theorem bl_at {bs : List Bool} {i : Nat} {v : V} (h : (bs.map V.bl)[i]? = some v) : ∃ b, bs[i]? = some b ∧ v = .bl b := by
  rw [List.getElem?_map] at h
  cases e : bs[i]? with
  | none => rw [e] at h; cases h
  | some b => rw [e] at h; exact ⟨b, rfl, (Option.some.inj h).symm⟩
theorem foldD_lt : ∀ (l : List Nat) (a : Nat), NumText.AllDigits l → l.foldl (fun acc c => acc * 10 + (c - 48)) a < (a + 1) * 10 ^ l.length
  | [], a, _ => by simp
  | c :: r, a, h => by
    have hc := h.head
    have ih := foldD_lt r (a * 10 + (c - 48)) h.tail
    rw [List.foldl_cons, List.length_cons, Nat.pow_succ]
    have h1 : a * 10 + (c - 48) + 1 ≤ (a + 1) * 10 := by omega
    have h2 := Nat.mul_le_mul_right (10 ^ r.length) h1
    have e : (a + 1) * (10 ^ r.length * 10) = (a + 1) * 10 * 10 ^ r.length := by rw [Nat.mul_comm (10 ^ r.length) 10, Nat.mul_assoc]
    omega
theorem log_digits {l : List Nat} (h : NumText.AllDigits l) (hl : l.length ≤ 31) : ((NumText.digitsVal l : Nat) : Int).natAbs.log2 < 1920 := by
  have h1 : NumText.digitsVal l < (0 + 1) * 10 ^ l.length := foldD_lt l 0 h
  have h2 : (10 : Nat) ^ l.length ≤ 10 ^ 31 := Nat.pow_le_pow_right (by decide) hl
  have h3 : (10 : Nat) ^ 31 < 2 ^ 1920 := by decide +kernel
  rw [Int.natAbs_natCast]
  by_cases z : NumText.digitsVal l = 0
  · rw [z]
    decide
  · exact (Nat.log2_lt z).mpr (by omega)
theorem digits_snoc {l : List Nat} {i c : Nat} (h : l[i]? = some c) : ((NumText.digitsVal (l.take (i + 1)) : Nat) : Int) = 10 * ((NumText.digitsVal (l.take i) : Nat) : Int) + ((NumText.digitsVal [c] : Nat) : Int) := by
  have e : NumText.digitsVal (l.take (i + 1)) = NumText.digitsVal (l.take i) * 10 + (c - 48) := by
    unfold NumText.digitsVal
    rw [List.take_add_one, h, List.foldl_append]
    rfl
  have e2 : NumText.digitsVal [c] = 0 * 10 + (c - 48) := rfl
  rw [e, e2]
  omega
theorem say_line (z : Str) (i : Int) (b : Bool) : z ++ Str.ofString " " ++ Str.ofString (toString i) ++ Str.ofString " " ++ truthT b = sayText z i b := by
  refine TL.ext_tl ?_
  unfold sayText truthT
  simp only [TL.tl_append]
  rfl
end Q
namespace Q
open PySem PySem.Spec PyProof.Rows L2
/-! ### a head that looks at fewer objects: what some names of the module reach, each object once -/
def addW : List Addr → Nat → List Addr → Nat × List Addr
  | [], m, f => (m, f)
  | a :: r, m, f => match Nat.testBit m a with
    | true => addW r m f
    | false => HandSHeadRun.frNat (m ||| (1 <<< a)) fun m => addW r m (a :: f)
def levelW (g : Addr → Option Obj) : List Addr → Nat → List Addr → Nat × List Addr
  | [], m, f => (m, f)
  | a :: r, m, f => match g a with
    | some o => (match addW (He.refsD o) m f with
      | (m', f') => levelW g r m' f')
    | none => levelW g r m f
def reachW (g : Addr → Option Obj) : Nat → Nat → List Addr → List Addr → List Addr
  | 0, _, f, acc => f ++ acc
  | n + 1, m, f, acc => match levelW g f m [] with
    | (m', f') => reachW g n m' f' (f ++ acc)
def namedW (g : Addr → Option Obj) (ns : List Str) : List Addr := match g mainGlobals with
  | some ⟨_, _, .dict es _, _⟩ => es.toList.flatMap fun e => match e.key with
    | .str x _ => (match ns.any (fun y => decide (x = y)) with
      | true => He.refV e.val
      | false => [])
    | _ => []
  | _ => []
def asW (g : Addr → Option Obj) (ns : List Str) (n : Nat) : List Addr := (match addW (namedW g ns) (1 <<< mainGlobals) [] with
  | (m, f) => reachW g n m f [mainGlobals, cStatics, sysModules])
def obsW (l : List Addr) (fa : List He.Fa) (fn : List He5.DefA) (tf : List (PySem.W.Frag → Addr)) (ex : PySem.W.Frag → Bool) (g : Addr → Option Obj) : AlR := (He5.obsA fa fn (He.frT g l), ex (He.frT g l) && tabsQ g tf (He.frT g l))
theorem saysW_of {l : List Addr} {fa : List He.Fa} {fn : List He5.DefA} {tf : List (PySem.W.Frag → Addr)} {ex : PySem.W.Frag → Bool} {h : Heap} (e : obsW l fa fn tf ex h.get? = (He5.valA fn, true)) : SaysR fa fn tf ex h (He.frT h.get? l) := by
  have e1 : He5.obsA fa fn (He.frT h.get? l) = He5.valA fn := congrArg (fun z : AlR => z.1) e
  have e2 : (ex (He.frT h.get? l) && tabsQ h.get? tf (He.frT h.get? l)) = true := congrArg (fun z : AlR => z.2) e
  obtain ⟨h1, h2⟩ := He.ba e2
  have each : ∀ p ∈ tf, PySem.W.codeHdIn (He.frT h.get? l) (cTA (He.frT h.get? l) (p (He.frT h.get? l))).1 (cTA (He.frT h.get? l) (p (He.frT h.get? l))).2 = true ∧
      ∃ o, h.get? (cTA (He.frT h.get? l) (p (He.frT h.get? l))).2 = some o ∧ He.emptyTab o = true := by
    intro p hp
    obtain ⟨h3, h4⟩ := He.ba (List.all_eq_true.mp h2 p hp)
    refine ⟨h3, ?_⟩
    split at h4
    · rename_i o q
      exact ⟨o, q, h4⟩
    · cases h4
  refine ⟨e1, h1, fun p hp => (each p hp).1, fun p hp => ?_, fun p hp => ?_⟩
  · obtain ⟨_, o, q, z⟩ := each p hp
    exact He.frT_none q z
  · obtain ⟨_, o, q, z⟩ := each p hp
    rw [q, He.emptyTab_eq z]
def obsV (ns : List Str) (n : Nat) (fa : List He.Fa) (fn : List He5.DefA) (tf : List (PySem.W.Frag → Addr)) (ex : PySem.W.Frag → Bool) (ts : List He.Tab) (g : Addr → Option Obj) : AlD2 :=
  (obsW (asW g ns n) fa fn tf ex g, ts.map fun t => He.dicW (He.frT g (asW g ns n)) (t.1 (He.frT g (asW g ns n))))
def hookV (ns : List Str) (n : Nat) (fa : List He.Fa) (fn : List He5.DefA) (tf : List (PySem.W.Frag → Addr)) (ex : PySem.W.Frag → Bool) (ts : List He.Tab) : PySem.W.Hook where
  α := AlD2
  obs := fun s => obsV ns n fa fn tf ex ts s.heap.get?
  val := fun w => ((He5.valA fn, true), ts.map fun t => some (He.keysIn w.params t.2))
  says := fun w h => ∃ K : PySem.W.Frag, K.In h ∧ SaysD2 fa fn tf ex ts w h K
  of := fun w s e => by
    have e1 : obsW (asW s.heap.get? ns n) fa fn tf ex s.heap.get? = (He5.valA fn, true) := congrArg (fun z : AlD2 => z.1) e
    have e2 : (ts.map fun t => He.dicW (He.frT s.heap.get? (asW s.heap.get? ns n)) (t.1 (He.frT s.heap.get? (asW s.heap.get? ns n)))) = ts.map fun t => some (He.keysIn w.params t.2) := congrArg (fun z : AlD2 => z.2) e
    exact ⟨_, He.frT_in, saysW_of e1, fun t ht => List.map_inj_left.mp e2 t ht⟩
  keeps := fun _ _ _ ⟨K, hK, c, d⟩ k => ⟨K, PySem.W.Frag.In.keeps hK k, ⟨c.t, c.more, c.hd, c.out, fun p hp => k _ _ (c.empty p hp)⟩, d⟩
theorem obsV_eq {ns : List Str} {n : Nat} {fa : List He.Fa} {fn : List He5.DefA} {tf : List (PySem.W.Frag → Addr)} {ex : PySem.W.Frag → Bool} {ts : List He.Tab} {g : Addr → Option Obj} {s : Shared} (h : ∀ a, g a = s.heap.get? a) : obsV ns n fa fn tf ex ts g = (hookV ns n fa fn tf ex ts).obs s := by
  obtain rfl : g = s.heap.get? := funext h
  rfl
end Q
namespace Q
open PySem PySem.Spec PyProof.Rows L2 Builtin
/-! ### len(o), truth of o, bool(o) by own defs -/
section
variable {X : Cx} {CX : CXT} {k j : Nat} {C : Addr} {sp : Sp} {E : XK}
def rLenO (C : Addr) (sp : Sp) (E : XK) : List V → Hp → VK → Prop := fun xs H Q => ∃ a dx fs, xs = [.ref a] ∧ H a = some (.ins C dx fs) ∧ sp [.ref a] H (fun v H' => ∃ n : Int, v = .int n ∧ 0 ≤ n ∧ n < 2 ^ 63 ∧ Q (.int n) H') E
theorem q_lenO (D : SpD X.prog X.w X.K X.mg X.base CX k C "__len__" sp) (hr : Room j X.A) (hx : Passes CX X E) (hj : k + 1 ≤ j := by decide) : CallR X (.builtin "len") (rLenO C sp E) := by
  intro pins s σ H xs us Q I r h
  obtain ⟨a, dx, fs, rfl, ea, q⟩ := h
  obtain ⟨u, rfl, ru⟩ := r.one
  cases (show u = Value.ref a from ru)
  obtain ⟨f, fd, ps, hs, hf, hbd, F⟩ := D.ex
  obtain ⟨mA, O, _, _, _, _⟩ := ins_get I.hok ea
  obtain ⟨od, J, _⟩ := O.look
  have hr2 : Room k X.A.in1 := Room.in1 (hr.mono hj)
  refine Calls.call_function_entry PySem.kind_len PySem.plain_len PySem.entry_len (PySem.args_len1 _) ?_
  unfold Builtin.«len»
  refine wpAny_bind (m := oneArg "len" _) (wpAny_pure ?_)
  refine wpAny_bind (m := callSpecial? (.ref a) (Str.ofString "__len__")) (PySem.W.special_fn I.kIn J hs (beq_iff_eq.mp hf) (wpAny_mono (run_under (us := [.ref a]) (vs := [.ref a]) F hr2 I.env0.in1 hbd hx I (.cons rfl .nil) q) (fun r s' z => ?_) fun _ _ y => y))
  obtain ⟨z', H', I', rz, n, e, h0, h1, qz⟩ := z
  subst e
  obtain ⟨t, e⟩ := (show ∃ t, r = Value.int n t from rz)
  subst e
  refine wpAny_bind (wpAny_holding (wpAny_pure ?_))
  refine wpAny_bind (wpAny_letGo ?_)
  show wpAny _ _ (if n < 0 then _ else _) _ _ _
  rw [if_neg (by omega)]
  show wpAny _ _ (if n ≥ 2 ^ 63 then _ else _) _ _ _
  rw [if_neg (by omega)]
  exact wpAny_bind (wpAny_mkInt (wpAny_pure ⟨_, rfl, .int n, H', I'.tok _, ⟨_, rfl⟩, qz⟩))
theorem r_lenO {H : Hp} {a dx : Addr} {fs : List (Str × V)} {Qv : VK} (h : H a = some (.ins C dx fs)) (q : sp [.ref a] H (fun v H' => ∃ n : Int, v = .int n ∧ 0 ≤ n ∧ n < 2 ^ 63 ∧ Qv (.int n) H') E) : rLenO C sp E [.ref a] H Qv := ⟨a, dx, fs, rfl, h, q⟩
def rTruO (C : Addr) (sp : Sp) (E : XK) : V → Hp → (Bool → Hp → Prop) → Prop := fun x H Q => ∃ a dx fs, x = .ref a ∧ H a = some (.ins C dx fs) ∧ sp [.ref a] H (fun v H' => ∃ b, v = .bl b ∧ Q b H') E
theorem tru_own (D : SpD X.prog X.w X.K X.mg X.base CX k C "__bool__" sp) (hr : Room j X.A) (hx : Passes CX X E) (hj : k ≤ j := by decide) : TruR X (rTruO C sp E) := by
  intro pins s σ H x v Q I rx h
  obtain ⟨a, dx, fs, rfl, ea, q⟩ := h
  cases (show v = Value.ref a from rx)
  obtain ⟨f, fd, ps, hs, hf, hbd, F⟩ := D.ex
  obtain ⟨mA, O, _, _, _, _⟩ := ins_get I.hok ea
  obtain ⟨od, J, _⟩ := O.look
  unfold truthy
  refine wpAny_bind (m := callSpecial? (.ref a) (Str.ofString "__bool__")) (PySem.W.special_fn I.kIn J hs (beq_iff_eq.mp hf) (wpAny_mono (run_under (us := [.ref a]) (vs := [.ref a]) F (hr.mono hj) I.env0 hbd hx I (.cons rfl .nil) q) (fun r s' z => ?_) fun _ _ y => y))
  obtain ⟨z', H', I', rz, b, e, qz⟩ := z
  subst e
  obtain rfl : r = Value.bool b := rz
  exact wpAny_pure ⟨H', I', qz⟩
theorem r_truO {H : Hp} {a dx : Addr} {fs : List (Str × V)} {Q : Bool → Hp → Prop} (h : H a = some (.ins C dx fs)) (q : sp [.ref a] H (fun v H' => ∃ b, v = .bl b ∧ Q b H') E) : rTruO C sp E (.ref a) H Q := ⟨a, dx, fs, rfl, h, q⟩
/-- not o -/
def tNotO (C : Addr) (sp : Sp) (E : XK) (ta : TE) : TE := fun σ H Q => ta σ H fun x H1 => rTruO C sp E x H1 fun b H2 => Q (.bl (!b)) H2
theorem pe_notO {a : Expr} {ta : TE} {pos : Pos} (ha : PE X a ta) (D : SpD X.prog X.w X.K X.mg X.base CX k C "__bool__" sp) (hr : Room j X.A) (hx : Passes CX X E) (hj : k ≤ j := by decide) : PE X (.UnaryOp .Not a pos) (tNotO C sp E ta) := by
  refine ⟨fun pins s σ H Q I h => ?_⟩
  refine UnaryOp_ (thn (ha.run pins s σ H _ I h) fun v s1 ⟨x, H1, I1, r1, q1⟩ => ?_)
  exact not_of (thn (tru_own D hr hx hj pins s1 σ H1 x v (fun c H2 => Q (.bl (!c)) H2) I1 r1 q1) fun c s2 ⟨H2, I2, q2⟩ => ⟨.bl (!c), H2, I2, rfl, q2⟩)
theorem bool_own {prog : Program} {w : World} {A : Around} {Ex : Value → Shared → Prop} {s : Shared} {K : PySem.W.Frag} {x f C0 : Addr} {ox : Obj} {od : Option Obj} {Q : Value → Shared → Prop} (XK : K.In s.heap) (I : PySem.W.InstAt s.heap x ox C0 od) (hs : PySem.W.findIn K (.ref C0) "__bool__" = some (some (.ref f))) (hf : PySem.W.isFn K (.ref f) = true)
    (h : wpAny (model prog w) A.in1.in1 (call (.ref f) [.ref x]) (PySem.W.BoolBack fun b s' => Q (.bool b) s') Ex s) : wpAny (model prog w) A (call (.type "bool") [.ref x]) Q Ex s := by
  refine callType_codes (T := "bool") (Bi := Builtin.«object.__init__») (Q₁ := fun r s₁ => ∃ b, r = .bool b ∧ Q r s₁) PySem.F.called_bool (PySem.F.typeCall_bool_1 _) PySem.F.entry_object_init ?_ ?_
  · refine codeAny_of_tree ?_
    show wpAny _ A.in1.in1 (do checkBuiltinCall "bool.__new__" ⟨[.type "bool", .ref x], []⟩; again (.builtin "bool.__new__" ⟨[.type "bool", .ref x], []⟩)) _ _ s
    refine wpAny_bind (wpAny_of_eq (PySem.F.newCall_bool_1 _) (wpAny_pure ⟨PySem.plainId_quiet (by decide +kernel) _, codeAny_builtin PySem.F.entry_bool_new ?_⟩))
    rw [Around.under_plainId (by decide +kernel) _]
    unfold Builtin.«bool.__new__»
    refine wpAny_bind (wpAny_pure ?_)
    refine wpAny_bind (wpAny_of_eq PySem.F.conv_sub_bool ?_)
    refine wpAny_bind (wpAny_pure ?_)
    refine wpAny_bind (m := truthy (.ref x)) ?_
    unfold truthy
    refine wpAny_bind (m := callSpecial? (.ref x) (Str.ofString "__bool__")) (PySem.W.special_fn XK I hs (beq_iff_eq.mp hf) (wpAny_mono h (fun r s' hr => ?_) fun _ _ y => y))
    cases r <;> first | exact hr.elim | skip
    exact wpAny_pure (wpAny_pure ⟨_, rfl, hr⟩)
  · rintro obj s₁ ⟨b, rfl, hq⟩
    exact ⟨PySem.typeIs_bool _ _, PySem.F.args_object_init_2 _ _, object_init_meets PySem.F.called_bool.init.lookup PySem.F.called_bool.made (by decide) prog w A.in1 _ s₁ ⟨PySem.typeIs_bool _ _, rfl, hq⟩⟩
def rBoolO (C : Addr) (sp : Sp) (E : XK) : List V → Hp → VK → Prop := fun xs H Q => ∃ x, xs = [x] ∧ rTruO C sp E x H fun b H' => Q (.bl b) H'
theorem q_boolO (D : SpD X.prog X.w X.K X.mg X.base CX k C "__bool__" sp) (hr : Room j X.A) (hx : Passes CX X E) (hj : k + 2 ≤ j := by decide) : CallR X (.type "bool") (rBoolO C sp E) := by
  intro pins s σ H xs us Q I r h
  obtain ⟨x, rfl, a, dx, fs, rfl, ea, q⟩ := h
  obtain ⟨u, rfl, ru⟩ := r.one
  cases (show u = Value.ref a from ru)
  obtain ⟨f, fd, ps, hs, hf, hbd, F⟩ := D.ex
  obtain ⟨mA, O, _, _, _, _⟩ := ins_get I.hok ea
  obtain ⟨od, J, _⟩ := O.look
  have hr2 : Room k X.A.in1.in1 := (show Room (k + 1) X.A.in1 from Room.in1 (hr.mono hj)).in1
  refine bool_own I.kIn J hs hf ?_
  refine wpAny_mono (run_under (us := [.ref a]) (vs := [.ref a]) F hr2 I.env0.in1.in1 hbd hx I (.cons rfl .nil) q) (fun r s' z => ?_) fun _ _ y => y
  obtain ⟨z', H', I', rz, b, e, qz⟩ := z
  subst e
  obtain rfl : r = Value.bool b := rz
  exact ⟨.bl b, H', I', rfl, qz⟩
end
end Q
namespace Q
open PySem PySem.Spec PyProof.Rows L2
/-! ### == of dicts whose values are data -/
inductive DHits (K : PySem.W.Frag) (H : Hp) (kb : List (Key × V)) : List (Key × V) → Bool → Prop
  | nil : DHits K H kb [] true
  | miss {k : Key} {v : V} {r : List (Key × V)} (h : valV kb k = none) : DHits K H kb ((k, v) :: r) false
  | hit {k : Key} {v u : V} {r : List (Key × V)} {d e : PyData} {b : Bool} (h : valV kb k = some u) (hd : Dp K H v d) (he : Dp K H u e) (sd : SeqAt.shaped d = true) (se : SeqAt.shaped e = true) (dd : d.depth ≤ 60) (hr : DHits K H kb r b) :
      DHits K H kb ((k, v) :: r) (PyData.eqv d e && b)
def rEqK (K : PySem.W.Frag) : R2 := fun x y H Q => ∃ (a b : Addr) (ka kb : List (Key × V)) (r : Bool), x = .ref a ∧ y = .ref b ∧ Rd H a (.dK ka) ∧ Rd H b (.dK kb) ∧ (ka.length = kb.length → DHits K H kb ka r) ∧ Q (.bl (ka.length == kb.length && r)) H
section
variable {X : Cx} {pins : List (Addr × Obj)} {σ : L2.St} {H : Hp} {s : Shared}
theorem hits_of (I : Inv X pins σ H s) {kb : List (Key × V)} {vb : List (Key × Value)} (rb : KV kb vb) {A : Around} (hu : A.units + 60 < cLine) : ∀ {ka : List (Key × V)} {r : Bool}, DHits X.K H kb ka r → ∀ {va : List (Key × Value)}, KV ka va → PySem.W.KeqHitsP X.prog X.w A s vb va r := by
  intro ka r h
  induction h with
  | nil =>
    intro va rv
    unfold KV at rv
    cases rv
    exact .nil
  | @miss k v r h =>
    intro va rv
    unfold KV at rv
    cases rv with
    | @cons p q ps qs h1 t =>
      obtain ⟨key, v'⟩ := q
      have hk : k = key := h1.1
      subst hk
      refine .miss ?_
      have rr := rb.val k
      rw [h] at rr
      cases e : valueAt vb k with
      | none => rfl
      | some y =>
        rw [e] at rr
        exact rr.elim
  | @hit k v u r d e b h hd he sd se dd hr ih =>
    intro va rv
    unfold KV at rv
    cases rv with
    | @cons p q ps qs h1 t =>
      obtain ⟨key, v'⟩ := q
      have hk : k = key := h1.1
      subst hk
      have rr := rb.val k
      rw [h] at rr
      obtain ⟨y, hy, ry⟩ := rr.some_of
      obtain ⟨as, r1⟩ := Dp.reads I d v v' hd h1.2
      obtain ⟨bs, r2⟩ := Dp.reads I e u y he ry
      exact .hit hy (SeqAt.EqAt.eqP (SeqAt.eqAt_reads d e A s v' y as bs r1 r2 (SeqAt.canLay_of_shaped sd) (SeqAt.canLay_of_shaped se) (Nat.lt_of_le_of_lt (Nat.add_le_add_left (Nat.le_trans (Nat.min_le_left _ _) dd) _) hu))) (ih t)
theorem q_eqK (hu : X.A.units + 64 < cLine) : OpR X (compareOp .Eq) (rEqK X.K) := by
  intro pins s σ H x y v u Q I rx ry h
  obtain ⟨a, b, ka, kb, r, rfl, rfl, ha, hb, hh, q⟩ := h
  cases (show v = Value.ref a from rx)
  cases (show u = Value.ref b from ry)
  obtain ⟨_, sa, va, rva, da⟩ := dk_rd I.hok ha
  obtain ⟨_, sb, vb, rvb, db⟩ := dk_rd I.hok hb
  have e1 := rva.length
  have e2 := rvb.length
  show wpAny _ _ (richCompare .Eq (.ref a) (.ref b)) _ _ _
  refine PySem.W.rcP_dicts (r := r) sa sb da db (by omega) (fun e => hits_of I rvb (by show X.A.units + 1 + 60 < cLine; omega) (hh (by omega)) rva) _ _ ?_
  rw [← e1, ← e2]
  exact ⟨.bl _, H, I, rfl, q⟩
end
theorem r_eqK {K : PySem.W.Frag} {H : Hp} {a b : Addr} {ka kb : List (Key × V)} {r : Bool} {Q : VK} (ha : Rd H a (.dK ka)) (hb : Rd H b (.dK kb)) (hh : ka.length = kb.length → DHits K H kb ka r) (q : Q (.bl (ka.length == kb.length && r)) H) : rEqK K (.ref a) (.ref b) H Q := ⟨a, b, ka, kb, r, rfl, rfl, ha, hb, hh, q⟩
def rLenK : List V → Hp → VK → Prop := fun xs H Q => ∃ (a : Addr) (kvs : List (Key × V)), xs = [.ref a] ∧ Rd H a (.dK kvs) ∧ Q (.int (kvs.length : Nat)) H
theorem q_lenK {X : Cx} : CallR X (.builtin "len") rLenK := by
  intro pins s σ H xs us Q I r h
  obtain ⟨a, kvs, rfl, ha, q⟩ := h
  obtain ⟨u, rfl, ru⟩ := r.one
  cases ru
  exact d_len I ha fun t s' I' => ⟨.int kvs.length, H, I', ⟨t, rfl⟩, q⟩
theorem r_lenK {H : Hp} {a : Addr} {kvs : List (Key × V)} {Q : VK} (h : Rd H a (.dK kvs)) (q : Q (.int (kvs.length : Nat)) H) : rLenK [.ref a] H Q := ⟨a, kvs, rfl, h, q⟩
end Q
namespace Q
open PySem PySem.Spec PyProof.Rows L2
/-! ### lives: tools, how many, whether any, == -/
def spLenLv (C : Addr) : Sp := fun vs H Q _ => ∃ (G : Hp) (a : Addr) (bt : List (Str × List Int)), vs = [.ref a] ∧ Gh G H ∧ LivesAt C G a bt ∧ BtOk bt ∧ Ret G H (fun v _ => v = .int ((lifesOf bt).length : Int)) Q
def spBoolLv (C : Addr) : Sp := fun vs H Q _ => ∃ (G : Hp) (a : Addr) (bt : List (Str × List Int)), vs = [.ref a] ∧ Gh G H ∧ LivesAt C G a bt ∧ bt.length ≤ 1000 ∧ Ret G H (fun v _ => v = .bl (decide (0 < bt.length))) Q
/-- the same tools with the same beginnings -/
def eqLv (bt bt' : List (Str × List Int)) : Bool := bt.length == bt'.length && bt.all fun q => decide (nsOf bt' q.1 = some q.2)
theorem eqLv_same {bt : List (Str × List Int)} (nd : (bt.map (·.1)).Nodup) : eqLv bt bt = true := by
  unfold eqLv
  rw [beq_self_eq_true, Bool.true_and, List.all_eq_true]
  intro q hq
  exact decide_eq_true (nsOf_at nd hq)
theorem eqLv_len {bt bt' : List (Str × List Int)} (h : bt.length ≠ bt'.length) : eqLv bt bt' = false := by
  unfold eqLv
  rw [beq_eq_false_iff_ne.mpr h, Bool.false_and]
theorem eqLv_one {bt bt' : List (Str × List Int)} {q : Str × List Int} (hq : q ∈ bt) (h : nsOf bt' q.1 ≠ some q.2) : eqLv bt bt' = false := by
  unfold eqLv
  have : (bt.all fun q => decide (nsOf bt' q.1 = some q.2)) = false := by
    rw [List.all_eq_false]
    exact ⟨q, hq, by simpa using h⟩
  rw [this, Bool.and_false]
def EqToLv (K : PySem.W.Frag) (C : Addr) (G : Hp) (bt : List (Str × List Int)) (y : V) (r : Bool) : Prop := (∃ t, TyX K G y t ∧ PySem.W.kitOne K t (.ref C) = some false ∧ r = false) ∨ ∃ c bt', y = .ref c ∧ LivesAt C G c bt' ∧ (∀ q ∈ bt', q.2.length ≤ 1000) ∧ r = eqLv bt bt'
def spEqLv (K : PySem.W.Frag) (C : Addr) : Sp := fun vs H Q _ => ∃ (G : Hp) (a : Addr) (bt : List (Str × List Int)) (y : V) (r : Bool), vs = [.ref a, y] ∧ Gh G H ∧ LivesAt C G a bt ∧ (∀ q ∈ bt, q.2.length ≤ 1000) ∧ EqToLv K C G bt y r ∧ Ret G H (fun v _ => v = .bl r) Q
section
variable {K : PySem.W.Frag} {C a : Addr} {e : En} {G H : Hp} {M : List Addr} {bt : List (Str × List Int)} {y : V} {r : Bool} {Q : VK} {E : XK}
theorem u_lenLv (w : Wd e G H M) (h : LivesAt C G a bt) (ok : BtOk bt) (k : ∀ G' H', Wd e G' H' M → Same G G' → Same H H' → Q (.int ((lifesOf bt).length : Int)) H') : spLenLv C [.ref a] H Q E :=
  ⟨G, a, bt, rfl, w.gh, h, ok, ret_use w fun v G' H' w' s1 s2 e1 => by subst e1; exact k G' H' w' s1 s2⟩
theorem u_boolLv (w : Wd e G H M) (h : LivesAt C G a bt) (ok : bt.length ≤ 1000) (k : ∀ G' H', Wd e G' H' M → Same G G' → Same H H' → Q (.bl (decide (0 < bt.length))) H') : spBoolLv C [.ref a] H Q E :=
  ⟨G, a, bt, rfl, w.gh, h, ok, ret_use w fun v G' H' w' s1 s2 e1 => by subst e1; exact k G' H' w' s1 s2⟩
theorem u_eqLv (w : Wd e G H M) (h : LivesAt C G a bt) (hl : ∀ q ∈ bt, q.2.length ≤ 1000) (hy : EqToLv K C G bt y r) (k : ∀ G' H', Wd e G' H' M → Same G G' → Same H H' → Q (.bl r) H') : spEqLv K C [.ref a, y] H Q E :=
  ⟨G, a, bt, y, r, rfl, w.gh, h, hl, hy, ret_use w fun v G' H' w' s1 s2 e1 => by subst e1; exact k G' H' w' s1 s2⟩
end
theorem LvAt.names {G : Hp} {kvs : List (Key × V)} {bt : List (Str × List Int)} (h : LvAt G kvs bt) : kvs.map (fun kv => kV kv.1) = (bt.map (·.1)).map V.str := h.keys
theorem nums_shaped (ns : List Int) : SeqAt.shaped (.tuple (ns.map PyData.int)) = true := by
  have a : ∀ l : List Int, PyData.canLayAll0 (l.map PyData.int) = true := fun l => by
    induction l with
    | nil => rfl
    | cons x l ih => simp [PyData.canLayAll0, PyData.canLay0, ih]
  have d : ∀ l : List Int, PyData.depthAll (l.map PyData.int) ≤ 1 := fun l => by
    induction l with
    | nil => simp [PyData.depthAll]
    | cons x l ih => simp only [List.map_cons, PyData.depthAll, PyData.depth]; omega
  have b := d ns
  unfold SeqAt.shaped
  rw [Bool.and_eq_true]
  refine ⟨by simp [PyData.canLay0, a], decide_eq_true ?_⟩
  simp only [PyData.depth]
  omega
theorem nums_depth (ns : List Int) : (PyData.tuple (ns.map PyData.int)).depth ≤ 60 := by
  have d : ∀ l : List Int, PyData.depthAll (l.map PyData.int) ≤ 1 := fun l => by
    induction l with
    | nil => simp [PyData.depthAll]
    | cons x l ih => simp only [List.map_cons, PyData.depthAll, PyData.depth]; omega
  have b := d ns
  simp only [PyData.depth]
  omega
theorem eqv_nums : ∀ ms ns : List Int, PyData.eqv (.tuple (ms.map PyData.int)) (.tuple (ns.map PyData.int)) = decide (ms = ns)
  | [], [] => by simp [PyData.eqv, PyData.eqvAll]
  | [], n :: ns => by simp [PyData.eqv, PyData.eqvAll]
  | m :: ms, [] => by simp [PyData.eqv, PyData.eqvAll]
  | m :: ms, n :: ns => by
    have ih := eqv_nums ms ns
    simp only [PyData.eqv] at ih
    simp only [PyData.eqv, List.map_cons, PyData.eqvAll, ih]
    by_cases e : m = n
    · subst e
      simp
    · simp [e]
theorem lv_hits {K : PySem.W.Frag} {G H : Hp} (le : Same G H) {kvs' : List (Key × V)} {bt' : List (Str × List Int)} (h' : LvAt G kvs' bt') : ∀ {kvs : List (Key × V)} {bt : List (Str × List Int)}, LvAt G kvs bt → DHits K H kvs' kvs (bt.all fun q => decide (nsOf bt' q.1 = some q.2)) := by
  intro kvs bt h
  induction h with
  | nil => exact .nil
  | @cons s a ns kvs bt h1 _ ih =>
    rcases h'.val s with ⟨e1, e2⟩ | ⟨ra, ms, e1, e2, e3⟩
    · have e : ((s, ns) :: bt).all (fun q => decide (nsOf bt' q.1 = some q.2)) = false := by
        rw [List.all_cons, e1, decide_eq_false (by simp), Bool.false_and]
      rw [e]
      exact .miss e2
    · have e : ((s, ns) :: bt).all (fun q => decide (nsOf bt' q.1 = some q.2)) = (PyData.eqv (.tuple (ns.map PyData.int)) (.tuple (ms.map PyData.int)) && bt.all fun q => decide (nsOf bt' q.1 = some q.2)) := by
        rw [List.all_cons, e1, eqv_nums]
        congr 1
        exact decide_eq_decide.mpr ⟨fun z => (Option.some.inj z).symm, fun z => by rw [z]⟩
      rw [e]
      exact .hit e2 (.tup (SqT.of (le _ _ h1)) (dp_map V.int PyData.int (fun x => .int x) _)) (.tup (SqT.of (le _ _ e3)) (dp_map V.int PyData.int (fun x => .int x) _)) (nums_shaped _) (nums_shaped _) (nums_depth _) ih
end Q
namespace Q
open PySem PySem.Spec PyProof.Rows L2
/-! ### an own exception made as a value -/
section
variable {X : Cx} {CX : CXT} {x : Str} {C : Addr} {sp : Sp} {e : Expr} {es : List Expr} {ta : TA} {j : Nat} {p pos : Pos}
theorem exK_new {P : Program} {w : World} {H : Hp} {h : Heap} {a : Addr} {cls : Value} {d : Option Addr} {oe : Obj} {vs : Array Value} (e1 : h.get? a = some oe) (z : Zc cls d oe) (e2 : oe.data = .fields vs) : ObjOk P w H h a (ExK cls d a) :=
  ⟨⟨oe, vs, e1, z, e2⟩, ⟨oe, e1⟩, fun _ _ ⟨o, u, q, r⟩ k => ⟨o, u, k o q, r⟩⟩
def tMkV (t : L2.St → Hp → XK → Prop) : TE := fun σ H Q => t σ H fun cls d H' => ∀ a, H' a = none → Q (.ref a) (upd H' a (ExK cls d a))
theorem pe_ofMk {t : L2.St → Hp → XK → Prop} (h : PMk X e t) : PE X e (tMkV t) := by
  refine ⟨fun pins s σ H Q I hq => ?_⟩
  refine wpAny_mono (h pins s σ H _ I hq) (fun u s1 hu => ?_) fun _ _ z => z
  obtain ⟨a, oe, vs, sI, H', cls, d, rfl, J, k, hne, ha, hz, hd, h1, na, os, ag, r, q⟩ := hu
  have J2 := J.laidN (h' := s1.heap) (t' := s1.toks) (o := ExK cls d a) k hne na (exK_new ha hz hd)
  exact ⟨.ref a, upd H' a (ExK cls d a), ⟨J2.ok, os.trans J.os, ag, J2.base, J2.loc, J2.cell, J2.free, J2.freeC, J2.pin, J2.hok, J2.len⟩, rfl, q a na⟩
/-- C(..), C an own exception class with an own __init__ -/
def tExcV (C : Addr) (sp : Sp) (ta : TA) : TE := tMkV (tMkO C sp [] ta)
theorem pe_excV (D : ErD X.prog X.w X.K X.mg X.base x C sp) (hr : Room j X.A) (ha : PA X (e :: es) ta) (hj : 2 ≤ j := by decide) (hg : Gl X x := by rfl)
    (hdb : (x == ("__debug__" : Str)) = false := by decide) (he : starEach (e :: es) X.env = (false, eval e X.env) :: starEach es X.env := by rfl) (hpl : (backTo pos (starEach es X.env)).any (·.1) = false := by rfl) :
    PE X (.Call (.Name x p) (e :: es) [] pos) (tExcV C sp ta) := by
  obtain ⟨fI, fd, ps, h1, h2, h3, h4, h5, h6⟩ := D.ex
  exact pe_ofMk (pmk_oex (dvs := []) (ds := []) h1 h2 h3 h6 (hr.mono hj) h5 .nil pass0 hg h4 ha hdb he hpl)
end
section
variable {C : Addr} {f g : Str} {v u : V} {e : En} {G H : Hp} {M : List Addr} {Q : VK}
def ErrAt (G : Hp) (C a : Addr) (fs : List (Str × V)) : Prop := ∃ d, G a = some (ExK (.ref C) (some d) a) ∧ G d = some (.xd fs)
theorem ErrAt.same {G' : Hp} {a : Addr} {fs : List (Str × V)} (h : ErrAt G C a fs) (s : Same G G') : ErrAt G' C a fs := by
  obtain ⟨d, h1, h2⟩ := h
  exact ⟨d, s _ _ h1, s _ _ h2⟩
def MkVGo (C : Addr) (sp : Sp) (vs : List V) (H : Hp) (Q : VK) : Prop := MkOGo C sp vs H fun cls d H' => ∀ a, H' a = none → Q (.ref a) (upd H' a (ExK cls d a))
theorem r_excV {ta : TA} {σ : L2.St} {sp : Sp} (q : ta σ H fun vs H1 => MkVGo C sp vs H1 Q) : tExcV C sp ta σ H Q := q
theorem err_laid {a d : Addr} {G' H' : Hp} {fs : List (Str × V)} (w' : Wd e G' H' M) (s' : Same G G') (t' : Same H H') (hd : G' d = some (.xd fs)) (ha : H' a = none) (k : ∀ a G' H', Wd e G' H' M → Same G G' → Same H H' → ErrAt G' C a fs → Q (.ref a) H') : Q (.ref a) (upd H' a (ExK (.ref C) (some d) a)) := by
  have w2 := wd_lay (o := ExK (.ref C) (some d) a) w' ha exK_nt
  have s2 := same_upd (o := ExK (.ref C) (some d) a) (w'.g ha)
  exact k a _ _ w2 (s'.trans s2) (t'.trans (same_upd ha)) ⟨d, upd_same, s2 _ _ hd⟩
theorem u_excV1 (w : Wd e G H M) (k : ∀ a G' H', Wd e G' H' M → Same G G' → Same H H' → ErrAt G' C a [(f, v)] → Q (.ref a) H') : MkVGo C (spErr1 C f) [v] H Q :=
  u_raise1 w fun _ _ _ w' s' t' hd _ ha => err_laid w' s' t' hd ha k
theorem u_excV2 (w : Wd e G H M) (k : ∀ a G' H', Wd e G' H' M → Same G G' → Same H H' → ErrAt G' C a [(g, u), (f, v)] → Q (.ref a) H') : MkVGo C (spErr2 C f g) [v, u] H Q :=
  u_raise2 w fun _ _ _ w' s' t' hd _ ha => err_laid w' s' t' hd ha k
end
end Q
namespace Q
open PySem PySem.Spec PyProof.Rows L2 PySem.HandSPX
/-! ### an own exception made with keywords -/
section
variable {M : Model} {A : Around} {Ex : Value → Shared → Prop} {hp : Heap} {gs : Array GenState} {dr : Drawn} {tk : Nat} {os : OsState}
variable {nm q : Str} {C N : Addr} {bs bm bmB : List Value} {hdct : Bool} {sn : List Str} {sub : List Value} {ab : Bool} {col : Option Bool} {dd : Option Addr} {k0 k1 k2 k3 k5 : Option Value} {B newId initId : String}
theorem kwNew_check (fx : ExcBaseFacts B newId initId bmB) (tx : ∀ T : String, bm.contains (.type T) = bmB.contains (.type T)) {kw : List (Str × Value)} {Q : Unit → Shared → Prop}
    (cx : hp.get? C = some (excClassObj nm q C N bs bm hdct sn sub ab col dd k0 k1 k2 k3 k5 newId)) (z : Q () ⟨hp, gs, dr, tk, os⟩) : wpAny M A (checkBuiltinCall newId ⟨[.ref C], kw⟩) Q Ex ⟨hp, gs, dr, tk, os⟩ := by
  have has : (Value.ref C :: bm).contains (.type B) = true := by rw [List.contains_cons, tx, fx.hasB, Bool.or_true]
  have st := fx.noStar
  simp only [checkBuiltinCall, fx.newKind, fx.newSplit, fx.newRow]
  repeat (first | refine wpAny_loadPart_at cx ?_ | (refine wpAny_isSubtype_exc cx ?_; rw [has]) | refine wpAny_staticBase_exc cx ?_ | refine wpAny_madeBy_exc cx ?_ | simp only [bne_self_eq_false, Bool.false_eq_true, if_false] | wp_step)
  exact z
end
section
variable {prog : Program} {w : World} {A : Around} {Ex : Value → Shared → Prop} {R : Result → Shared → Prop} {hp : Heap} {gs : Array GenState} {dr : Drawn} {tk : Nat} {os : OsState} {kw : List (Str × Value)}
variable {nm q : Str} {C N : Addr} {bs bm bmB : List Value} {hdct : Bool} {sn : List Str} {sub : List Value} {ab : Bool} {col : Option Bool} {dd : Option Addr} {k0 k1 k2 k3 k5 : Option Value} {B newId initId : String}
abbrev kwLaid (hp : Heap) (C : Addr) : Heap := (hp.push (PySem.W.kdv_tup [])).push (excO C hp.objs.size)
theorem kwNew_run (fx : ExcBaseFacts B newId initId bmB) (tx : ∀ T : String, bm.contains (.type T) = bmB.contains (.type T))
    (cx : hp.get? C = some (excClassObj nm q C N bs bm hdct sn sub ab col dd k0 k1 k2 k3 k5 newId))
    (z : R (.ok (.ret (.ref (hp.objs.size + 1)))) ⟨kwLaid hp C, gs, dr, tk, os⟩) : codeAny (model prog w) A (.builtin newId ⟨[.ref C], kw⟩) R ⟨hp, gs, dr, tk, os⟩ := by
  have he := fx.ends
  have inB : (Value.ref C :: bm).contains (.type B) = true := by rw [List.contains_cons, tx, fx.hasB, Bool.or_true]
  have inA : (Value.ref C :: bm).contains (.type "AttributeError") = false := by rw [List.contains_cons, tx, fx.noAttr] <;> rfl
  have inN : (Value.ref C :: bm).contains (.type "NameError") = false := by rw [List.contains_cons, tx, fx.noName] <;> rfl
  refine codeAny_builtinAt fx.entry ?_
  unfold Builtin.«BaseException.__new__»
  refine PySem.wpAt_bind ?_
  show PySem.wpAt _ _ _ (PySem.stack >>= _) _ _ _
  refine PySem.wpAt_bind (PySem.wpAt_stack fun p below => PySem.wpAt_of_wpAny ?_)
  wp_walk
  refine PySem.wpAt_of_wpAny ?_
  rw [fx.owner]
  repeat (first | with_reducible refine wpAny_madeHere_exc fx.canon cx ?_ | with_reducible refine wpAny_loadPart_at cx ?_ | (with_reducible refine wpAny_isSubtype_exc cx ?_; first | rw [inB] | rw [inA] | rw [inN]) | wp_step)
  show R _ _
  rw [Heap.size_push]
  exact z
theorem kwType_run (fx : ExcBaseFacts B newId initId bmB) (tx : ∀ T : String, bm.contains (.type T) = bmB.contains (.type T)) {fI : Addr} {Q : Fin → Shared → Prop}
    (cx : hp.get? C = some (excClassObj nm q C N bs bm hdct sn sub ab col dd k0 k1 k2 k3 k5 newId))
    (hi : PySem.W.Looks (model prog w) hp (typeLookup (.ref C) "__init__") (some (.ref fI))) (hb : ∀ self, PySem.W.Looks (model prog w) hp (bindSpecial (.ref fI) self) (.ref fI, [self]))
    (z : codeAny (model prog w) A (.call (.ref fI) ⟨[.ref (hp.objs.size + 1)], kw⟩)
      (fun r s' => match r with | .ok (.ret v) => v = .none ∧ Q (.done (.ret (.ref (hp.objs.size + 1)))) s' | .ok _ => False | .error e => Ex e s')
      ⟨kwLaid hp C, gs, dr, tk, os⟩) :
    wpAny (model prog w) A (Builtin.«type.__call__» ⟨[.ref C], kw⟩) Q Ex ⟨hp, gs, dr, tk, os⟩ := by
  repeat (first | with_reducible refine wpAny_loadPart_at cx ?_ | with_reducible refine wpAny_madeBy_exc cx ?_ | wp_step)
  refine codeAny_call_builtin_code (Code.quiet_builtin _ fx.quiet) (kwNew_check fx tx cx ?_)
  refine kwNew_run fx tx cx ?_
  show wpAny _ _ _ _ _ _
  have kk : ∀ b o, hp.get? b = some o → (kwLaid hp C).get? b = some o := fun b o e => Heap.get?_push_of_some _ (Heap.get?_push_of_some _ e)
  have cx1 := kk _ _ cx
  have there : (kwLaid hp C).get? (hp.objs.size + 1) = some (excO C hp.objs.size) := by heap_get
  have self : (Value.ref C :: bm).contains (.ref C) = true := by simp
  have i1 := hi.keeps kk
  have b1 := (hb (.ref (hp.objs.size + 1))).keeps kk
  unfold isInstance
  repeat (first | with_reducible refine wpAny_loadPart_at there ?_ | (with_reducible refine wpAny_isSubtype_exc cx1 ?_; rw [self]) | wp_step)
  show wpAny _ _ (typeLookup (.ref C) _) _ _ _
  refine i1.at ?_
  refine wpAny_holding (wpAny_bind (b1.at ?_))
  refine wpAny_bind (wpAny_call (codeAny_mono z fun r s' y => ?_))
  rcases r with e | (v | _ | _ | _) <;> first | exact y | exact y.elim | skip
  obtain ⟨rfl, y⟩ := y
  first
    | exact wpAny_pure (wpAny_pure y)
    | (wp_walk; exact y)
theorem kwCheck {M : Model} {Q : Unit → Shared → Prop} (cx : hp.get? C = some (excClassObj nm q C N bs bm hdct sn sub ab col dd k0 k1 k2 k3 k5 newId)) (z : Q () ⟨hp, gs, dr, tk, os⟩) : wpAny M A (checkBuiltinCall "type.__call__" ⟨[.ref C], kw⟩) Q Ex ⟨hp, gs, dr, tk, os⟩ := by
  have f3 := tc_sub
  have ty : (⟨hp, gs, dr, tk, os⟩ : Shared).TypeIs (.ref C) "type" := ⟨_, cx, rfl⟩
  simp only [checkBuiltinCall, tc_kind, tc_split]
  repeat (any_goals (first | assumption | with_reducible refine wpAny_loadPart_at cx ?_ | with_reducible refine wpAny_onRaise ?_ | with_reducible refine wpAny_map ?_ | wp_step))
theorem kwCall_run (fx : ExcBaseFacts B newId initId bmB) (tx : ∀ T : String, bm.contains (.type T) = bmB.contains (.type T)) {fI : Addr}
    (cx : hp.get? C = some (excClassObj nm q C N bs bm hdct sn sub ab col dd k0 k1 k2 k3 k5 newId))
    (hi : PySem.W.Looks (model prog w) hp (typeLookup (.ref C) "__init__") (some (.ref fI))) (hb : ∀ self, PySem.W.Looks (model prog w) hp (bindSpecial (.ref fI) self) (.ref fI, [self]))
    (z : codeAny (model prog w) (A.under (.builtin "type.__call__" ⟨[.ref C], kw⟩)) (.call (.ref fI) ⟨[.ref (hp.objs.size + 1)], kw⟩) (PySem.W.InitBack (hp.objs.size + 1) R) ⟨kwLaid hp C, gs, dr, tk, os⟩) :
    codeAny (model prog w) A (.call (.ref C) ⟨[], kw⟩) R ⟨hp, gs, dr, tk, os⟩ := by
  have f1 := tc_lookup
  have f2 := tc_bind (.ref C)
  have ty : (⟨hp, gs, dr, tk, os⟩ : Shared).TypeIs (.ref C) "type" := ⟨_, cx, rfl⟩
  refine codeAny_of_tree ?_
  show wpAny _ _ (callAny (.ref C) _) _ _ _
  repeat (any_goals (first | assumption | with_reducible refine wpAny_loadPart_at cx ?_ | wp_step))
  refine ⟨rfl, ?_⟩
  refine codeAny_call_builtin_at (Code.quiet_builtin _ (by decide +kernel)) entry_typeCall (kwCheck cx (kwType_run fx tx cx hi hb ?_))
  refine codeAny_mono z fun r s' y => ?_
  rcases r with e | (v | _ | _ | _) <;> exact y
end
end Q
namespace Q
open PySem PySem.Spec PyProof.Rows L2
/-! ### C(x=..), C an own exception class with an own __init__ -/
def tMkOK (C : Addr) (m : Nat) (sp : Sp) (gV : List V → List V → List V) (tk : TA) : L2.St → Hp → XK → Prop := fun σ H Q => tk σ H fun zs H1 => zs.length = m ∧ ∀ a, H1 a = none → sp (gV [.ref a] zs) (upd H1 a (exo a C none))
  (fun v H2 => v = .non ∧ ∃ (d : Addr) (fs : List (Str × V)), H2 a = some (exo a C (some d)) ∧ H2 d = some (exd d fs) ∧ H1 d = none ∧ Q (.ref C) (some d) (upd (L2.del H2 a) d (.xd fs))) (fun _ _ _ => False)
section
variable {X : Cx} {CX : CXT} {x : Str} {C fI : Addr} {k j : Nat} {fd : FuncData} {ps ks : List Str} {sp : Sp} {g : List Value → List Value → List Value} {gV : List V → List V → List V} {kws : List Keyword} {tk : TA} {p pos : Pos}
theorem pmk_kw (T : OexC X.K C) (iC : PySem.W.findIn X.K (.ref C) "__init__" = some (some (.ref fI))) (tI : PySem.W.typeIn X.K (.ref fI) = some (.type "function")) (F1 : FnOk X.prog X.w X.K X.mg X.base CX k fI fd ps sp) (hr : Room (k + 1) X.A)
    (hb : KBn X.K fd ps 1 ks g gV) (hx : Passes CX X (fun _ _ _ => False)) (hg : Gl X x) (hm : X.mg x = some (.ref C)) (hkw : PK X kws tk)
    (hall : (backToKw pos (keywordEach kws X.env)).all (·.1.isSome) = true := by rfl) (hks : (backToKw pos (keywordEach kws X.env)).filterMap (·.1) = ks := by rfl) (hdb : (x == ("__debug__" : Str)) = false := by decide)
    (hpl : ((backTo pos (starEach [] X.env)).any (·.1) || (backToKw pos (keywordEach kws X.env)).any (·.1.isNone)) = false := by rfl) : PMk X (.Call (.Name x p) [] kws pos) (tMkOK C ks.length sp gV tk) := by
  intro pins s σ H Q I h
  obtain ⟨nm, q, N, bs, bm, sn, sub, ab, col, dd, k0, k1, k2, k3, k5, cx, hbm⟩ := T.cls
  refine wpAny_Call_Name_kw (ld_glob I hg hm ?_ hdb)
  refine PySem.W.callWith_KW0 (h₀ := X.base) I.ok.mod.kin T.kC hall (thn (hkw.run pos pins s σ H _ I h) fun ws s1 ⟨zs, H1, I1, rz, lz, q1⟩ => ⟨I1.kIn, ?_⟩) hpl
  rw [hks]
  show wpAny _ _ (call (.ref C) [] (ks.zip ws)) _ _ _
  obtain ⟨hp, gs, dr, tks, os⟩ := s1
  have up1 : hp.objs.size ≤ hp.objs.size + 1 := Nat.le_succ _
  have fr : H1 (hp.objs.size + 1) = none := I1.hok.fresh up1
  have hq := q1 (hp.objs.size + 1) fr
  have kk : ∀ b o, hp.get? b = some o → (kwLaid hp C).get? b = some o := fun b o e => Heap.get?_push_of_some _ (Heap.get?_push_of_some _ e)
  have hget : (kwLaid hp C).get? (hp.objs.size + 1) = some (PySem.HandSPX.excO C hp.objs.size) := by heap_get
  have I2 : Inv X pins σ (upd H1 (hp.objs.size + 1) (exo (hp.objs.size + 1) C none)) ⟨kwLaid hp C, gs, dr, tks, os⟩ :=
    I1.laid (t' := tks) (a := hp.objs.size + 1) (o := exo (hp.objs.size + 1) C none) (h' := kwLaid hp C) kk up1 (exo_ok hget)
  have r1 : Vals [V.ref (hp.objs.size + 1)] [Value.ref (hp.objs.size + 1)] := .cons rfl .nil
  have r2 := hb.rel r1 rz
  have e2 : ws.length = ks.length := rz.length.symm.trans lz
  refine wpAny_call (kwCall_run F.excBase_ValueError (fun Y => PySem.HandSPX.refsVE_contains Y bm hbm) (I1.kIn _ _ cx) (PySem.W.looks_findIn I1.kIn iC) (fun self => PySem.W.bind_fn I1.kIn self tI)
    (codeAny_mono (F1.run _ X.stack _ _ ⟨[Value.ref (hp.objs.size + 1)], ks.zip ws⟩ (g [Value.ref (hp.objs.size + 1)] ws) _ _ (fun _ _ _ => False) (hr.make C [] (ks.zip ws)) (I2.env0.make C [] (ks.zip ws)) (hb.to _ [Value.ref (hp.objs.size + 1)] ws I2.kIn rfl e2) r2 hq) fun r s' hq' => ?_))
  cases r with
  | error er => exact hx pins σ _ _ er s' I2 hq'
  | ok fl =>
    cases fl with
    | ret u =>
      obtain ⟨v, H2, os2, bare2, un2, hok2, rv, ev, d, fs, ea, ed, hd1, q2⟩ := hq'
      subst ev
      obtain ⟨h2, g2, d2, t2, os'⟩ := s'
      exact ⟨rv, mk_end (raises_own T.exC T.tyC) I1 up1 kk un2 hok2 os2 bare2 ea ed hd1 q2⟩
    | next => exact hq'.elim
    | brk => exact hq'.elim
    | cont => exact hq'.elim
def tExcVK (C : Addr) (m : Nat) (sp : Sp) (gV : List V → List V → List V) (tk : TA) : TE := tMkV (tMkOK C m sp gV tk)
/-- what is known of an own exception class made with keywords -/
structure ErK (P : Program) (w : World) (K : PySem.W.Frag) (mg : Str → Option Value) (base : Heap) (x : Str) (C : Addr) (ks : List Str) (gV : List V → List V → List V) (sp : Sp) : Prop where
  ex : ∃ (fI : Addr) (fd : FuncData) (ps : List Str) (g : List Value → List Value → List Value), OexC K C ∧ PySem.W.findIn K (.ref C) "__init__" = some (some (.ref fI)) ∧ PySem.W.typeIn K (.ref fI) = some (.type "function") ∧ mg x = some (.ref C) ∧ KBn K fd ps 1 ks g gV ∧ FnOk P w K mg base CX0 1 fI fd ps sp
theorem pe_excVK (D : ErK X.prog X.w X.K X.mg X.base x C ks gV sp) (hr : Room j X.A) (hkw : PK X kws tk) (hj : 2 ≤ j := by decide) (hg : Gl X x := by rfl)
    (hall : (backToKw pos (keywordEach kws X.env)).all (·.1.isSome) = true := by rfl) (hks : (backToKw pos (keywordEach kws X.env)).filterMap (·.1) = ks := by rfl) (hdb : (x == ("__debug__" : Str)) = false := by decide)
    (hpl : ((backTo pos (starEach [] X.env)).any (·.1) || (backToKw pos (keywordEach kws X.env)).any (·.1.isNone)) = false := by rfl) : PE X (.Call (.Name x p) [] kws pos) (tExcVK C ks.length sp gV tk) := by
  obtain ⟨fI, fd, ps, g, h1, h2, h3, h4, h5, h6⟩ := D.ex
  exact pe_ofMk (pmk_kw h1 h2 h3 h6 (hr.mono hj) h5 pass0 hg h4 hkw hall hks hdb hpl)
end
end Q
namespace Q
open PySem PySem.Spec PyProof.Rows L2 PySem.HandSPX
/-! ### C(), C an own exception class without an own __init__; a kept exception asked -/
section
variable {X : Cx} {C : Addr} {x : Str} {p pos : Pos} {bmB : List Value} {B newId initId : String}
def tExc0 (C : Addr) : TE := fun _ H Q => ∀ a, H a = none → Q (.ref a) (upd H a (ExK (.ref C) none a))
theorem pe_exc0 (F : ExcBaseFacts B newId initId bmB) (q : PySem.W.excIn X.K C bmB newId = true) (gC : X.mg x = some (.ref C)) (kC : PySem.W.keepIn X.K (.ref C) = true) (hg : Gl X x) (hdb : (x == ("__debug__" : Str)) = false := by decide) :
    PE X (.Call (.Name x p) [] [] pos) (tExc0 C) := by
  refine ⟨fun pins s σ H Q I h => ?_⟩
  refine wpAny_Call_Name_kw (ld_glob I hg gC ?_ hdb)
  refine PySem.W.callWith_K0 I.kIn kC ?_
  show wpAny _ _ (call (.ref C) []) _ _ _
  obtain ⟨bm, N, nm, qn, bs, hdct, sn, sub, ab, col, dd, k0, k1, k2, k3, k5, mN, hC, hN, hni, T⟩ := exc_obj I.kIn q
  refine wpAny_call_exc_subT F T hC hN hni (fun h' a hm => ?_) (by show 0 ≤ sizeLine; exact Nat.zero_le _)
  have hn : H a = none := I.hok.gone hm.new
  obtain ⟨t, ht, _, _⟩ := hm.there
  exact ⟨.ref a, upd H a (ExK (.ref C) none a), I.laidN hm.keeps hm.new hn (exK_new ht ⟨rfl, rfl⟩ rfl), rfl, h a hn⟩
end
/-- what is kept: the fields, or no dict yet -/
def KeptAt (G : Hp) (C a : Addr) (fs : List (Str × V)) : Prop := (fs = [] ∧ G a = some (ExK (.ref C) none a)) ∨ ErrAt G C a fs
theorem KeptAt.same {G G' : Hp} {C a : Addr} {fs : List (Str × V)} (h : KeptAt G C a fs) (s : Same G G') : KeptAt G' C a fs := by
  rcases h with ⟨h1, h2⟩ | h
  · exact .inl ⟨h1, s _ _ h2⟩
  · exact .inr (h.same s)
section
variable {K : PySem.W.Frag} {C D a : Addr} {G H : Hp} {fs : List (Str × V)} {f : Str} {v : V} {b : Bool} {Qv : VK}
theorem r_isKept (le : Same G H) (h : KeptAt G C a fs) (T : ExcC K C) (e : PySem.W.kitOne K (.ref C) (.ref D) = some b) (q : Qv (.bl b) H) : rIsU K [.ref a, .ref D] H Qv := by
  rcases h with ⟨_, h⟩ | ⟨d, h1, h2⟩
  · exact .inr ⟨a, C, none, .ref D, .ref D, b, rfl, le _ _ h, (fun d0 z => by cases z), (fun _ z => z), T, e, q⟩
  · exact r_isuK (le _ _ h1) (le _ _ h2) T e q
theorem r_isKeptT {n : String} (le : Same G H) (h : KeptAt G C a fs) (T : ExcC K C) (e : PySem.W.kitOne K (.ref C) (.type n) = some b) (q : Qv (.bl b) H) : rIsU K [.ref a, .ty n] H Qv := by
  rcases h with ⟨_, h⟩ | ⟨d, h1, h2⟩
  · exact .inr ⟨a, C, none, .ty n, .type n, b, rfl, le _ _ h, (fun d0 z => by cases z), (fun _ z => z), T, e, q⟩
  · exact r_isuT (le _ _ h1) (le _ _ h2) T e q
theorem r_fldKept (le : Same G H) (h : KeptAt G C a fs) (T : XfC K C) (n : PySem.W.findIn K (.ref C) f = some none) (l : fs.lookup f = some v) (q : Qv v H) : FldX K f (.ref a) H Qv := by
  rcases h with ⟨e, _⟩ | ⟨d, h1, h2⟩
  · rw [e] at l
    cases l
  · exact r_fldX (le _ _ h1) (le _ _ h2) T n l q
end
end Q
namespace Q
open PySem PySem.Spec PyProof.Rows L2
/-! ### all errors of the package: their classes, what each keeps -/
def errNames : List Str := ["BadName", "BadMoment", "BadSaying", "BadPoint", "BadRow", "BadTurn", "BadTurns", "NoTool", "NoRow", "NoDeed", "NoRecord", "NoLot", "NoLife", "NoEvidence", "TooMany", "Later", "Clash", "Unlike", "Contradicted", "BadChain", "BadEntry", "BadText", "NoLine"]
/-- field of a sign -/
def signField : List (Str × Str) := [("a", "name"), ("o", "moment"), ("v", "value"), ("t", "at"), ("l", "tool"), ("u", "number"), ("w", "word"), ("h", "what"), ("m", "most"), ("i", "line")]
def errSigns : List Str := ["a", "o", "v", "v", "t", "t", "t", "l", "u", "u", "a", "a", "v", "w", "hm", "o", "a", "l", "u", "t", "t", "iw", ""]
def errKeeps (i : Nat) (a b : V) : List (Str × V) := match i with
  | 0 => [("name", a)] | 1 => [("moment", a)] | 2 => [("value", a)] | 3 => [("value", a)] | 4 => [("at", a)] | 5 => [("at", a)] | 6 => [("at", a)] | 7 => [("tool", a)] | 8 => [("number", a)] | 9 => [("number", a)]
  | 10 => [("name", a)] | 11 => [("name", a)] | 12 => [("value", a)] | 13 => [("word", a)] | 14 => [("most", b), ("what", a)] | 15 => [("moment", a)] | 16 => [("name", a)] | 17 => [("tool", a)] | 18 => [("number", a)] | 19 => [("at", a)] | 20 => [("at", a)]
  | 21 => [("word", b), ("line", a)] | _ => []
def clsAt (K : PySem.W.Frag) (i : Nat) : Addr := He.ga K (errNames.getD i "NoLine")
def AllErrs (K : PySem.W.Frag) (G : Hp) (es : List Addr) (a b : V) : Prop := es.length = 23 ∧ ∀ i e, es[i]? = some e → KeptAt G (clsAt K i) e (errKeeps i a b)
theorem AllErrs.same {K : PySem.W.Frag} {G G' : Hp} {es : List Addr} {a b : V} (h : AllErrs K G es a b) (s : Same G G') : AllErrs K G' es a b := ⟨h.1, fun i e he => (h.2 i e he).same s⟩
def spErrs (K : PySem.W.Frag) : Sp := fun vs H Q _ => ∃ (G : Hp) (a b : V), vs = [a, b] ∧ Gh G H ∧ Ret G H (fun v G' => ∃ l es, v = .ref l ∧ G' l = some (.lst (es.map V.ref)) ∧ AllErrs K G' es a b) Q
def spFields : Sp := fun vs H Q _ => ∃ (G : Hp), vs = [] ∧ Gh G H ∧ Ret G H (fun v G' => ∃ l, v = .ref l ∧ G' l = some (.lst (errSigns.map V.str))) Q
def spKept (K : PySem.W.Frag) : Sp := fun vs H Q _ => ∃ (G : Hp) (C a : Addr) (fs : List (Str × V)) (z f : Str) (v : V), vs = [.ref a, .str z] ∧ Gh G H ∧ KeptAt G C a fs ∧ (z, f) ∈ signField ∧ fs.lookup f = some v ∧ XfC K C ∧ PySem.W.findIn K (.ref C) f = some none ∧ Ret G H (fun v' _ => v' = v) Q
def spMarks (K : PySem.W.Frag) : Sp := fun vs H Q _ => ∃ (G : Hp) (C a : Addr) (fs : List (Str × V)) (bs : Nat → Bool), vs = [.ref a] ∧ Gh G H ∧ KeptAt G C a fs ∧ ExcC K C ∧ (∀ j, j < 23 → PySem.W.kitOne K (.ref C) (.ref (clsAt K j)) = some (bs j)) ∧
  Ret G H (fun v G' => ∃ l, v = .ref l ∧ G' l = some (.lst ((List.range 23).map fun j => V.bl (bs j)))) Q
section
variable {K : PySem.W.Frag} {C x : Addr} {e : En} {G H : Hp} {M : List Addr} {Q : VK} {E : XK} {a b : V}
theorem u_errs (w : Wd e G H M) (k : ∀ l es G' H', Wd e G' H' M → Same G G' → Same H H' → G' l = some (.lst (es.map V.ref)) → AllErrs K G' es a b → Q (.ref l) H') : spErrs K [a, b] H Q E :=
  ⟨G, a, b, rfl, w.gh, ret_use w fun v G' H' w' s1 s2 ⟨l, es, e1, h1, h2⟩ => by subst e1; exact k l es G' H' w' s1 s2 h1 h2⟩
theorem u_fields (w : Wd e G H M) (k : ∀ l G' H', Wd e G' H' M → Same G G' → Same H H' → G' l = some (.lst (errSigns.map V.str)) → Q (.ref l) H') : spFields [] H Q E :=
  ⟨G, rfl, w.gh, ret_use w fun v G' H' w' s1 s2 ⟨l, e1, h1⟩ => by subst e1; exact k l G' H' w' s1 s2 h1⟩
theorem u_kept {fs : List (Str × V)} {z f : Str} {v : V} (w : Wd e G H M) (h : KeptAt G C x fs) (m : (z, f) ∈ signField) (l : fs.lookup f = some v) (T : XfC K C) (n : PySem.W.findIn K (.ref C) f = some none) (k : ∀ G' H', Wd e G' H' M → Same G G' → Same H H' → Q v H') : spKept K [.ref x, .str z] H Q E :=
  ⟨G, C, x, fs, z, f, v, rfl, w.gh, h, m, l, T, n, ret_use w fun v' G' H' w' s1 s2 e1 => by subst e1; exact k G' H' w' s1 s2⟩
theorem u_marks {fs : List (Str × V)} {bs : Nat → Bool} (w : Wd e G H M) (h : KeptAt G C x fs) (T : ExcC K C) (hb : ∀ j, j < 23 → PySem.W.kitOne K (.ref C) (.ref (clsAt K j)) = some (bs j)) (k : ∀ l G' H', Wd e G' H' M → Same G G' → Same H H' → G' l = some (.lst ((List.range 23).map fun j => V.bl (bs j))) → Q (.ref l) H') : spMarks K [.ref x] H Q E :=
  ⟨G, C, x, fs, bs, rfl, w.gh, h, T, hb, ret_use w fun v G' H' w' s1 s2 ⟨l, e1, h1⟩ => by subst e1; exact k l G' H' w' s1 s2 h1⟩
end
end Q
namespace Q
open PySem PySem.Spec PyProof.Rows L2
section
variable {C : Addr} {f g : Str} {v u : V} {e : En} {G H : Hp} {M : List Addr} {Q : VK}
def MkVKGo (C : Addr) (m : Nat) (sp : Sp) (gV : List V → List V → List V) (zs : List V) (H : Hp) (Q : VK) : Prop := tMkOK C m sp gV (fun _ H' q => q zs H') [] H fun cls d H' => ∀ a, H' a = none → Q (.ref a) (upd H' a (ExK cls d a))
theorem r_excVK {m : Nat} {gV : List V → List V → List V} {tk : TA} {σ : L2.St} {sp : Sp} (q : tk σ H fun zs H1 => MkVKGo C m sp gV zs H1 Q) : tExcVK C m sp gV tk σ H Q := q
theorem u_excV1K (w : Wd e G H M) (k : ∀ a G' H', Wd e G' H' M → Same G G' → Same H H' → ErrAt G' C a [(f, v)] → Q (.ref a) H') : MkVKGo C [f].length (spErr1 C f) (fun vs zs => vs ++ zs) [v] H Q := ⟨rfl, (u_excV1 w k).2⟩
theorem u_excV2K (w : Wd e G H M) (k : ∀ a G' H', Wd e G' H' M → Same G G' → Same H H' → ErrAt G' C a [(g, u), (f, v)] → Q (.ref a) H') : MkVKGo C [g, f].length (spErr2 C f g) (fun vs zs => vs ++ zs.reverse) [u, v] H Q := ⟨rfl, (u_excV2 w k).2⟩
theorem u_exc0 {σ : L2.St} (w : Wd e G H M) (k : ∀ a G' H', Wd e G' H' M → Same G G' → Same H H' → KeptAt G' C a [] → Q (.ref a) H') : tExc0 C σ H Q := fun a ha =>
  k a _ _ (wd_lay (o := ExK (.ref C) none a) w ha exK_nt) (same_upd (w.g ha)) (same_upd ha) (.inl ⟨rfl, upd_same⟩)
end
end Q
namespace Q
open PySem PySem.Spec PyProof.Rows L2
/-! ### values of all kinds drawn; which sign tells which field -/
theorem r_disp1 {z : Str} {v : V} {σ : L2.St} {H : Hp} {Qv : VK} (q : Lay 1 (.dK [(.inr z, v)]) Qv H) : tDisp [(tC (.str z), tC v)] σ H Qv := fun p hp => by
  refine ⟨upd_same, [(.inr z, v)], rfl, (by show 1 ≤ 15; decide), ?_⟩
  have e : upd (upd H p (.dK [])) p (.dK (mergeK [] [(.inr z, v)])) = upd H p (.dK [(.inr z, v)]) := by
    funext b
    by_cases h : b = p
    · rw [h, upd_same, upd_same]
      rfl
    · rw [upd_ne h, upd_ne h, upd_ne h]
  rw [e]
  exact q.2 p hp
theorem sh_big {i : Int} (h0 : 0 ≤ i) (h1 : i < 10 ^ 59) : (PyData.int i).showable = true ∧ (PyData.int i).shown.length ≤ 1000 := by
  have l : i.natAbs.log2 < 1920 := by
    by_cases z : i.natAbs = 0
    · rw [z]; decide
    · refine (Nat.log2_lt z).mpr (Nat.lt_of_lt_of_le (m := 10 ^ 59) (by omega) ?_)
      exact Nat.le_trans (m := 2 ^ 240) (by decide +kernel) (Nat.pow_le_pow_right (by decide) (by decide))
  refine ⟨by simp [PyData.showable, l], ?_⟩
  have e : (PyData.int i).shown = Str.ofString (toString i) := by simp [PyData.shown]
  rw [e]
  exact Nat.le_trans (toString_length_le (k := 59) h0 (by decide) h1) (by decide)
def spVal (K : PySem.W.Frag) : Sp := fun vs H Q _ => ∃ (G : Hp) (p c : Addr) (n : Nat), vs = [.ref p] ∧ Gh G H ∧ G p = none ∧ Cells c G ∧ PenAt p c n H ∧ n ≤ 1048000 ∧ RetP p c (n + 3) G H (fun v G' => ∃ d, Odd K G' v d) Q
theorem u_val {K : PySem.W.Frag} {e : En} {G H : Hp} {M : List Addr} {p c : Addr} {n : Nat} {Q : VK} {E : XK} (w : Wd e G H M) (hm : p ∈ M) (hc : Cells c G) (P : PenAt p c n H) (hn : n ≤ 1048000)
    (k : ∀ (v : V) (d : PyData) (G' H' : Hp), Wd e G' H' M → Same G G' → But p H H' → PenAt p c (n + 3) H' → Odd K G' v d → Q v H') : spVal K [.ref p] H Q E :=
  ⟨G, p, c, n, rfl, w.gh, (w.mu p hm).1, hc, P, hn, retP_use w hm fun v G' H' w' s b P' ⟨d, e2⟩ => k v d G' H' w' s b P' e2⟩
theorem odd_dic1 {K : PySem.W.Frag} {G : Hp} {a : Addr} {z : Str} {i : Int} (h : G a = some (.dK [(.inr z, .int i)])) (s1 : (PyData.dict [(.str z, .int i)]).showable = true) (s2 : (PyData.dict [(.str z, .int i)]).depth ≤ 10) (s3 : (PyData.dict [(.str z, .int i)]).shown.length ≤ 1000) : Odd K G (.ref a) (.dict [(.str z, .int i)]) :=
  ⟨.dic (.inl h) (.cons (.str z) .nil) (.cons (.int i) .nil), ⟨_, kd_dK h⟩, s1, s2, s3, fun s e => by cases e⟩
theorem xs_ok : ∀ m : Nat, m < 99 → (PyData.str (Txt.mul (Str.ofString "x") (m : Int))).shown.length ≤ 1000 ∧ (Txt.mul (Str.ofString "x") (m : Int)).length ≤ 1000 := fun m hm => by
  have e : Str.ofString "x" = ⟨#[120]⟩ := by decide +kernel
  have l := mul_one_list 120 (m : Int)
  rw [e]
  have n : (Txt.mul ⟨#[120]⟩ (m : Int)).length = m := by rw [len_list, l, List.length_replicate]; simp
  have b := StrLaws.reprText_len (Txt.mul ⟨#[120]⟩ (m : Int)) fun c hc => by
    rw [l] at hc
    rw [(List.mem_replicate.mp hc).2]
    decide
  have s : (PyData.str (Txt.mul ⟨#[120]⟩ (m : Int))).shown = reprText (Txt.mul ⟨#[120]⟩ (m : Int)) := by simp [PyData.shown]
  rw [s]
  omega
/-- what all errors' classes answer -/
structure AllCls (K : PySem.W.Frag) (Ct : Addr) : Prop where
  x : ∀ i, i < 23 → XfC K (clsAt K i)
  e : ∀ i, i < 23 → ExcC K (clsAt K i)
  kit : ∀ i, i < 23 → ∀ j, j < 23 → PySem.W.kitOne K (.ref (clsAt K i)) (.ref (clsAt K j)) = some (decide (j = i))
  top : ∀ i, i < 23 → PySem.W.kitOne K (.ref (clsAt K i)) (.ref Ct) = some true
  ve : ∀ i, i < 23 → PySem.W.kitOne K (.ref (clsAt K i)) (.type "ValueError") = some true
  no : ∀ i, i < 23 → ∀ p ∈ errKeeps i .non .non, PySem.W.findIn K (.ref (clsAt K i)) p.1 = some none
theorem keeps_names (i : Nat) (a b : V) : (errKeeps i a b).map (·.1) = (errKeeps i .non .non).map (·.1) := by
  unfold errKeeps
  split <;> rfl
/-- the sign at a place tells a field that keeps what was passed there -/
def signAt (i q : Nat) : Str := ⟨#[((errSigns.getD i "").cps.toList.getD q 0)]⟩
def fieldAt (i q : Nat) : Str := ((signField.find? fun p => decide (p.1 = signAt i q)).map (·.2)).getD ""
theorem sign_in : ∀ i, i < 23 → ∀ q, q < (errSigns.getD i "").cps.toList.length → (signAt i q, fieldAt i q) ∈ signField ∧ fieldAt i q ∈ (errKeeps i .non .non).map (·.1) := by decide +kernel
theorem sign_few : ∀ i, i < 23 → (errSigns.getD i "").cps.toList.length ≤ 2 ∧ (errSigns.getD i "").length ≤ 2 := by decide +kernel
theorem keeps_map (i : Nat) (a b : V) : errKeeps i a b = (errKeeps i (.int 0) (.int 1)).map fun p => (p.1, if p.2 = .int 0 then a else b) := by
  unfold errKeeps
  split <;> rfl
theorem lookup_mapV {l : List (Str × V)} {g : V → V} {k : Str} {v : V} (h : l.lookup k = some v) : (l.map fun p => (p.1, g p.2)).lookup k = some (g v) := by
  induction l with
  | nil => cases h
  | cons x l ih =>
    obtain ⟨x1, x2⟩ := x
    simp only [List.map_cons, List.lookup_cons] at h ⊢
    cases hk : k == x1 with
    | true => rw [hk] at h; simp only [Option.some.injEq] at h; rw [h]
    | false => rw [hk] at h; exact ih h
theorem sign_keeps (a b : V) (i : Nat) (hi : i < 23) (q : Nat) (hq : q < (errSigns.getD i "").cps.toList.length) : (errKeeps i a b).lookup (fieldAt i q) = some (if q = 0 then a else b) := by
  have f : ∀ i, i < 23 → ∀ q, q < (errSigns.getD i "").cps.toList.length → (errKeeps i (.int 0) (.int 1)).lookup (fieldAt i q) = some (if q = 0 then .int 0 else .int 1) := by decide +kernel
  rw [keeps_map i a b, lookup_mapV (g := fun v => if v = .int 0 then a else b) (f i hi q hq)]
  by_cases z : q = 0
  · rw [if_pos z, if_pos z, if_pos rfl]
  · rw [if_neg z, if_neg z, if_neg (by decide)]
end Q
namespace Q
open PySem PySem.Spec PyProof.Rows L2
/-! ### Bools: what all errors' classes answer -/
def clsB (K : PySem.W.Frag) (D : Addr) : Bool := xfB K D && (He.eqO (PySem.W.findIn K (.ref D) "__class__") (some (some (.builtin "object.__class__"))) &&
  decide ((PySem.W.specialIn K (.builtin "object.__class__") "__get__" = some (some (.builtin "getset_descriptor.__get__")) ∧ PySem.W.takesIn K (.builtin "object.__class__") = some true) ∧ PySem.W.mroIn K D (.type "object") = some true ∧ PySem.W.kitOne K (.ref D) (.type "ValueError") = some true))
theorem clsB_ok {K : PySem.W.Frag} {D : Addr} (h : clsB K D = true) : XfC K D ∧ ExcC K D ∧ PySem.W.kitOne K (.ref D) (.type "ValueError") = some true := by
  obtain ⟨h0, h⟩ := He.ba h
  obtain ⟨h1, h3⟩ := He.ba h
  obtain ⟨⟨a, b⟩, c, d⟩ := of_decide_eq_true h3
  have x := xfB_ok h0
  exact ⟨x, ⟨x.ga, x.gg, x.exC, x.hdC, He.eqO_ok h1, a, b, c⟩, d⟩
def keepB (K : PySem.W.Frag) (D : Addr) (i : Nat) : Bool := (errKeeps i .non .non).all fun p => He.eqO (PySem.W.findIn K (.ref D) p.1) (some none)
def rowB (K : PySem.W.Frag) (Ct : Addr) (i : Nat) : Bool := clsB K (clsAt K i) && (decide (PySem.W.kitOne K (.ref (clsAt K i)) (.ref Ct) = some true) && (keepB K (clsAt K i) i &&
  (List.range 23).all fun j => decide (PySem.W.kitOne K (.ref (clsAt K i)) (.ref (clsAt K j)) = some (decide (j = i)))))
def allB (K : PySem.W.Frag) (Ct : Addr) : Bool := (List.range 23).all fun i => rowB K Ct i
theorem allB_ok {K : PySem.W.Frag} {Ct : Addr} (h : allB K Ct = true) : AllCls K Ct := by
  have r : ∀ i, i < 23 → rowB K Ct i = true := fun i hi => List.all_eq_true.mp h i (List.mem_range.mpr hi)
  refine ⟨fun i hi => ?_, fun i hi => ?_, fun i hi j hj => ?_, fun i hi => ?_, fun i hi => ?_, fun i hi p hp => ?_⟩
  all_goals
    obtain ⟨c, e⟩ := He.ba (r i hi)
    obtain ⟨t, e⟩ := He.ba e
    obtain ⟨k, e⟩ := He.ba e
    obtain ⟨q1, q2, q3⟩ := clsB_ok c
  · exact q1
  · exact q2
  · exact of_decide_eq_true (List.all_eq_true.mp e j (List.mem_range.mpr hj))
  · exact of_decide_eq_true t
  · exact q3
  · exact He.eqO_ok (List.all_eq_true.mp k p hp)
end Q
namespace Q
open PySem PySem.Spec PyProof.Rows L2
/-! ### what begins: a dict of lists, one more -/
def putB (bt : List (Str × List Int)) (s : Str) (ns : List Int) : List (Str × List Int) := if (bt.any fun r => decide (r.1 = s)) = true then bt.map (fun r => if r.1 = s then (r.1, ns) else r) else bt ++ [(s, ns)]
section
variable {G : Hp} {kvs : List (Key × V)} {bt : List (Str × List Int)} {s : Str} {ns : List Int}
theorem LsAt.any (h : LsAt G kvs bt) (s : Str) : (kvs.any fun kv => decide (kv.1 = (.inr s : Key))) = bt.any fun r => decide (r.1 = s) := by
  induction h with
  | nil => rfl
  | @cons t a ns kvs bt _ _ ih =>
    rw [List.any_cons, List.any_cons, ih]
    have e : decide ((Sum.inr t : Key) = .inr s) = decide (t = s) := decide_eq_decide.mpr ⟨fun z => Sum.inr.inj z, fun z => by rw [z]⟩
    rw [e]
theorem LsAt.put (h : LsAt G kvs bt) {a : Addr} (ha : G a = some (.lst (ns.map V.int))) : LsAt G (putK kvs (.inr s) (.ref a)) (putB bt s ns) := by
  unfold putK putB
  rw [h.any s]
  split
  · rename_i c
    clear c
    induction h with
    | nil => exact .nil
    | @cons t b ms kvs bt h1 _ ih =>
      rw [List.map_cons, List.map_cons]
      by_cases e : t = s
      · subst e
        rw [if_pos rfl, if_pos rfl]
        exact .cons ha ih
      · rw [if_neg (show ¬ (Sum.inr t : Key) = .inr s from fun z => e (Sum.inr.inj z)), if_neg e]
        exact .cons h1 ih
  · rename_i c
    clear c
    induction h with
    | nil => exact .cons ha .nil
    | cons h1 _ ih => exact .cons h1 ih
theorem putB_mem {q : Str × List Int} (h : q ∈ putB bt s ns) : q ∈ bt ∨ q = (s, ns) := by
  unfold putB at h
  split at h
  · obtain ⟨r, h1, h2⟩ := List.mem_map.mp h
    by_cases e : r.1 = s
    · rw [if_pos e] at h2
      exact .inr (by rw [← h2, e])
    · rw [if_neg e] at h2
      exact .inl (by rw [← h2]; exact h1)
  · rcases List.mem_append.mp h with h1 | h1
    · exact .inl h1
    · exact .inr (List.mem_singleton.mp h1)
theorem putB_len : (putB bt s ns).length ≤ bt.length + 1 := by
  unfold putB
  split
  · rw [List.length_map]; omega
  · rw [List.length_append]; exact Nat.le_refl _
theorem putB_nd (h : (bt.map (·.1)).Nodup) : ((putB bt s ns).map (·.1)).Nodup := by
  unfold putB
  split
  · have e : (bt.map fun r => if r.1 = s then (r.1, ns) else r).map (·.1) = bt.map (·.1) := by
      rw [List.map_map]
      refine List.map_congr_left fun r _ => ?_
      show (if r.1 = s then (r.1, ns) else r).1 = r.1
      split <;> rfl
    rw [e]
    exact h
  · rename_i c
    rw [List.map_append, List.nodup_append]
    refine ⟨h, by simp, fun x hx y hy e => c ?_⟩
    obtain ⟨r, hr, rfl⟩ := List.mem_map.mp hx
    rw [List.map_singleton, List.mem_singleton] at hy
    exact List.any_eq_true.mpr ⟨r, hr, decide_eq_true (e.trans hy)⟩
end
structure BgnOk (bt : List (Str × List Int)) : Prop where
  nm : ∀ q ∈ bt, nmOk q.1 = true
  ks : ∀ q ∈ bt, q.2.length ≤ 6 ∧ ∀ k ∈ q.2, 1 ≤ k ∧ k ≤ 1000000000000000000000000000000
  nd : (bt.map (·.1)).Nodup
  few : bt.length ≤ 12
structure BgnAt (G : Hp) (d : Addr) (bt : List (Str × List Int)) : Prop where
  ex : ∃ od kvs, G d = some (.frz od (.dK kvs)) ∧ LsAt G kvs bt
  ok : BgnOk bt
theorem BgnAt.same {G G' : Hp} {d : Addr} {bt : List (Str × List Int)} (h : BgnAt G d bt) (s : Same G G') : BgnAt G' d bt := by
  obtain ⟨od, kvs, h1, h2⟩ := h.ex
  exact ⟨⟨od, kvs, s _ _ h1, h2.same s⟩, h.ok⟩
/-- the lives that begin so -/
def LvOf (bt bL : List (Str × List Int)) : Prop := (bL.map (·.1)).Perm (bt.map (·.1)) ∧ (bL.map (·.1)).Pairwise leS ∧ ∀ q ∈ bL, Begs (((nsOf bt q.1).getD []).map V.int) q.2
def spBegun : Sp := fun vs H Q _ => ∃ (G : Hp) (p c : Addr) (n : Nat), vs = [.ref p] ∧ Gh G H ∧ G p = none ∧ Cells c G ∧ PenAt p c n H ∧ n ≤ 1040000 ∧ RetP p c (n + 400) G H (fun v G' => ∃ d bt, v = .ref d ∧ BgnAt G' d bt) Q
def spListL : Sp := fun vs H Q _ => ∃ (G : Hp) (d : Addr) (bt bL : List (Str × List Int)), vs = [.ref d] ∧ Gh G H ∧ BgnAt G d bt ∧ LvOf bt bL ∧ Ret G H (fun v G' => ∃ l ps, v = .ref l ∧ G' l = some (.lst (ps.map V.ref)) ∧ LifeAt G' ps (lifesOf bL)) Q
def spOddL (K : PySem.W.Frag) : Sp := fun vs H Q _ => ∃ (G : Hp) (p c l : Addr) (n : Nat) (ts : List Str), vs = [.ref p, .ref l] ∧ Gh G H ∧ G p = none ∧ Cells c G ∧ PenAt p c n H ∧ n ≤ 1048000 ∧ G l = some (.lst (ts.map V.str)) ∧ (∀ t ∈ ts, nmOk t = true) ∧ RetP p c (n + 1) G H (fun v G' => (∃ d, Odd K G' v d) ∧ v ∉ ts.map V.str) Q
def spFresh : Sp := fun vs H Q _ => ∃ (G : Hp) (l : Addr) (ns : List Int), vs = [.ref l] ∧ Gh G H ∧ G l = some (.lst (ns.map V.int)) ∧ ns.length ≤ 6 ∧ Ret G H (fun v G' => ∃ q k, v = .ref q ∧ G' q = some (.lst [.int k]) ∧ 1 ≤ k ∧ k < 99 ∧ k ∉ ns) Q
section
variable {K : PySem.W.Frag} {e : En} {G H : Hp} {M : List Addr} {p c d l : Addr} {n : Nat} {bt bL : List (Str × List Int)} {ts : List Str} {ns : List Int} {Q : VK} {E : XK}
theorem u_begun (w : Wd e G H M) (hm : p ∈ M) (hc : Cells c G) (P : PenAt p c n H) (hn : n ≤ 1040000) (k : ∀ d bt G' H', Wd e G' H' M → Same G G' → But p H H' → PenAt p c (n + 400) H' → BgnAt G' d bt → Q (.ref d) H') : spBegun [.ref p] H Q E :=
  ⟨G, p, c, n, rfl, w.gh, (w.mu p hm).1, hc, P, hn, retP_use w hm fun v G' H' w' s b P' ⟨d, bt, e1, e2⟩ => by subst e1; exact k d bt G' H' w' s b P' e2⟩
theorem u_listL (w : Wd e G H M) (h : BgnAt G d bt) (hL : LvOf bt bL) (k : ∀ l ps G' H', Wd e G' H' M → Same G G' → Same H H' → G' l = some (.lst (ps.map V.ref)) → LifeAt G' ps (lifesOf bL) → Q (.ref l) H') : spListL [.ref d] H Q E :=
  ⟨G, d, bt, bL, rfl, w.gh, h, hL, ret_use w fun v G' H' w' s1 s2 ⟨l, ps, e1, h1, h2⟩ => by subst e1; exact k l ps G' H' w' s1 s2 h1 h2⟩
theorem u_oddL (w : Wd e G H M) (hm : p ∈ M) (hc : Cells c G) (P : PenAt p c n H) (hn : n ≤ 1048000) (hl : G l = some (.lst (ts.map V.str))) (ht : ∀ t ∈ ts, nmOk t = true)
    (k : ∀ v d G' H', Wd e G' H' M → Same G G' → But p H H' → PenAt p c (n + 1) H' → Odd K G' v d → v ∉ ts.map V.str → Q v H') : spOddL K [.ref p, .ref l] H Q E :=
  ⟨G, p, c, l, n, ts, rfl, w.gh, (w.mu p hm).1, hc, P, hn, hl, ht, retP_use w hm fun v G' H' w' s b P' ⟨⟨d, e1⟩, e2⟩ => k v d G' H' w' s b P' e1 e2⟩
theorem u_fresh (w : Wd e G H M) (hl : G l = some (.lst (ns.map V.int))) (h6 : ns.length ≤ 6) (k : ∀ q k' G' H', Wd e G' H' M → Same G G' → Same H H' → G' q = some (.lst [.int k']) → 1 ≤ k' → k' < 99 → k' ∉ ns → Q (.ref q) H') : spFresh [.ref l] H Q E :=
  ⟨G, l, ns, rfl, w.gh, hl, h6, ret_use w fun v G' H' w' s1 s2 ⟨q, k', e1, h1, h2, h3, h4⟩ => by subst e1; exact k q k' G' H' w' s1 s2 h1 h2 h3 h4⟩
end
/-! ### x in xs, x a datum, xs a list of objects that are data -/
def rInO (K : PySem.W.Frag) (neg : Bool) : R2 := fun x y H Q => ∃ (l : Addr) (ps : List Addr) (dat : Addr → PyData) (d : PyData), y = .ref l ∧ SqL K H l (ps.map V.ref) ∧ Dp K H x d ∧ SeqAt.shaped d = true ∧ d.depth ≤ 60 ∧ (∀ q ∈ ps, Dp K H (.ref q) (dat q) ∧ SeqAt.shaped (dat q) = true) ∧
  Q (.bl (if neg = true then !(ps.any fun q => PyData.eqv (dat q) d) else ps.any fun q => PyData.eqv (dat q) d)) H
section
variable {X : Cx}
def eqO (dat : Addr → PyData) (d : PyData) : Value → Bool
  | .ref a => PyData.eqv (dat a) d
  | _ => false
theorem any_eqO {dat : Addr → PyData} {d : PyData} : ∀ {ps : List Addr} {its : List Value}, Vals (ps.map V.ref) its → its.any (eqO dat d) = ps.any fun q => PyData.eqv (dat q) d
  | [], _, h => by cases h; rfl
  | p :: ps, _, h => by
    cases h with
    | @cons _ u _ us h1 h2 =>
      cases (show u = Value.ref p from h1)
      rw [List.any_cons, List.any_cons, any_eqO h2]
      rfl
theorem vals_ref : ∀ {ps : List Addr} {its : List Value}, Vals (ps.map V.ref) its → ∀ y ∈ its, ∃ p ∈ ps, y = .ref p
  | [], _, h, y, hy => by cases h; cases hy
  | p :: ps, _, h, y, hy => by
    cases h with
    | @cons _ u _ us h1 h2 =>
      cases (show u = Value.ref p from h1)
      rcases List.mem_cons.mp hy with rfl | hy
      · exact ⟨p, List.mem_cons_self, rfl⟩
      · obtain ⟨q, hq, e⟩ := vals_ref h2 y hy
        exact ⟨q, List.mem_cons_of_mem _ hq, e⟩
theorem inO_at {A : Around} {pins : List (Addr × Obj)} {σ : L2.St} {H : Hp} {s : Shared} (I : Inv X pins σ H s) {x : V} {v : Value} {d : PyData} {dat : Addr → PyData} {ps : List Addr} {its : List Value} (hu : A.units + 60 < cLine) (rx : RelV x v) (hx : Dp X.K H x d) (sd : SeqAt.shaped d = true) (dd : d.depth ≤ 60)
    (hp : ∀ q ∈ ps, Dp X.K H (.ref q) (dat q) ∧ SeqAt.shaped (dat q) = true) (r : Vals (ps.map V.ref) its) : ∀ y ∈ its, SeqAt.EqAt A s y v (eqO dat d y) := fun y hy => by
  obtain ⟨q, hq, rfl⟩ := vals_ref r y hy
  obtain ⟨h1, h2⟩ := hp q hq
  obtain ⟨as, r1⟩ := Dp.reads I (dat q) (.ref q) (.ref q) h1 rfl
  obtain ⟨bs, r2⟩ := Dp.reads I d x v hx rx
  exact SeqAt.eqAt_reads (dat q) d A s (.ref q) v as bs r1 r2 (SeqAt.canLay_of_shaped h2) (SeqAt.canLay_of_shaped sd) (Nat.lt_of_le_of_lt (Nat.add_le_add_left (Nat.le_trans (Nat.min_le_right _ _) dd) _) hu)
theorem q_inO (hu : X.A.units + 64 < cLine) : OpR X (compareOp .In) (rInO X.K false) := by
  intro pins s σ H x y v u Q I rx ry h
  obtain ⟨l, ps, dat, d, rfl, hl, hx, sd, dd, hp, q⟩ := h
  cases (show u = Value.ref l from ry)
  obtain ⟨its, r, pl, hz⟩ := I.list hl
  refine SeqAt.in_listAt (eqO dat d) pl.isList (fun w hw => inO_at I (by show X.A.units + 1 + 60 < cLine; omega) rx hx sd dd hp r w (by simpa using hw)) ⟨.bl _, H, I, rfl, ?_⟩
  rw [show its.toArray.any (eqO dat d) = its.any (eqO dat d) by simp, any_eqO r]
  exact q
theorem q_ninO (hu : X.A.units + 64 < cLine) : OpR X (compareOp .NotIn) (rInO X.K true) := by
  intro pins s σ H x y v u Q I rx ry h
  obtain ⟨l, ps, dat, d, rfl, hl, hx, sd, dd, hp, q⟩ := h
  cases (show u = Value.ref l from ry)
  obtain ⟨its, r, pl, hz⟩ := I.list hl
  refine SeqAt.notIn_listAt (eqO dat d) pl.isList (fun w hw => inO_at I (by show X.A.units + 1 + 60 < cLine; omega) rx hx sd dd hp r w (by simpa using hw)) ⟨.bl _, H, I, rfl, ?_⟩
  rw [show its.toArray.any (eqO dat d) = its.any (eqO dat d) by simp, any_eqO r]
  exact q
end
end Q
namespace Q
open PySem PySem.Spec PyProof.Rows L2 PySem.SeqAt PySem.MeetsSeq
section
variable {A : Around} {s : Shared}
theorem str_declines_any (b : Str) (u : Tok) (l : Addr) (o : Obj) (hn : ∀ v, o.data ≠ .prim v) : Meets (Builtin.«str.__eq__» ⟨[.str b u, .ref l], []⟩) (fun _ R s => s.heap.get? l = some o ∧ R (.ok (.ret .notImplemented)) s) :=
  .of_wp fun prog w A R s h => by
    obtain ⟨hp, g, d, tk, os⟩ := s
    obtain ⟨hl, h⟩ := h
    obtain ⟨oc, od, odt, osl⟩ := o
    cases odt <;> first
      | exact absurd rfl (hn _)
      | (wp_walk using wpAny_loadPart' hl, wpAny_load hl; exact ⟨_, rfl, h⟩)
theorem rc_str_dict {l : Addr} (b : Str) (u : Tok) {o : Obj} (ho : s.heap.get? l = some o) (hn : ∀ v, o.data ≠ .prim v) (ht : s.TypeIs (.ref l) "dict") (hu : A.units < cLine) : RcAt A s (.str b u) (.ref l) false := fun prog w E Q h => by
  exact rc_eq_decline_or (k := false) (typeIs_str s b u) ht (by decide) F.sub_dict_str F.slot_str_eq F.slot_dict_eq_refl
    (fun _ hq => call_meets F.slot_str_eq (typeIs_str s b u) F.entry_str_eq (F.args_str_eq_2 _ _) (str_declines_any b u l o hn) ⟨ho, hq⟩)
    (fun _ hq => by
      refine wpAny_call_entry F.slot_dict_eq_refl ht F.entry_dict_eq ?_ (F.args_dict_eq_2 _ _)
      show wpAny _ _ (Builtin.Dict.dictSlotArgs "__eq__" ⟨[.ref l, .str b u], []⟩ >>= _) _ _ s
      refine wpAny_bind ?_
      unfold Builtin.Dict.dictSlotArgs
      refine wpAny_bind (wpAny_notOrdered_dict ht ?_)
      show wpAny _ _ (pure (Value.ref l, Value.str b u)) _ _ s
      refine wpAny_pure ?_
      refine wpAny_bind (wpAny_isInstance (T := "str") (typeIs_str s b u) F.sub_str_dict ?_)
      simp only [Bool.not_false, if_true]
      wp_walk
      exact ⟨_, rfl, hq⟩)
    (fun _ hq => wpAny_of_eq (rfl : isSame (.str b u) (.ref l) = pure false) hq) (.inr hu) h
theorem eq_str_dict {l : Addr} (b : Str) (u : Tok) {o : Obj} (ho : s.heap.get? l = some o) (hn : ∀ v, o.data ≠ .prim v) (ht : s.TypeIs (.ref l) "dict") (hu : A.units < cLine) : EqAt A s (.str b u) (.ref l) false := fun prog w E Q h => by
  unfold eqBool
  refine wpAny_holding ?_
  refine wpAny_ite_split (fun hab => absurd (eq_of_beq hab) nofun) (fun _ => ?_)
  exact wpAny_bind (rc_str_dict b u ho hn ht hu prog w E _ (wpAny_truthy_bool h))
end
end Q
namespace Q
open PySem PySem.Spec PyProof.Rows L2
/-! ### x not in xs, xs a list of texts, x any value -/
def rNinZ (K : PySem.W.Frag) : R2 := fun x y H Q => ∃ (l : Addr) (ts : List Str) (d : PyData), y = .ref l ∧ SqL K H l (ts.map V.str) ∧ Dq K H x d ∧ Q (.bl (!decide (x ∈ ts.map V.str))) H
def eqZ (x : V) : Value → Bool
  | .str b _ => (match x with
    | .str c => b == c
    | _ => false)
  | _ => false
theorem any_eqZ {x : V} : ∀ {ts : List Str} {its : List Value}, Vals (ts.map V.str) its → its.any (eqZ x) = decide (x ∈ ts.map V.str)
  | [], _, h => by cases h; rfl
  | t :: ts, _, h => by
    cases h with
    | @cons _ u _ us h1 h2 =>
      obtain ⟨k, rfl⟩ := (show ∃ k, u = Value.str t k from h1)
      rw [List.any_cons, any_eqZ h2]
      cases x with
      | str c =>
        show (t == c || _) = _
        by_cases e : t = c
        · rw [e, beq_self_eq_true, Bool.true_or, decide_eq_true (by simp)]
        · rw [beq_eq_false_iff_ne.mpr e, Bool.false_or]
          refine decide_eq_decide.mpr ⟨fun m => List.mem_cons_of_mem _ m, fun m => ?_⟩
          rcases List.mem_cons.mp m with m | m
          · injection m with m
            exact absurd m.symm e
          · exact m
      | _ =>
        show (false || _) = _
        rw [Bool.false_or]
        refine decide_eq_decide.mpr ⟨fun m => List.mem_cons_of_mem _ m, fun m => ?_⟩
        rcases List.mem_cons.mp m with m | m
        · cases m
        · exact m
theorem q_ninZ {X : Cx} (hu : X.A.units + 64 < cLine) : OpR X (compareOp .NotIn) (rNinZ X.K) := by
  intro pins s σ H x y v u Q I rx ry h
  obtain ⟨l, ts, d, rfl, hl, hx, q⟩ := h
  cases (show u = Value.ref l from ry)
  obtain ⟨its, r, pl, hz⟩ := I.list hl
  have hu1 : X.A.in1.units < cLine := by show X.A.units + 1 < cLine; omega
  have at_ : ∀ w ∈ its, ∃ t k, w = Value.str t k := by
    clear q hl pl hz
    generalize hg : ts.map V.str = xs at r
    induction r generalizing ts with
    | nil => exact fun w hw => by cases hw
    | @cons a u' as us h1 h2 ih =>
      cases ts with
      | nil => cases hg
      | cons t ts =>
        rw [List.map_cons] at hg
        injection hg with g1 g2
        subst g1
        obtain ⟨k, rfl⟩ := (show ∃ k, u' = Value.str t k from h1)
        intro w hw
        rcases List.mem_cons.mp hw with rfl | hw
        · exact ⟨t, k, rfl⟩
        · exact ih ts g2 w hw
  refine SeqAt.notIn_listAt (eqZ x) pl.isList (fun w hw => ?_) ⟨.bl _, H, I, rfl, ?_⟩
  · obtain ⟨t, k, rfl⟩ := at_ w (by simpa using hw)
    cases hx with
    | non => cases (show v = Value.none from rx); exact SeqAt.EqAt.str_none t k
    | bl b => cases (show v = Value.bool b from rx); exact SeqAt.EqAt.str_bool t k b
    | int i => obtain ⟨j, rfl⟩ := (show ∃ j, v = Value.int i j from rx); exact SeqAt.EqAt.str_int t k i j
    | str c => obtain ⟨j, rfl⟩ := (show ∃ j, v = Value.str c j from rx); exact SeqAt.EqAt.str_str t k c j
    | lst h _ =>
      cases (show v = Value.ref _ from rx)
      obtain ⟨_, _, p2, _⟩ := I.list h
      exact SeqAt.EqAt.str_list t k p2.isList hu1
    | tup h _ =>
      cases (show v = Value.ref _ from rx)
      obtain ⟨_, _, p2, _⟩ := I.tuple h
      exact SeqAt.EqAt.str_tuple t k p2 hu1
    | dic h _ _ =>
      cases (show v = Value.ref _ from rx)
      obtain ⟨_, sa, va, rva, da⟩ := dk_rd I.hok h
      obtain ⟨o, es, ep, e1, e2, e3, _⟩ := id da
      exact eq_str_dict t k e1 (fun v z => by rw [e3] at z; cases z) da.typeIs hu1
  · rw [show its.toArray.any (eqZ x) = its.any (eqZ x) by simp, any_eqZ r]
    exact q
theorem r_ninZ {K : PySem.W.Frag} {H : Hp} {l : Addr} {ts : List Str} {x : V} {d : PyData} {Qv : VK} (h : SqL K H l (ts.map V.str)) (hx : Dq K H x d) (q : Qv (.bl (!decide (x ∈ ts.map V.str))) H) : rNinZ K x (.ref l) H Qv := ⟨l, ts, d, rfl, h, hx, q⟩
theorem r_inO {K : PySem.W.Frag} {H : Hp} {l : Addr} {ps : List Addr} {dat : Addr → PyData} {d : PyData} {x : V} {neg : Bool} {Qv : VK} (h : SqL K H l (ps.map V.ref)) (hx : Dp K H x d) (sd : SeqAt.shaped d = true) (dd : d.depth ≤ 60) (hp : ∀ q ∈ ps, Dp K H (.ref q) (dat q) ∧ SeqAt.shaped (dat q) = true)
    (q : Qv (.bl (if neg = true then !(ps.any fun q => PyData.eqv (dat q) d) else ps.any fun q => PyData.eqv (dat q) d)) H) : rInO K neg x (.ref l) H Qv := ⟨l, ps, dat, d, rfl, h, hx, sd, dd, hp, q⟩
/-! ### an object that is told, and changed all the same -/
section
variable {e : En} {G H H' : Hp} {M : List Addr} {q : Addr} {o u : HO}
theorem Wd.n00 (w : Wd e G H M) (h : H q = none) : e.H0 q = none ∧ e.G0 q = none := by
  refine ⟨w.n0 h, ?_⟩
  cases z : e.G0 q with
  | none => rfl
  | some x =>
    have := w.gr _ _ z
    rw [w.g h] at this
    cases this
theorem wd_put (w : Wd e G H M) (hg : G q = some u) (pu : plainB u = true) (h0 : e.H0 q = none ∧ e.G0 q = none) (b : But q H H') (h' : H' q = some o) (no : NoT o) : Wd e (upd G q o) H' M := by
  have ne0 : ∀ a, e.H0 a ≠ none → a ≠ q := fun a h z => h (by rw [z]; exact h0.1)
  have hq : H q = some u := w.le _ _ hg
  refine ⟨fun a x hx => ?_, fun a ha => ?_, w.nd, fun a h => ?_, fun a x hx => ?_, fun a h => ?_, fun a x off h => ?_, fun a x hx => ?_, fun a ha x hx => ?_, tabs_but w.tb b hq pu⟩
  · by_cases z : a = q
    · subst z
      rw [upd_same] at hx
      rw [h', ← Option.some.inj hx]
    · rw [upd_ne z] at hx
      exact b _ _ z (w.le _ _ hx)
  · obtain ⟨m1, ⟨x, m2⟩, m3⟩ := w.mu a ha
    have z : a ≠ q := fun z => by rw [z, hg] at m1; cases m1
    exact ⟨by rw [upd_ne z]; exact m1, ⟨x, b _ _ z m2⟩, m3⟩
  · obtain ⟨x, hx⟩ := Option.ne_none_iff_exists'.mp (w.dom a h)
    exact some_ne (b _ _ (ne0 a h) hx)
  · have z : a ≠ q := fun z => by rw [z, h0.2] at hx; cases hx
    rw [upd_ne z]
    exact w.gr _ _ hx
  · rw [upd_ne (ne0 a h)]
    exact w.fr a h
  · exact b _ _ (ne0 a (some_ne h)) (w.kp a x off h)
  · by_cases z : a = q
    · subst z
      rw [upd_same] at hx
      rw [← Option.some.inj hx]
      exact no
    · rw [upd_ne z] at hx
      exact w.nt _ _ hx
  · obtain ⟨m1, ⟨y, m2⟩, m3⟩ := w.mu a ha
    have z : a ≠ q := fun z => by rw [z, hg] at m1; cases m1
    have := b _ _ z m2
    rw [hx] at this
    rw [Option.some.inj this]
    exact w.mt a ha y m2
theorem r_appG {l : Addr} {xs : List V} {y : V} {Qv : VK} (w : Wd e G H M) (hg : G l = some (.lst xs)) (h0 : e.H0 l = none ∧ e.G0 l = none) (hl : xs.length < sizeLine) (k : ∀ H', Wd e (upd G l (.lst (xs ++ [y]))) H' M → But l H H' → Qv .non H') : rAppend (.ref l) [y] H Qv :=
  ⟨l, xs, y, rfl, rfl, w.le _ _ hg, hl, k _ (wd_put w hg rfl h0 but_upd upd_same (by intro ps z; cases z)) but_upd⟩
theorem r_dputG {d : Addr} {kvs : List (Key × V)} {s : Str} {v : V} {N : Hp → Prop} (w : Wd e G H M) (hg : G d = some (.dK kvs)) (h0 : e.H0 d = none ∧ e.G0 d = none) (hl : kvs.length < sizeLine)
    (k : ∀ H', Wd e (upd G d (.dK (putK kvs (.inr s) v))) H' M → But d H H' → N H') : ∃ a H4, V.ref d = .ref a ∧ DPut H a (.str s) v H4 ∧ N H4 :=
  ⟨d, _, rfl, DPut.k (k := .inr s) (w.le _ _ hg) hl, k _ (wd_put w hg rfl h0 but_upd upd_same (by intro ps z; cases z)) but_upd⟩
/-- a dict that is told is locked for a while: told as locked -/
theorem wd_lockG {d : Addr} {od : Obj} {kvs : List (Key × V)} (w : Wd e G H M) (hg : G d = some (.dK kvs)) (h0 : e.H0 d = none ∧ e.G0 d = none) : Wd e (upd G d (.frz od (.dK kvs))) (upd H d (.frz od (.dK kvs))) M := wd_put w hg rfl h0 but_upd upd_same (by intro ps z; cases z)
theorem wd_unlockG {d : Addr} {od : Obj} {kvs : List (Key × V)} (w : Wd e G H M) (hg : G d = some (.frz od (.dK kvs))) (h0 : e.H0 d = none ∧ e.G0 d = none) : Wd e (upd G d (.dK kvs)) (upd H d (.dK kvs)) M := wd_put w hg rfl h0 but_upd upd_same (by intro ps z; cases z)
end
/-- all but q is as it was told -/
theorem put_off {G G1 : Hp} {q : Addr} {o : HO} (s : Same G1 G) (n : G1 q = none) : Same G1 (upd G q o) := fun a x h => by
  rw [upd_ne (fun z => by rw [z, n] at h; cases h)]
  exact s _ _ h
/-! ### lives whose own dict is known by its address -/
def LivesIn (C : Addr) (G : Hp) (a D : Addr) (bt : List (Str × List Int)) : Prop := ∃ dx od kvs, G a = some (.ins C dx [("by_tool", .ref D)]) ∧ G D = some (.frz od (.dK kvs)) ∧ LvAt G kvs bt
theorem LivesIn.at_ {C a D : Addr} {G : Hp} {bt : List (Str × List Int)} (h : LivesIn C G a D bt) : LivesAt C G a bt := by
  obtain ⟨dx, od, kvs, h1, h2, h3⟩ := h
  exact ⟨dx, D, od, kvs, h1, h2, h3⟩
theorem LivesIn.same {C a D : Addr} {G G' : Hp} {bt : List (Str × List Int)} (h : LivesIn C G a D bt) (s : Same G G') : LivesIn C G' a D bt := by
  obtain ⟨dx, od, kvs, h1, h2, h3⟩ := h
  exact ⟨dx, od, kvs, s _ _ h1, s _ _ h2, h3.same s⟩
theorem LvAt.put {G : Hp} {q : Addr} {o : HO} {kvs : List (Key × V)} {bt : List (Str × List Int)} (h : LvAt G kvs bt) (nt : ∀ xs, G q ≠ some (.tup xs)) : LvAt (upd G q o) kvs bt := by
  induction h with
  | nil => exact .nil
  | cons h _ ih => exact .cons (by rw [upd_ne (fun z => nt _ (by rw [← z]; exact h))]; exact h) ih
theorem LivesIn.put {C a D : Addr} {G : Hp} {q : Addr} {o : HO} {bt : List (Str × List Int)} (h : LivesIn C G a D bt) (nt : ∀ xs, G q ≠ some (.tup xs)) (ni : ∀ C dx fs, G q ≠ some (.ins C dx fs)) (nD : D ≠ q) : LivesIn C (upd G q o) a D bt := by
  obtain ⟨dx, od, kvs, h1, h2, h3⟩ := h
  exact ⟨dx, od, kvs, by rw [upd_ne (fun z => ni _ _ _ (by rw [← z]; exact h1))]; exact h1, by rw [upd_ne nD]; exact h2, h3.put nt⟩
theorem u_livesN {K : PySem.W.Frag} {C Cn Cm d : Addr} {od : Obj} {kvs : List (Key × V)} {rows : List (Str × List V)} {e : En} {G H : Hp} {M : List Addr} {Qv : VK} {E : XK} (w : Wd e G H M) (hd : G d = some (.frz od (.dK kvs))) (hb : BegAt K G kvs rows) (ro : RowsOk K G rows) (nd : (kvs.map (·.1)).Nodup) (ln : kvs.length ≤ 1000)
    (bad : ∀ ts : List Str, ts.Perm (rows.map (·.1)) → ts.Pairwise leS → faultL Cn Cm rows ts = none)
    (good : ∀ ts : List Str, ts.Perm (rows.map (·.1)) → ts.Pairwise leS → ∀ a D G' H' bt, Wd e G' H' M → Same G G' → Same H H' → H D = none → LivesIn C G' a D bt → BtOf rows ts bt → Qv (.ref a) H') : MakeGo C (spLives K C Cn Cm) [.ref d] E H Qv := by
  refine make_go w fun a dx G1 H1 hx nm s1 t1 w1 h1 n0 => ?_
  have keeps : ∀ {H2 : Hp}, But a H1 H2 → Same H H2 := fun {H2} b2 c o h => by
    refine b2 c o (fun q => ?_) (t1 _ _ h)
    subst q
    rw [hx] at h
    cases h
  refine ⟨G1, a, dx, d, od, kvs, rows, rfl, w1.gh, (w1.mu a List.mem_cons_self).1, h1, s1 _ _ hd, hb.same s1, ro.same s1, nd, ln, fun ts p1 p2 => ⟨fun cls f v hf => (by rw [bad ts p1 p2] at hf; cases hf), fun hf G2 H2 D od2 kv2 bt nD b2 s2 s3 fr hD lv bo h2 => ⟨rfl, ?_⟩⟩⟩
  have w2 := wd_made w1 b2 h2 rfl s2 s3 fr
  obtain ⟨w4, s4⟩ := wd_freeze w2 h2 n0
  refine good ts p1 p2 a D _ H2 bt w4 (s1.trans (s3.trans s4)) (keeps b2) ?_ ⟨dx, od2, kv2, upd_same, s4 _ _ hD, lv.same s4⟩ bo
  cases z : H D with
  | none => rfl
  | some o =>
    have := t1 _ _ z
    rw [nD] at this
    cases this
end Q
namespace Q
open PySem PySem.Spec PyProof.Rows L2
/-- sorted(set(l)), l a list of ints -/
theorem r_ss {K : PySem.W.Frag} {wd : World} {l : Addr} {ns : List Int} {e : En} {G H : Hp} {M : List Addr} {Qv R : VK} (w : Wd e G H M) (h : SqL K H l (ns.map V.int)) (hn : ns.length ≤ 60) (hR : ∀ a H1, rSortedSet wd [.ref a] H1 Qv → R (.ref a) H1)
    (k : ∀ (ms : List Int) p G' H', ms.Pairwise (· < ·) → (∀ k : Int, k ∈ ms ↔ k ∈ ns) → ms.length ≤ ns.length → Wd e G' H' M → Same G G' → Same H H' → G' p = some (.lst (ms.map V.int)) → Qv (.ref p) H') : rSetL K wd [.ref l] H R := by
  refine r_setOfL h (by omega) fun n hn2 sa hsa => hR _ _ ?_
  have w1 := wd_lay (o := SetO wd sa (fun j => decide (j ∈ ns)) n) w hsa setO_nt
  refine r_sortSet upd_same (by omega) fun ms hms hmem hml => ?_
  refine r_lay w1 (Nat.zero_le _) (by intro ps z; cases z) fun p G2 H2 n2 w2 s2 h2 t2 => ?_
  exact k ms p G2 H2 hms (fun k => by rw [hmem k, decide_eq_true_iff]) (by omega) w2 ((same_upd (w.g hsa)).trans s2) ((same_upd hsa).trans t2) h2
theorem nd_len {α : Type} [DecidableEq α] : ∀ {xs ys : List α}, xs.Nodup → (∀ x ∈ xs, x ∈ ys) → xs.length ≤ ys.length
  | [], _, _, _ => Nat.zero_le _
  | x :: xs, ys, nd, h => by
    obtain ⟨n1, n2⟩ := List.nodup_cons.mp nd
    have hx := h x List.mem_cons_self
    have ih := nd_len (ys := ys.erase x) n2 fun y hy => (List.mem_erase_of_ne (fun e => n1 (by rw [← e]; exact hy))).mpr (h y (List.mem_cons_of_mem _ hy))
    rw [List.length_erase_of_mem hx] at ih
    have := List.length_pos_of_mem hx
    rw [List.length_cons]
    omega
theorem LvOf.begs {bt bL : List (Str × List Int)} {i : Nat} {t : Str} {ns' : List Int} (h : LvOf bt bL) (ok : BgnOk bt) (hi : bL[i]? = some (t, ns')) : ∃ ns ms, nsOf bt t = some ns ∧ ns' = 0 :: ms ∧ (0 :: ms).Pairwise (· < ·) ∧ (∀ k, k ∈ (0 :: ms) ↔ k ∈ (0 :: ns)) ∧ ns.length ≤ 6 ∧ (∀ k ∈ ns, 1 ≤ k ∧ k ≤ 1000000000000000000000000000000) ∧ nmOk t = true ∧ ms.length ≤ 6 := by
  have mem := List.mem_of_getElem? hi
  have mt : t ∈ bt.map (·.1) := h.1.mem_iff.mp (List.mem_map.mpr ⟨_, mem, rfl⟩)
  obtain ⟨ns, hns⟩ := nsOf_in mt
  have mq := nsOf_mem hns
  obtain ⟨ms, e, h1, h2⟩ := h.2.2 _ mem
  rw [hns] at h2
  have h3 : ∀ k : Int, k ∈ ms ↔ k ∈ ns := fun k => by
    rw [h2 k]
    show V.int k ∈ ns.map V.int ↔ _
    rw [List.mem_map]
    exact ⟨fun ⟨j, hj, e⟩ => by cases e; exact hj, fun hj => ⟨k, hj, rfl⟩⟩
  obtain ⟨k6, kk⟩ := ok.ks _ mq
  have nd : ms.Nodup := h1.imp fun h e => by omega
  have le : ms.length ≤ ns.length := nd_len nd fun k hk => (h3 k).mp hk
  have k6 : ns.length ≤ 6 := k6
  refine ⟨ns, ms, hns, e, List.pairwise_cons.mpr ⟨fun k hk => ?_, h1⟩, fun k => ?_, k6, kk, ok.nm _ mq, by omega⟩
  · have := (kk k ((h3 k).mp hk)).1
    omega
  · rw [List.mem_cons, List.mem_cons, h3 k]
end Q
namespace Q
open PySem PySem.Spec PyProof.Rows L2
theorem LsAt.keysL {G : Hp} {kvs : List (Key × V)} {bt : List (Str × List Int)} (h : LsAt G kvs bt) : kvs.map (fun kv => kV kv.1) = (bt.map (·.1)).map V.str := by
  induction h with
  | nil => rfl
  | cons _ _ ih => rw [List.map_cons, List.map_cons, List.map_cons, ih]; rfl
theorem paired_app {α β : Type} {R : α → β → Prop} {xs xs' : List α} {ys ys' : List β} (h : Paired R xs ys) (h' : Paired R xs' ys') : Paired R (xs ++ xs') (ys ++ ys') := by
  induction h with
  | nil => exact h'
  | cons r _ ih => exact .cons r ih
end Q
namespace Q
open PySem PySem.Spec PyProof.Rows L2
/-! ### what is no life of some lives -/
def NoLf (K : PySem.W.Frag) (G : Hp) (bL : List (Str × List Int)) (v : V) : Prop := ∃ q, TuV K G v q ∧ isLife bL q = false
section
variable {K : PySem.W.Frag} {G G' H : Hp} {bL : List (Str × List Int)} {v x y z : V} {ps : List Addr} {ls : List (Str × Int)} {p q : Addr} {ys : List V} {t : Str} {b : Int}
theorem TuV.same {o : Option (List V)} (h : TuV K G v o) (s : Same G G') : TuV K G' v o := by
  cases o with
  | none => obtain ⟨t, h1, h2⟩ := h; exact ⟨t, same_ty s h1, h2⟩
  | some ys => obtain ⟨p, h1, h2, h3⟩ := h; exact ⟨p, h1, s _ _ h2, fun y hy => (h3 y hy).elim fun t k => ⟨t, k.same s⟩⟩
theorem NoLf.same (h : NoLf K G bL v) (s : Same G G') : NoLf K G' bL v := h.elim fun q ⟨h1, h2⟩ => ⟨q, h1.same s, h2⟩
theorem nolf_base {n : String} (h : Kd K G v (.type n)) (k : kitB n "tuple" = some false) : NoLf K G bL v := ⟨none, ⟨_, h.ty, kit_ty k⟩, rfl⟩
theorem nolf_tup (h : G p = some (.tup ys)) (hk : ∀ y ∈ ys, ∃ t, Kd K G y t) (n : isLife bL (some ys) = false) : NoLf K G bL (.ref p) := ⟨some ys, ⟨p, rfl, h, hk⟩, n⟩
theorem kda0 : ∀ y ∈ ([] : List V), ∃ t, Kd K G y t := fun y h => by cases h
theorem kda_cons {r : List V} (h : ∃ t, Kd K G x t) (hr : ∀ y ∈ r, ∃ t, Kd K G y t) : ∀ y ∈ x :: r, ∃ t, Kd K G y t := fun y hy => by
  rcases List.mem_cons.mp hy with rfl | hy
  · exact h
  · exact hr y hy
def datL (G : Hp) (q : Addr) : PyData := match G q with
  | some (.tup [.str t, .int b]) => .tuple [.str t, .int b]
  | _ => .none
theorem datL_at (h : G q = some (.tup [.str t, .int b])) : datL G q = .tuple [.str t, .int b] := by
  unfold datL
  rw [h]
theorem LifeAt.mem (h : LifeAt G ps ls) (hq : q ∈ ps) : ∃ l ∈ ls, G q = some (.tup [.str l.1, .int l.2]) := by
  induction h with
  | nil => cases hq
  | @cons a l as bs h1 _ ih =>
    rcases List.mem_cons.mp hq with rfl | hq
    · exact ⟨l, List.mem_cons_self, h1⟩
    · obtain ⟨l', m, e⟩ := ih hq
      exact ⟨l', List.mem_cons_of_mem _ m, e⟩
theorem LifeAt.mem' {l : Str × Int} (h : LifeAt G ps ls) (hl : l ∈ ls) : ∃ q ∈ ps, G q = some (.tup [.str l.1, .int l.2]) := by
  induction h with
  | nil => cases hl
  | @cons a l' as bs h1 _ ih =>
    rcases List.mem_cons.mp hl with rfl | hl
    · exact ⟨a, List.mem_cons_self, h1⟩
    · obtain ⟨q', m, e⟩ := ih hl
      exact ⟨q', List.mem_cons_of_mem _ m, e⟩
theorem isLife_in (h : isLife bL (some [.str t, .int b]) = true) : (t, b) ∈ lifesOf bL := by
  obtain ⟨s, i, ns, e, h1, h2⟩ := isLife_to h
  cases e
  exact List.mem_flatMap.mpr ⟨_, nsOf_mem h1, List.mem_map.mpr ⟨b, h2, rfl⟩⟩
theorem shaped_pair (h : PyData.strOk t = true) : SeqAt.shaped (.tuple [.str t, .int b]) = true := by
  simp [SeqAt.shaped, PyData.canLay0, PyData.canLayAll0, PyData.depth, PyData.depthAll, h]
theorem shaped_strs2 {t u : Str} (h : PyData.strOk t = true) (h' : PyData.strOk u = true) : SeqAt.shaped (.tuple [.str t, .str u]) = true := by
  simp [SeqAt.shaped, PyData.canLay0, PyData.canLayAll0, PyData.depth, PyData.depthAll, h, h']
theorem life_out (la : LifeAt G ps (lifesOf bL)) (h : (ps.any fun q => PyData.eqv (datL G q) (.tuple [.str t, .int b])) = false) : isLife bL (some [.str t, .int b]) = false := by
  cases e : isLife bL (some [.str t, .int b]) with
  | false => rfl
  | true =>
    obtain ⟨q, hq, e2⟩ := la.mem' (isLife_in e)
    have z := List.any_eq_false.mp h q hq
    rw [datL_at e2] at z
    exact absurd (by simp [PyData.eqv, PyData.eqvAll]) z
theorem lifes_has (h : (t, b) ∈ lifesOf bL) : ∃ q ∈ bL, q.1 = t ∧ b ∈ q.2 := by
  obtain ⟨q, hq, hl⟩ := List.mem_flatMap.mp h
  obtain ⟨c, hc, e⟩ := List.mem_map.mp hl
  cases e
  exact ⟨q, hq, rfl, hc⟩
theorem dat_life (la : LifeAt G ps (lifesOf bL)) (nm : ∀ q ∈ bL, nmOk q.1 = true) (s : Same G H) : ∀ q ∈ ps, Dp K H (.ref q) (datL G q) ∧ SeqAt.shaped (datL G q) = true := fun q hq => by
  obtain ⟨l, hl, e⟩ := la.mem hq
  obtain ⟨r, hr, e2, _⟩ := lifes_has (show (l.1, l.2) ∈ lifesOf bL from hl)
  rw [datL_at e]
  exact ⟨.tup (SqT.of (s _ _ e)) (.cons (.str _) (.cons (.int _) .nil)), shaped_pair (nmOk_str (by rw [← e2]; exact nm r hr))⟩
end
/-- lives as a law draws them -/
structure LvOk (bL : List (Str × List Int)) : Prop where
  ok : BtOk bL
  nm : ∀ q ∈ bL, nmOk q.1 = true
  ks : ∀ q ∈ bL, q.2.length ≤ 7 ∧ ∀ k ∈ q.2, 0 ≤ k ∧ k ≤ 1000000000000000000000000000000
  few : bL.length ≤ 12
theorem lifes_few' {bL : List (Str × List Int)} (h : ∀ q ∈ bL, q.2.length ≤ 7) : (lifesOf bL).length ≤ 7 * bL.length := by
  induction bL with
  | nil => exact Nat.le_refl _
  | cons q r ih =>
    have a := h q List.mem_cons_self
    have b := ih fun u hu => h u (List.mem_cons_of_mem _ hu)
    unfold lifesOf at b ⊢
    rw [List.flatMap_cons, List.length_append, List.length_map, List.length_cons]
    omega
theorem LvOf.lvOk {bt bL : List (Str × List Int)} (h : LvOf bt bL) (ok : BgnOk bt) : LvOk bL := by
  have one : ∀ q ∈ bL, nmOk q.1 = true ∧ q.2.length ≤ 7 ∧ (∀ k ∈ q.2, 0 ≤ k ∧ k ≤ 1000000000000000000000000000000) ∧ q.2.Nodup := fun q hq => by
    obtain ⟨i, hi⟩ := List.getElem?_of_mem hq
    obtain ⟨ns, ms, _, e, asc, hm, l6, kk, nm, lm⟩ := h.begs ok (t := q.1) (ns' := q.2) hi
    refine ⟨nm, by rw [e]; simp; omega, fun k hk => ?_, by rw [e]; exact asc.imp fun h z => by omega⟩
    rw [e, hm k] at hk
    rcases List.mem_cons.mp hk with rfl | hk
    · exact ⟨by decide, by decide⟩
    · have := kk k hk
      exact ⟨by omega, this.2⟩
  have few : bL.length ≤ 12 := by
    have := h.1.length_eq
    rw [List.length_map, List.length_map] at this
    rw [this]
    exact ok.few
  have al := lifes_few' fun q hq => (one q hq).2.1
  exact ⟨⟨h.1.nodup_iff.mpr ok.nd, fun q hq => Nat.le_trans (one q hq).2.1 (by decide), by omega, fun q hq => (one q hq).2.2.2⟩, fun q hq => (one q hq).1, fun q hq => ⟨(one q hq).2.1, (one q hq).2.2.1⟩, few⟩
def spMemR (K : PySem.W.Frag) (C : Addr) : Sp := fun vs H Q _ => ∃ (G : Hp) (p a l : Addr) (bL : List (Str × List Int)) (ps : List Addr), vs = [.ref p, .ref a, .ref l] ∧ Gh G H ∧ LivesAt C G a bL ∧ LvOk bL ∧ G l = some (.lst (ps.map V.ref)) ∧ LifeAt G ps (lifesOf bL) ∧ Ret G H (fun v _ => v = .bl true) Q
theorem u_memR {K : PySem.W.Frag} {C p a l : Addr} {bL : List (Str × List Int)} {ps : List Addr} {e : En} {G H : Hp} {M : List Addr} {Q : VK} {E : XK} (w : Wd e G H M) (hL : LivesAt C G a bL) (ok : LvOk bL) (hl : G l = some (.lst (ps.map V.ref))) (la : LifeAt G ps (lifesOf bL))
    (k : ∀ G' H', Wd e G' H' M → Same G G' → Same H H' → Q (.bl true) H') : spMemR K C [.ref p, .ref a, .ref l] H Q E :=
  ⟨G, p, a, l, bL, ps, rfl, w.gh, hL, ok, hl, la, ret_use w fun v G' H' w' s1 s2 e1 => by subst e1; exact k G' H' w' s1 s2⟩
end Q
namespace Q
open PySem PySem.Spec PyProof.Rows L2
/-! ### lives shown; what the law asks of them -/
section
variable {K : PySem.W.Frag} {C : Addr} {G H : Hp} {ps : List Addr} {ls : List (Str × Int)}
abbrev pairT (l : Str × Int) : PyData := .tuple [.str l.1, .int l.2]
theorem life_dq (h : LifeAt G ps ls) : DqAll K G (ps.map V.ref) (ls.map pairT) := by
  induction h with
  | nil => exact .nil
  | cons h _ ih => exact .cons (.tup (SqT.of h) (.cons (.str _) (.cons (.int _) .nil))) ih
theorem pairsT_show (K : PySem.W.Frag) (h : ∀ l ∈ ls, nmOk l.1 = true ∧ 0 ≤ l.2 ∧ l.2 ≤ 1000000000000000000000000000000) (n : ls.length ≤ 100) : (PyData.tuple (ls.map pairT)).showable = true ∧ (PyData.tuple (ls.map pairT)).depth ≤ 60 ∧ (PyData.tuple (ls.map pairT)).shown.length ≤ sizeLine := by
  have one : ∀ l ∈ ls, (pairT l).showable = true ∧ (pairT l).depth ≤ 1 ∧ (pairT l).shown.length ≤ 2010 := fun l hl => by
    obtain ⟨h1, h2, h3⟩ := h l hl
    have o1 : Odd K (fun _ => none) (.str l.1) (.str l.1) := odd_name h1
    have o2 : Odd K (fun _ => none) (.int l.2) (.int l.2) := odd_pos h2 (by omega)
    have a1 := o1.sz
    have a2 := o2.sz
    have a3 := sh_tup [.str l.1, .int l.2] (m := 2000) (by simp; omega)
    exact ⟨by have q := o2.sh; simp [PyData.showable] at q; simp [pairT, PyData.showable, PyData.showableAll, q], by simp [pairT, PyData.depth, PyData.depthAll], Nat.le_trans a3 (by simp)⟩
  have all : ∀ ms : List (Str × Int), (∀ l ∈ ms, l ∈ ls) → PyData.showableAll (ms.map pairT) = true ∧ PyData.depthAll (ms.map pairT) ≤ 1 ∧ ((ms.map pairT).map fun d => d.shown.length).sum ≤ 2010 * ms.length := by
    intro ms
    induction ms with
    | nil => exact fun _ => ⟨by simp [PyData.showableAll], by simp [PyData.depthAll], by simp⟩
    | cons l ms ih =>
      intro hm
      obtain ⟨i1, i2, i3⟩ := ih fun u hu => hm u (List.mem_cons_of_mem _ hu)
      obtain ⟨q1, q2, q3⟩ := one l (hm l List.mem_cons_self)
      refine ⟨by rw [List.map_cons]; simp only [PyData.showableAll]; rw [q1, i1]; rfl, by rw [List.map_cons]; simp only [PyData.depthAll]; omega, ?_⟩
      rw [List.map_cons, List.map_cons, List.sum_cons, List.length_cons]
      omega
  obtain ⟨a1, a2, a3⟩ := all ls fun _ h => h
  refine ⟨by simp only [PyData.showable]; exact a1, by simp only [PyData.depth]; omega, sz_m ?_⟩
  have := sh_tup (ls.map pairT) a3
  rw [List.length_map] at this
  omega
theorem LvOk.pairs {bL : List (Str × List Int)} (h : LvOk bL) : (∀ l ∈ lifesOf bL, nmOk l.1 = true ∧ 0 ≤ l.2 ∧ l.2 ≤ 1000000000000000000000000000000) ∧ (lifesOf bL).length ≤ 100 := by
  refine ⟨fun l hl => ?_, ?_⟩
  · obtain ⟨q, hq, e1, e2⟩ := lifes_has (show (l.1, l.2) ∈ lifesOf bL from hl)
    rw [← e1]
    exact ⟨h.nm q hq, (h.ks q hq).2 l.2 e2⟩
  · have := lifes_few' fun q hq => (h.ks q hq).1
    have := h.few
    omega
end
def spRtL (C pT : Addr) (q : Str) : Sp := fun vs H Q _ => ∃ (G : Hp) (p c a d : Addr) (n : Nat) (bt bL : List (Str × List Int)), vs = [.ref p, .ref a, .ref d] ∧ Gh G H ∧ G p = none ∧ Cells c G ∧ PenAt p c n H ∧ n ≤ 1040000 ∧ LivesAt C G a bL ∧ BgnAt G d bt ∧ LvOf bt bL ∧
  LamX.TabS H pT q ∧ RetT p c (n + 1) pT q G H (fun v _ => v = .bl true) Q
theorem u_rtL {C pT p c a d : Addr} {q : Str} {n : Nat} {bt bL : List (Str × List Int)} {e : En} {G H : Hp} {M : List Addr} {Q : VK} {E : XK} (w : Wd e G H M) (hm : p ∈ M) (eT : e.T = [(pT, q)]) (cov : ∀ a, e.H0 a ≠ none → (∃ q, (a, q) ∈ e.T) ∨ (a ∉ e.P0 ∧ ∀ o, e.H0 a = some o → NoT o)) (inP : ∀ r ∈ e.T, r.1 ∈ e.P0)
    (hc : Cells c G) (P : PenAt p c n H) (hn : n ≤ 1040000) (hL : LivesAt C G a bL) (hb : BgnAt G d bt) (hv : LvOf bt bL) (k : ∀ G' H', Wd e G' H' M → Same G G' → (∀ b o, b ≠ p → H b = some o → NoT o → H' b = some o) → PenAt p c (n + 1) H' → Q (.bl true) H') : spRtL C pT q [.ref p, .ref a, .ref d] H Q E :=
  ⟨G, p, c, a, d, n, bt, bL, rfl, w.gh, (w.mu p hm).1, hc, P, hn, hL, hb, hv, w.tb _ (by rw [eT]; exact List.mem_singleton.mpr rfl), retT_use w hm eT cov inP fun v G' H' w' s b P' e1 => by subst e1; exact k G' H' w' s b P'⟩
end Q
namespace Q
open PySem PySem.Spec PyProof.Rows L2
/-! ### rows of lives, and what begins -/
structure RwOk (rows : List (Str × List V)) : Prop where
  all : ∀ r ∈ rows, nmOk r.1 = true ∧ r.2.length ≤ 60 ∧ ∀ v ∈ r.2, ∃ k : Int, v = .int k ∧ 1 ≤ k ∧ k ≤ 1000000000000000000000000000000
  nd : (rows.map (·.1)).Nodup
section
variable {K : PySem.W.Frag} {G G' : Hp} {rows : List (Str × List V)} {bt bL bL' : List (Str × List Int)} {ts : List Str} {t : Str} {xs : List V} {Cn Cm : Addr}
theorem rowOf_at (nd : (rows.map (·.1)).Nodup) (h : (t, xs) ∈ rows) : rowOf rows t = some xs := by
  induction rows with
  | nil => cases h
  | cons q rows ih =>
    obtain ⟨n1, n2⟩ := List.nodup_cons.mp (show (q.1 :: rows.map (·.1)).Nodup from nd)
    rcases List.mem_cons.mp h with e | m
    · subst e
      simp [rowOf, List.find?_cons]
    · have ne : ¬ q.1 = t := fun z => n1 (List.mem_map.mpr ⟨_, m, z.symm⟩)
      have a1 : rowOf (q :: rows) t = rowOf rows t := by simp [rowOf, List.find?_cons, ne]
      rw [a1]
      exact ih n2 m
theorem RwOk.rowsOk (h : RwOk rows) : RowsOk K G rows := by
  refine ⟨fun r hr => ?_, fun r hr v hv => ?_, fun r hr => ?_, fun r hr => ?_⟩
  · exact ⟨Nat.le_trans (nmOk_len (h.all r hr).1) (by decide), (h.all r hr).2.1⟩
  · obtain ⟨k, rfl, k0, k1⟩ := (h.all r hr).2.2 v hv
    exact ⟨_, odd_pos (by omega) (by omega)⟩
  · exact ⟨_, odd_name (h.all r hr).1⟩
  · exact nmOk_str (h.all r hr).1
theorem RwOk.fault (h : RwOk rows) (p : ts.Perm (rows.map (·.1))) : faultL Cn Cm rows ts = none := by
  refine faultL_ok fun t ht => ?_
  obtain ⟨r, hr, rfl⟩ := List.mem_map.mp (p.mem_iff.mp ht)
  refine ⟨(h.all r hr).1, r.2, rowOf_at h.nd hr, fun v hv => ?_⟩
  obtain ⟨k, rfl, k0, k1⟩ := (h.all r hr).2.2 v hv
  show (decide (1 ≤ k) && decide (k ≤ 1000000000000000000000000000000)) = true
  rw [Bool.and_eq_true, decide_eq_true_iff, decide_eq_true_iff]
  exact ⟨k0, k1⟩
theorem lvOf_rows (h : RwOk rows) (hp : (rows.map (·.1)).Perm (bt.map (·.1))) (hk : ∀ r ∈ rows, ∀ ns, nsOf bt r.1 = some ns → ∀ k : Int, V.int k ∈ r.2 ↔ k ∈ ns) (p1 : ts.Perm (rows.map (·.1))) (p2 : ts.Pairwise leS) (b : BtOf rows ts bL) : LvOf bt bL := by
  refine ⟨by rw [b.1]; exact p1.trans hp, by rw [b.1]; exact p2, fun q hq => ?_⟩
  obtain ⟨ms, e, h1, h2⟩ := b.2 q hq
  have m : q.1 ∈ rows.map (·.1) := p1.mem_iff.mp (by rw [← b.1]; exact List.mem_map.mpr ⟨q, hq, rfl⟩)
  obtain ⟨r, hr, er⟩ := List.mem_map.mp m
  obtain ⟨ns, hns⟩ := nsOf_in (hp.mem_iff.mp m)
  have e2 : rowOf rows q.1 = some r.2 := rowOf_at h.nd (by rw [← er]; exact hr)
  refine ⟨ms, e, h1, fun k => (h2 k).trans ?_⟩
  rw [e2, hns]
  show V.int k ∈ r.2 ↔ V.int k ∈ ns.map V.int
  rw [hk r hr ns (by rw [er]; exact hns) k, List.mem_map]
  exact ⟨fun hj => ⟨k, hj, rfl⟩, fun ⟨j, hj, e⟩ => by cases e; exact hj⟩
theorem lvOf_one (h : LvOf bt bL) (h' : LvOf bt bL') (ok : BgnOk bt) : bL = bL' := by
  have e : bL.map (·.1) = bL'.map (·.1) := leS_one (h.1.trans h'.1.symm) h.2.1 h'.2.1
  refine List.ext_getElem? fun i => ?_
  have ei : (bL[i]?).map (·.1) = (bL'[i]?).map (·.1) := by rw [← List.getElem?_map, ← List.getElem?_map, e]
  cases e1 : bL[i]? with
  | none =>
    rw [e1] at ei
    cases e2 : bL'[i]? with
    | none => rfl
    | some q => rw [e2] at ei; cases ei
  | some q =>
    obtain ⟨t, ns⟩ := q
    rw [e1] at ei
    cases e2 : bL'[i]? with
    | none => rw [e2] at ei; cases ei
    | some q' =>
      obtain ⟨t', ns'⟩ := q'
      rw [e2] at ei
      have et : t = t' := Option.some.inj ei
      subst et
      obtain ⟨n1, ms, a1, rfl, a3, a4, _⟩ := h.begs ok e1
      obtain ⟨n2, ms', b1, rfl, b3, b4, _⟩ := h'.begs ok e2
      rw [a1] at b1
      cases b1
      rw [ltI_one a3 b3 fun k => (a4 k).trans (b4 k).symm]
theorem LvOf.len (h : LvOf bt bL) : bL.length = bt.length := by
  have := h.1.length_eq
  rwa [List.length_map, List.length_map] at this
def rowsB (bt : List (Str × List Int)) : List (Str × List V) := bt.map fun q => (q.1, q.2.map V.int)
theorem rowsB_fst : (rowsB bt).map (·.1) = bt.map (·.1) := by
  unfold rowsB
  rw [List.map_map]
  rfl
theorem BgnOk.rw (ok : BgnOk bt) : RwOk (rowsB bt) := by
  refine ⟨fun r hr => ?_, by rw [rowsB_fst]; exact ok.nd⟩
  obtain ⟨q, hq, rfl⟩ := List.mem_map.mp hr
  obtain ⟨k1, k2⟩ := ok.ks q hq
  refine ⟨ok.nm q hq, by show (q.2.map V.int).length ≤ 60; rw [List.length_map]; omega, fun v hv => ?_⟩
  obtain ⟨k, hk, rfl⟩ := List.mem_map.mp hv
  exact ⟨k, rfl, k2 k hk⟩
theorem rowsB_has (nd : (bt.map (·.1)).Nodup) : ∀ r ∈ rowsB bt, ∀ ns, nsOf bt r.1 = some ns → ∀ k : Int, V.int k ∈ r.2 ↔ k ∈ ns := fun r hr ns hns k => by
  obtain ⟨q, hq, rfl⟩ := List.mem_map.mp hr
  have e : nsOf bt q.1 = some q.2 := nsOf_at nd hq
  have hns : nsOf bt q.1 = some ns := hns
  rw [e] at hns
  cases hns
  show V.int k ∈ q.2.map V.int ↔ _
  rw [List.mem_map]
  exact ⟨fun ⟨j, hj, e⟩ => by cases e; exact hj, fun hj => ⟨k, hj, rfl⟩⟩
/-! ### lists and tuples handed -/
inductive HdAt (Fr : Addr → Prop) (G : Hp) : List (Key × V) → List (Str × List Int) → Prop
  | nil : HdAt Fr G [] []
  | tup {s : Str} {a : Addr} {ns : List Int} {kvs : List (Key × V)} {bt : List (Str × List Int)} (h : G a = some (.tup (ns.map V.int))) (r : HdAt Fr G kvs bt) : HdAt Fr G ((.inr s, .ref a) :: kvs) ((s, ns) :: bt)
  | lst {s : Str} {a : Addr} {ns : List Int} {kvs : List (Key × V)} {bt : List (Str × List Int)} (h : G a = some (.lst (ns.map V.int))) (f : Fr a) (r : HdAt Fr G kvs bt) : HdAt Fr G ((.inr s, .ref a) :: kvs) ((s, ns) :: bt)
variable {Fr : Addr → Prop} {kvs : List (Key × V)}
theorem HdAt.same (h : HdAt Fr G kvs bt) (s : Same G G') : HdAt Fr G' kvs bt := by
  induction h with
  | nil => exact .nil
  | tup h _ ih => exact .tup (s _ _ h) ih
  | lst h f _ ih => exact .lst (s _ _ h) f ih
theorem HdAt.snocT {s : Str} {a : Addr} {ns : List Int} (r : HdAt Fr G kvs bt) (h : G a = some (.tup (ns.map V.int))) : HdAt Fr G (kvs ++ [(.inr s, .ref a)]) (bt ++ [(s, ns)]) := by
  induction r with
  | nil => exact .tup h .nil
  | tup h2 _ ih => exact .tup h2 ih
  | lst h2 f _ ih => exact .lst h2 f ih
theorem HdAt.snocL {s : Str} {a : Addr} {ns : List Int} (r : HdAt Fr G kvs bt) (h : G a = some (.lst (ns.map V.int))) (f : Fr a) : HdAt Fr G (kvs ++ [(.inr s, .ref a)]) (bt ++ [(s, ns)]) := by
  induction r with
  | nil => exact .lst h f .nil
  | tup h2 _ ih => exact .tup h2 ih
  | lst h2 f _ ih => exact .lst h2 f ih
theorem HdAt.beg (h : HdAt Fr G kvs bt) : BegAt K G kvs (rowsB bt) := by
  induction h with
  | nil => exact .nil
  | tup h _ ih => exact .cons (.inr (SqT.of h)) ih
  | lst h f _ ih => exact .cons (.inl (SqL.of h)) ih
theorem HdAt.keys (h : HdAt Fr G kvs bt) : kvs.map (·.1) = (bt.map (·.1)).map Sum.inr := by
  induction h with
  | nil => rfl
  | tup h _ ih => rw [List.map_cons, List.map_cons, List.map_cons, ih]
  | lst h f _ ih => rw [List.map_cons, List.map_cons, List.map_cons, ih]
theorem HdAt.out (h : HdAt Fr G kvs bt) {s : Str} (n : s ∉ bt.map (·.1)) : valV kvs (.inr s) = none := by
  have go : ∀ (t : Str) (a : Addr) (ns : List Int) (kvs : List (Key × V)) (bt : List (Str × List Int)), (s ∉ bt.map (·.1) → valV kvs (.inr s) = none) → s ∉ ((t, ns) :: bt).map (·.1) → valV ((.inr t, .ref a) :: kvs) (.inr s) = none := fun t a ns kvs bt ih n => by
    have e : ¬ (Sum.inr t : Key) = .inr s := fun z => n (by rw [Sum.inr.inj z]; simp)
    rw [valV_neg (p := ((Sum.inr t : Key), V.ref a)) e]
    exact ih fun m => n (by simp at m ⊢; exact .inr m)
  induction h with
  | nil => rfl
  | tup h _ ih => exact go _ _ _ _ _ ih n
  | lst h f _ ih => exact go _ _ _ _ _ ih n
/-- the same while the lists grow -/
def HdM (Fr : Addr → Prop) (n : Nat) (G : Hp) (kvs : List (Key × V)) : Prop := ∀ kv ∈ kvs, ∃ s a, kv = (.inr s, .ref a) ∧ ((∃ xs, G a = some (.tup xs)) ∨ ∃ xs, G a = some (.lst xs) ∧ xs.length ≤ n ∧ Fr a)
theorem HdAt.grow (h : HdAt Fr G kvs bt) (l : ∀ q ∈ bt, q.2.length ≤ 6) : HdM Fr 6 G kvs := by
  induction h with
  | nil => exact fun kv h => by cases h
  | @tup s a ns kvs bt h _ ih =>
    intro kv hk
    rcases List.mem_cons.mp hk with rfl | hk
    · exact ⟨s, a, rfl, .inl ⟨_, h⟩⟩
    · exact ih (fun q hq => l q (List.mem_cons_of_mem _ hq)) kv hk
  | @lst s a ns kvs bt h f _ ih =>
    intro kv hk
    rcases List.mem_cons.mp hk with rfl | hk
    · exact ⟨s, a, rfl, .inr ⟨_, h, by rw [List.length_map]; exact l _ List.mem_cons_self, f⟩⟩
    · exact ih (fun q hq => l q (List.mem_cons_of_mem _ hq)) kv hk
theorem HdM.same {n : Nat} (h : HdM Fr n G kvs) (s : Same G G') : HdM Fr n G' kvs := fun kv hk => by
  obtain ⟨z, a, e, h⟩ := h kv hk
  refine ⟨z, a, e, ?_⟩
  rcases h with ⟨xs, h⟩ | ⟨xs, h, l, f⟩
  · exact .inl ⟨xs, s _ _ h⟩
  · exact .inr ⟨xs, s _ _ h, l, f⟩
theorem HdM.more {n m : Nat} (h : HdM Fr n G kvs) (l : n ≤ m) : HdM Fr m G kvs := fun kv hk => by
  obtain ⟨z, a, e, h⟩ := h kv hk
  refine ⟨z, a, e, ?_⟩
  rcases h with h | ⟨xs, h, l2, f⟩
  · exact .inl h
  · exact .inr ⟨xs, h, Nat.le_trans l2 l, f⟩
theorem HdM.put {n : Nat} {q : Addr} {xs : List V} {y : V} (h : HdM Fr n G kvs) (hq : G q = some (.lst xs)) (l : xs.length ≤ n) (f : Fr q) : HdM Fr (n + 1) (upd G q (.lst (xs ++ [y]))) kvs := fun kv hk => by
  obtain ⟨z, a, e, h⟩ := h kv hk
  refine ⟨z, a, e, ?_⟩
  by_cases c : a = q
  · subst c
    exact .inr ⟨_, upd_same, by simp; omega, f⟩
  · rcases h with ⟨xs, h⟩ | ⟨xs, h, l2, f⟩
    · exact .inl ⟨xs, by rw [upd_ne c]; exact h⟩
    · exact .inr ⟨xs, by rw [upd_ne c]; exact h, by omega, f⟩
end
/-! ### d != e of dicts, one of them empty -/
section
variable {P : Program} {w : World} {A : Around} {s : Shared}
theorem rcNe_dicts {a b : Addr} {ka kb : List (Key × Value)} {r : Bool} (ha : (a == sysModules) = false) (hb : (b == sysModules) = false)
    (da : s.heap.DictOf (mixKind P w) a ka) (db : s.heap.DictOf (mixKind P w) b kb) (hu : A.units < cLine) (hits : ka.length = kb.length → PySem.W.KeqHitsP P w A.in1 s kb ka r) (E Q : Value → Shared → Prop) (h : Q (.bool (!(ka.length == kb.length && r))) s) : wpAny (model P w) A (richCompare .NotEq (.ref a) (.ref b)) Q E s := by
  refine wpAny_richCompare_same_room (op := .NotEq) da.typeIs db.typeIs PySem.F.slot_dict_ne (wpAny_call_entry PySem.F.slot_dict_ne da.typeIs PySem.F.entry_dict_ne ?_ (PySem.F.args_dict_ne_2 _ _)) hu
  show wpAny _ _ (Builtin.Dict.dictSlotArgs "__ne__" ⟨[.ref a, .ref b], []⟩ >>= _) _ _ s
  refine wpAny_bind ?_
  unfold Builtin.Dict.dictSlotArgs
  refine wpAny_bind (wpAny_notOrdered_dict da.typeIs ?_)
  show wpAny _ _ (pure (Value.ref a, Value.ref b)) _ _ s
  refine wpAny_pure ?_
  refine wpAny_bind (wpAny_isInstance (T := "dict") db.typeIs PySem.F.sub_dict_dict ?_)
  simp only [Bool.not_true, Bool.false_eq_true, if_false]
  refine wpAny_bind (wpAny_pure (wpAny_bind (wpAny_pure ?_)))
  refine wpAny_bind (PySem.W.samePairsP ha hb da db hits ?_)
  refine wpAny_pure ⟨_, rfl, ?_, ?_⟩
  · exact fun x => nomatch x
  · simpa using h
end
def rNeK0 : R2 := fun x y H Q => ∃ (a b : Addr) (ka : List (Key × V)), x = .ref a ∧ y = .ref b ∧ Rd H a (.dK ka) ∧ Rd H b (.dK []) ∧ Q (.bl (!ka.isEmpty)) H
theorem q_neK0 {X : Cx} (hu : X.A.units + 64 < cLine) : OpR X (compareOp .NotEq) rNeK0 := by
  intro pins s σ H x y v u Q I rx ry h
  obtain ⟨a, b, ka, rfl, rfl, ha, hb, q⟩ := h
  cases (show v = Value.ref a from rx)
  cases (show u = Value.ref b from ry)
  obtain ⟨_, sa, va, rva, da⟩ := dk_rd I.hok ha
  obtain ⟨_, sb, vb, rvb, db⟩ := dk_rd I.hok hb
  have e1 := rva.length
  have e2 := rvb.length
  have vb0 : vb = [] := List.length_eq_zero_iff.mp (by rw [← e2]; rfl)
  subst vb0
  show wpAny _ _ (richCompare .NotEq (.ref a) (.ref b)) _ _ _
  refine rcNe_dicts (r := true) sa sb da db (by omega) (fun e => ?_) _ _ ?_
  · have va0 : va = [] := List.length_eq_zero_iff.mp (by rw [e]; rfl)
    subst va0
    exact .nil
  · cases ka with
    | nil =>
      have va0 : va = [] := List.length_eq_zero_iff.mp (by rw [← e1]; rfl)
      subst va0
      exact ⟨.bl false, H, I, rfl, q⟩
    | cons k r =>
      have : (va.length == ([] : List (Key × Value)).length) = false := by
        rw [beq_eq_false_iff_ne]
        intro z
        rw [z] at e1
        cases e1
      rw [this]
      exact ⟨.bl true, H, I, rfl, q⟩
theorem r_neK0 {H : Hp} {a b : Addr} {ka : List (Key × V)} {Q : VK} (ha : Rd H a (.dK ka)) (hb : Rd H b (.dK [])) (q : Q (.bl (!ka.isEmpty)) H) : rNeK0 (.ref a) (.ref b) H Q := ⟨a, b, ka, rfl, rfl, ha, hb, q⟩
/-! ### == of lives: what the class must answer -/
structure LvE (K : PySem.W.Frag) (C : Addr) : Prop where
  d : PySem.W.findIn K (.ref C) "__class__" = some (some (.builtin "object.__class__"))
  n : PySem.W.specialIn K (.builtin "object.__class__") "__get__" = some (some (.builtin "getset_descriptor.__get__"))
  tk : PySem.W.takesIn K (.builtin "object.__class__") = some true
  m : PySem.W.mroIn K C (.type "object") = some true
  me : PySem.W.kitOne K (.ref C) (.ref C) = some true
  tu : PySem.W.kitOne K (.type "tuple") (.ref C) = some false
  di : PySem.W.kitOne K (.type "dict") (.ref C) = some false
  f1 : PySem.W.notFirst K C (.ref C) = true
  f2 : PySem.W.notFirst K C (.type "tuple") = true
  f3 : PySem.W.notFirst K C (.type "dict") = true
def lveB (K : PySem.W.Frag) (C : Addr) : Bool := He.eqO (PySem.W.findIn K (.ref C) "__class__") (some (some (.builtin "object.__class__"))) && decide ((PySem.W.specialIn K (.builtin "object.__class__") "__get__" = some (some (.builtin "getset_descriptor.__get__")) ∧ PySem.W.takesIn K (.builtin "object.__class__") = some true ∧ PySem.W.mroIn K C (.type "object") = some true) ∧
  (PySem.W.kitOne K (.ref C) (.ref C) = some true ∧ PySem.W.kitOne K (.type "tuple") (.ref C) = some false ∧ PySem.W.kitOne K (.type "dict") (.ref C) = some false) ∧ PySem.W.notFirst K C (.ref C) = true ∧ PySem.W.notFirst K C (.type "tuple") = true ∧ PySem.W.notFirst K C (.type "dict") = true)
theorem lveB_ok {K : PySem.W.Frag} {C : Addr} (h : lveB K C = true) : LvE K C := by
  obtain ⟨h0, h1⟩ := He.ba h
  obtain ⟨⟨a1, a2, a3⟩, ⟨b1, b2, b3⟩, c1, c2, c3⟩ := of_decide_eq_true h1
  exact ⟨He.eqO_ok h0, a1, a2, a3, b1, b2, b3, c1, c2, c3⟩
theorem LvE.ty {K : PySem.W.Frag} {C : Addr} (h : LvE K C) (S : LvC K C) (G : Hp) (c : Addr) (bt : List (Str × List Int)) (hl : LivesAt C G c bt) : TyX K G (.ref c) (.ref C) := by
  obtain ⟨dx, D, od, kvs, h1, _⟩ := hl
  exact .base (.ins h1 S.c h.d h.n h.tk h.m)
end Q
namespace Q
open PySem PySem.Spec PyProof.Rows L2
/-- a dict is locked for one statement -/
def LockD (D : Ends) (d : Addr) (o : HO) (u : HO) : Ends := ⟨fun σ' H' => H' d = some o ∧ D.nx σ' (upd H' d u), fun v H' => H' d = some o ∧ D.rt v (upd H' d u), fun σ' H' => H' d = some o ∧ D.bk σ' (upd H' d u), fun σ' H' => H' d = some o ∧ D.ct σ' (upd H' d u)⟩
theorem r_lockS {t : TS} {D : Ends} {σ : L2.St} {e : En} {G H : Hp} {M : List Addr} {d : Addr} {kvs : List (Key × V)} (w : Wd e G H (d :: M)) (h0 : e.H0 d = none) (h : H d = some (.dK kvs))
    (q : ∀ od G' H', Wd e G' H' M → Same G G' → But d H H' → G' d = some (.frz od (.dK kvs)) → t (LockD D d (.frz od (.dK kvs)) (.dK kvs)) σ H') : tLock t D σ H := by
  refine ⟨d, _, h, trivial, fun od => ?_⟩
  have w1 := wd_mut (o := .frz od (.dK kvs)) w List.mem_cons_self
  obtain ⟨w2, s2⟩ := wd_freeze w1 upd_same h0
  exact q od _ _ w2 s2 but_upd upd_same
theorem r_lockG {t : TS} {D : Ends} {σ : L2.St} {e : En} {G H : Hp} {M : List Addr} {d : Addr} {kvs : List (Key × V)} (w : Wd e G H M) (h0 : e.H0 d = none ∧ e.G0 d = none) (h : G d = some (.dK kvs))
    (q : ∀ od G' H', Wd e G' H' M → G' = upd G d (.frz od (.dK kvs)) → But d H H' → t (LockD D d (.frz od (.dK kvs)) (.dK kvs)) σ H') : tLock t D σ H :=
  ⟨d, _, w.le _ _ h, trivial, fun od => q od _ _ (wd_lockG w h h0) rfl but_upd⟩
theorem r_unlockN {D : Ends} {σ : L2.St} {e : En} {G H : Hp} {M : List Addr} {d : Addr} {od : Obj} {kvs : List (Key × V)} (w : Wd e G H M) (h0 : e.H0 d = none ∧ e.G0 d = none) (h : G d = some (.frz od (.dK kvs)))
    (q : ∀ H', Wd e (upd G d (.dK kvs)) H' M → But d H H' → D.nx σ H') : (LockD D d (.frz od (.dK kvs)) (.dK kvs)).nx σ H := ⟨w.le _ _ h, q _ (wd_unlockG w h h0) but_upd⟩
theorem DrAt.nd (K : PySem.W.Frag) {G : Hp} {ps : List Addr} {kvs : List (Key × V)} {rows : List (Str × List V)} (h : DrAt G ps kvs rows) (nd : (rows.map (·.1)).Nodup) : (kvs.map (·.1)).Nodup ∧ kvs.length = rows.length := by
  have b : BegAt K G kvs rows := h.beg
  exact ⟨by rw [b.keysR]; exact nodup_inr nd, b.len⟩
end Q
namespace Q
open PySem PySem.Spec PyProof.Rows L2
theorem HdM.off {Fr : Addr → Prop} {n : Nat} {G : Hp} {kvs : List (Key × V)} {q : Addr} {o : HO} (h : HdM Fr n G kvs) (nt : ∀ xs, G q ≠ some (.tup xs)) (nl : ∀ xs, G q ≠ some (.lst xs)) : HdM Fr n (upd G q o) kvs := fun kv hk => by
  obtain ⟨z, a, e, h⟩ := h kv hk
  refine ⟨z, a, e, ?_⟩
  rcases h with ⟨xs, h⟩ | ⟨xs, h, l2, f⟩
  · exact .inl ⟨xs, by rw [upd_ne (fun c => nt xs (by rw [← c]; exact h))]; exact h⟩
  · exact .inr ⟨xs, by rw [upd_ne (fun c => nl xs (by rw [← c]; exact h))]; exact h, l2, f⟩
theorem valV_here {kvs : List (Key × V)} {j : Nat} {k : Key} {v : V} (nd : (kvs.map (·.1)).Nodup) (h : kvs[j]? = some (k, v)) : valV kvs k = some v := by
  induction kvs generalizing j with
  | nil => cases h
  | cons p kvs ih =>
    obtain ⟨n1, n2⟩ := List.nodup_cons.mp (show (p.1 :: kvs.map (·.1)).Nodup from nd)
    cases j with
    | zero =>
      cases (show p = (k, v) from Option.some.inj h)
      exact valV_pos rfl
    | succ j =>
      have h : kvs[j]? = some (k, v) := h
      have ne : ¬ p.1 = k := fun z => n1 (List.mem_map.mpr ⟨_, List.mem_of_getElem? h, z.symm⟩)
      rw [valV_neg ne]
      exact ih n2 h
theorem BegAt.snoc {K : PySem.W.Frag} {G : Hp} {kvs : List (Key × V)} {rows : List (Str × List V)} {s : Str} {a : Addr} {xs : List V} (r : BegAt K G kvs rows) (h : SqA K G a xs) : BegAt K G (kvs ++ [(.inr s, .ref a)]) (rows ++ [(s, xs)]) := by
  induction r with
  | nil => exact .cons h .nil
  | cons h2 _ ih => exact .cons h2 ih
theorem begs_len {xs : List V} {ns : List Int} (h : Begs xs ns) : ns.length ≤ xs.length + 1 := by
  obtain ⟨ms, rfl, h1, h2⟩ := h
  have nd : ms.Nodup := h1.imp fun h e => by omega
  have nd2 : (ms.map V.int).Nodup := List.pairwise_map.mpr (nd.imp fun h e => h (by injection e))
  have := nd_len nd2 fun v hv => by
    obtain ⟨k, hk, rfl⟩ := List.mem_map.mp hv
    exact (h2 k).mp hk
  rw [List.length_map] at this
  rw [List.length_cons]
  omega
theorem btOf_len {rows : List (Str × List V)} {ts : List Str} {bL : List (Str × List Int)} (ok : RwOk rows) (p : ts.Perm (rows.map (·.1))) (b : BtOf rows ts bL) : ∀ q ∈ bL, q.2.length ≤ 1000 := fun q hq => by
  have m : q.1 ∈ rows.map (·.1) := p.mem_iff.mp (by rw [← b.1]; exact List.mem_map.mpr ⟨q, hq, rfl⟩)
  obtain ⟨r, hr, er⟩ := List.mem_map.mp m
  have h := begs_len (b.2 q hq)
  rw [rowOf_at ok.nd (show (q.1, r.2) ∈ rows by rw [← er]; exact hr)] at h
  have := (ok.all r hr).2.1
  have h : q.2.length ≤ r.2.length + 1 := h
  omega
def rowsR (bt : List (Str × List Int)) : List (Str × List V) := bt.reverse.map fun q => (q.1, (q.2.map V.int).reverse)
section
variable {bt : List (Str × List Int)}
theorem rowsR_fst : (rowsR bt).map (·.1) = (bt.map (·.1)).reverse := by
  unfold rowsR
  rw [List.map_map, ← List.map_reverse]
  rfl
theorem BgnOk.rwR (ok : BgnOk bt) : RwOk (rowsR bt) := by
  refine ⟨fun r hr => ?_, by rw [rowsR_fst]; exact List.pairwise_reverse.mpr (ok.nd.imp fun h e => h e.symm)⟩
  obtain ⟨q, hq, rfl⟩ := List.mem_map.mp hr
  have hq := List.mem_reverse.mp hq
  obtain ⟨k1, k2⟩ := ok.ks q hq
  refine ⟨ok.nm q hq, by show ((q.2.map V.int).reverse).length ≤ 60; rw [List.length_reverse, List.length_map]; omega, fun v hv => ?_⟩
  obtain ⟨k, hk, rfl⟩ := List.mem_map.mp (List.mem_reverse.mp hv)
  exact ⟨k, rfl, k2 k hk⟩
theorem rowsR_has (nd : (bt.map (·.1)).Nodup) : ∀ r ∈ rowsR bt, ∀ ns, nsOf bt r.1 = some ns → ∀ k : Int, V.int k ∈ r.2 ↔ k ∈ ns := fun r hr ns hns k => by
  obtain ⟨q, hq, rfl⟩ := List.mem_map.mp hr
  have hq := List.mem_reverse.mp hq
  have e : nsOf bt q.1 = some q.2 := nsOf_at nd hq
  have hns : nsOf bt q.1 = some ns := hns
  rw [e] at hns
  cases hns
  show V.int k ∈ (q.2.map V.int).reverse ↔ _
  rw [List.mem_reverse, List.mem_map]
  exact ⟨fun ⟨j, hj, e⟩ => by cases e; exact hj, fun hj => ⟨k, hj, rfl⟩⟩
end
def nk (k : Nat) : Str := Str.ofString "n" ++ Str.ofString (toString (k : Int))
def wsN : List Str := (List.range 13).map nk
theorem wsN_ok : (∀ z ∈ wsN, nmOk z = true) ∧ wsN.Nodup ∧ wsN.length = 13 := by decide +kernel
theorem word_new {bt : List (Str × List Int)} (few : bt.length ≤ 12) : wsN.filter (fun z => (nsOf bt z).isNone) ≠ [] := fun e => by
  have out := List.filter_eq_nil_iff.mp e
  have := nd_len wsN_ok.2.1 (ys := bt.map (·.1)) fun z hz => by
    have h := out z hz
    cases e2 : nsOf bt z with
    | none => rw [e2] at h; exact absurd rfl h
    | some ns => exact List.mem_map.mpr ⟨_, nsOf_mem e2, rfl⟩
  rw [List.length_map, wsN_ok.2.2] at this
  omega
/-- each with one more -/
def MoreAt : List (Str × List V) → List (Str × List Int) → Prop := Paired fun r q => r.1 = q.1 ∧ ∃ k : Int, r.2 = (q.2 ++ [k]).map V.int ∧ 1 ≤ k ∧ k < 99 ∧ k ∉ q.2
section
variable {rows : List (Str × List V)} {bt bL bL' : List (Str × List Int)} {ts : List Str}
theorem MoreAt.fst (h : MoreAt rows bt) : rows.map (·.1) = bt.map (·.1) := by
  induction h with
  | nil => rfl
  | cons h _ ih => rw [List.map_cons, List.map_cons, ih, h.1]
theorem MoreAt.mem (h : MoreAt rows bt) : ∀ r ∈ rows, ∃ q ∈ bt, r.1 = q.1 ∧ ∃ k : Int, r.2 = (q.2 ++ [k]).map V.int ∧ 1 ≤ k ∧ k < 99 ∧ k ∉ q.2 := by
  induction h with
  | nil => exact fun r h => by cases h
  | @cons r q _ _ h _ ih =>
    intro r' hr
    rcases List.mem_cons.mp hr with rfl | hr
    · exact ⟨q, List.mem_cons_self, h⟩
    · obtain ⟨q', h1, h2⟩ := ih r' hr
      exact ⟨q', List.mem_cons_of_mem _ h1, h2⟩
theorem MoreAt.rw (h : MoreAt rows bt) (ok : BgnOk bt) : RwOk rows := by
  refine ⟨fun r hr => ?_, by rw [h.fst]; exact ok.nd⟩
  obtain ⟨q, hq, e1, k, e2, k1, k2, k3⟩ := h.mem r hr
  obtain ⟨l1, l2⟩ := ok.ks q hq
  refine ⟨by rw [e1]; exact ok.nm q hq, by rw [e2, List.length_map, List.length_append]; simp; omega, fun v hv => ?_⟩
  rw [e2] at hv
  obtain ⟨j, hj, rfl⟩ := List.mem_map.mp hv
  refine ⟨j, rfl, ?_⟩
  rcases List.mem_append.mp hj with hj | hj
  · exact l2 j hj
  · rw [List.mem_singleton.mp hj]; omega
theorem more_ne (h : MoreAt rows bt) (ok : BgnOk bt) (hV : LvOf bt bL) (p : ts.Perm (rows.map (·.1))) (b : BtOf rows ts bL') (ne : bt ≠ []) : eqLv bL bL' = false := by
  obtain ⟨q, hq⟩ : ∃ q, bL[0]? = some q := by
    have l := hV.len
    cases e : bL[0]? with
    | some q => exact ⟨q, rfl⟩
    | none =>
      have := List.getElem?_eq_none_iff.mp e
      cases bt with
      | nil => exact absurd rfl ne
      | cons a r => rw [List.length_cons] at l; omega
  obtain ⟨t, ns'⟩ := q
  obtain ⟨ns, ms, h1, rfl, h3, h4, _, h6, _⟩ := hV.begs ok hq
  refine eqLv_one (q := (t, 0 :: ms)) (List.mem_of_getElem? hq) fun e => ?_
  have m' := nsOf_mem e
  obtain ⟨ms', e1, a1, a2⟩ := b.2 _ m'
  injection e1 with _ e1
  subst e1
  have mt : t ∈ rows.map (·.1) := p.mem_iff.mp (by rw [← b.1]; exact List.mem_map.mpr ⟨_, m', rfl⟩)
  obtain ⟨r, hr, er⟩ := List.mem_map.mp mt
  obtain ⟨q2, hq2, f1, k, f2, f3, f4, f5⟩ := h.mem r hr
  have e3 : nsOf bt t = some q2.2 := nsOf_at ok.nd (show (t, q2.2) ∈ bt by rw [← er, f1]; exact hq2)
  rw [h1] at e3
  cases e3
  have kin : k ∈ ms := (a2 k).mpr (by
    rw [rowOf_at (h.rw ok).nd (show (t, r.2) ∈ rows by rw [← er]; exact hr)]
    show V.int k ∈ r.2
    rw [f2]
    simp)
  have := (h4 k).mp (List.mem_cons_of_mem _ kin)
  rcases List.mem_cons.mp this with z | z
  · omega
  · exact f5 z
end
end Q
namespace Q
open PySem PySem.Spec PyProof.Rows L2
theorem r_notO {C : Addr} {sp : Sp} {E : XK} {ta : TE} {σ : L2.St} {H : Hp} {Q : VK} (q : ta σ H fun x H1 => rTruO C sp E x H1 fun b H2 => Q (.bl (!b)) H2) : tNotO C sp E ta σ H Q := q
end Q
namespace Q
open PySem PySem.Spec PyProof.Rows L2
/-! ### a def of a class that names its class: super().__init__(..) as a statement -/
structure FnScS (N P : List Str) (sc : Scope) : Prop where
  kind : sc.kind = .function
  co : sc.isCoroutine = false
  gen : sc.isGenerator = false
  nd : N.Nodup
  pre : N.take P.length = P
  par : ∀ x ∈ P, sc.names.lookup x = some .local
  nocell : ∀ y ∈ sc.names, y.2 ≠ .cell
  free : ∀ y ∈ sc.names, y.2 = .free → y.1 = "__class__"
  kc : sc.names.lookup ("__class__" : Str) = some NameKind.free
  ks : sc.names.lookup ("super" : Str) = some NameKind.globalImplicit
abbrev envS (qual : Str) (sc : Scope) (L f : Addr) (cd : Value) (cc : Addr) : Env := PySem.W.envX qual sc L f cd [("__class__", cc)]
abbrev fnS (x qual : Str) (params : Arguments) (body : List Stmt) (sc : Scope) (cc : Addr) (dV kV doc pm : Value) (an : Option Addr) (cdv ct : Value) : FuncData := PySem.W.fnX x qual params body sc [("__class__", cc)] dV kV doc pm an cdv ct
def cxS (CX : CXT) (P : Program) (w : World) (K : PySem.W.Frag) (mg : Str → Option Value) (base : Heap) (N : List Str) (qual : Str) (sc : Scope) (f : Addr) (cd : Value) (cc : Addr) (A : Around) (outer : List Env) (s : Shared) (H : Hp) (E : XK) : Cx where
  prog := P
  w := w
  K := K
  mg := mg
  base := base
  A := A.deeper (envS qual sc s.heap.objs.size f cd cc)
  N := N
  s_0 := s
  H_0 := H
  env := envS qual sc s.heap.objs.size f cd cc
  outer := outer
  stack := envS qual sc s.heap.objs.size f cd cc :: outer
  ex := []
  calm := true
  fn := fun _ => false
  pn := []
  xe := fun e s' => wpAny (model P w) (A.deeper (envS qual sc s.heap.objs.size f cd cc)) (leaving (envS qual sc s.heap.objs.size f cd cc) e) (fun _ s'' => CX outer H s E e s'') (fun e' s'' => CX outer H s E e' s'') s'
theorem lookup_nd {α : Type} : ∀ {l : List (Str × α)} {k : Str} {v : α}, (l.map (·.1)).Nodup → (k, v) ∈ l → l.lookup k = some v
  | [], _, _, _, h => by cases h
  | (a, b) :: l, k, v, nd, h => by
    obtain ⟨n1, n2⟩ := List.nodup_cons.mp (show (a :: l.map (·.1)).Nodup from nd)
    rcases List.mem_cons.mp h with e | h
    · cases e
      simp [List.lookup_cons]
    · have ne : ¬ k = a := fun z => n1 (by rw [← z]; exact List.mem_map.mpr ⟨_, h, rfl⟩)
      rw [List.lookup_cons, show (k == a) = false from beq_eq_false_iff_ne.mpr ne]
      exact lookup_nd n2 h
theorem zip_fst {α β : Type} : ∀ {xs : List α} {ys : List β}, xs.length = ys.length → (xs.zip ys).map (·.1) = xs
  | [], [], _ => rfl
  | x :: xs, y :: ys, h => by rw [List.zip_cons_cons, List.map_cons, zip_fst (by simpa using h)]
theorem zip_mem {α β : Type} : ∀ {xs : List α} {ys : List β} {i : Nat} {x : α} {y : β}, xs[i]? = some x → ys[i]? = some y → (x, y) ∈ xs.zip ys
  | a :: xs, b :: ys, 0, x, y, h1, h2 => by cases h1; cases h2; exact List.mem_cons_self
  | a :: xs, b :: ys, i + 1, x, y, h1, h2 => List.mem_cons_of_mem _ (zip_mem (i := i) (by simpa using h1) (by simpa using h2))
theorem inv_startS {CX : CXT} {P : Program} {w : World} {K : PySem.W.Frag} {mg : Str → Option Value} {base : Heap} {N ps : List Str} {qual : Str} {sc : Scope} {f cc : Addr} {cd : Value} {A : Around} {outer : List Env} {s : Shared} {H : Hp} {E : XK} {us : List Value} {vs : List V} {h1 : Heap} {tk : Nat}
    {cl : Value} {cld : Option Addr} {cv : Option Value} {csl : Array (Option Value)} (S : FnScS N ps sc) (hcell : K.lookup cc = some ⟨cl, cld, .cell cv, csl⟩) (hd : A.handled = none) (e0 : Env0 P w K mg base A outer s H) (hl : vs.length = ps.length) (r : Vals vs us)
    (hns : h1.Ns s.heap.objs.size (fun x => (ps.zip us).reverse.lookup x)) (hk : ∀ b o, s.heap.get? b = some o → h1.get? b = some o) :
    Inv (cxS CX P w K mg base N qual sc f cd cc A outer s H E) [] (L2.start N vs) H { s with heap := h1, toks := tk } := by
  have KX : K.In s.heap := e0.mod.kin.keeps fun b o e => (e0.bs b o e).1
  have hb : base.get? cc = some ⟨cl, cld, .cell cv, csl⟩ := e0.mod.kin _ _ hcell
  have one : ∀ x c, (cxS CX P w K mg base N qual sc f cd cc A outer s H E).env.cells.lookup x = some c → x = "__class__" ∧ c = cc := fun x c h => by
    have h : ([("__class__", cc)] : List (Str × Addr)).lookup x = some c := h
    rw [List.lookup_cons] at h
    cases e : x == ("__class__" : Str) with
    | true => rw [e] at h; exact ⟨eq_of_beq e, (Option.some.inj h).symm⟩
    | false => rw [e] at h; cases h
  have noA : ∀ b : Addr, b ∉ (cxS CX P w K mg base N qual sc f cd cc A outer s H E).ex := fun b z => absurd (show b ∈ ([] : List Addr) from z) (by simp)
  have ndP : ps.Nodup := by rw [← S.pre]; exact S.nd.sublist (List.take_sublist _ _)
  have lu : us.length = ps.length := by rw [← r.length]; exact hl
  have hpl : ps.length ≤ N.length := by have := congrArg List.length S.pre; rw [List.length_take] at this; omega
  refine ⟨⟨e0.mod, S.kind, rfl, rfl, Nat.le_refl _, fun y z c h1 h2 => ?_, fun y hy => ?_, fun y c h => (by cases h), fun _ => hd, Around.frames_deeper e0.frames, .inr ⟨rfl, rfl⟩, fun b z => absurd z (noA b), e0.bs, e0.bsz, fun b _ _ => noA b, fun b z => absurd z (noA b), e0.funs, e0.frf⟩,
    rfl, e0.bare, Un.kept hk, ⟨_, hns, fun i y v h1 h2 h3 => ?_⟩, fun y c h => ?_, e0.hok.fresh (Nat.le_refl _), fun y c h => ?_, fun p hp => absurd (show p ∈ ([] : List (Addr × Obj)) from hp) (by simp), e0.hok.kept hk, ?_⟩
  · rw [(one _ _ h1).1, (one _ _ h2).1]
  · have hy : sc.names.lookup y = some .cell ∨ sc.names.lookup y = some .free := hy
    rcases hy with hy | hy
    · exact absurd rfl (S.nocell _ (PySem.mem_of_lookup hy))
    · have e := S.free _ (PySem.mem_of_lookup hy) rfl
      have e : y = "__class__" := e
      subst e
      exact ⟨cc, rfl⟩
  · have hi : i < vs.length := by
      unfold L2.start at h2
      by_cases hi : i < vs.length
      · exact hi
      · rw [List.getElem?_append_right (by simpa using hi)] at h2
        rw [List.getElem?_replicate] at h2
        split at h2 <;> cases h2
    have ha : vs[i]? = some v := by
      unfold L2.start at h2
      rw [List.getElem?_append_left (by simpa using hi), List.getElem?_map] at h2
      cases e : vs[i]? with
      | none => rw [e] at h2; cases h2
      | some a => rw [e] at h2; cases h2; rfl
    obtain ⟨u, hu, rv⟩ := r.get ha
    have hp : ps[i]? = some y := by
      rw [← S.pre, List.getElem?_take_of_lt (by omega)]; exact h1
    refine ⟨u, rv, .inl ⟨S.par y (List.mem_of_getElem? hp), lookup_nd ?_ (List.mem_reverse.mpr (zip_mem hp hu))⟩⟩
    rw [List.map_reverse, zip_fst lu.symm]
    exact List.pairwise_reverse.mpr (ndP.imp fun h e => h e.symm)
  · obtain ⟨_, rfl⟩ := one _ _ h
    exact ⟨cv, _, hk _ _ (KX _ _ hcell), rfl⟩
  · obtain ⟨_, rfl⟩ := one _ _ h
    exact (e0.bs _ _ hb).2
  · unfold L2.start
    show _ = N.length
    rw [List.length_append, List.length_map, List.length_replicate]
    omega
/-- a suite of the def itself: its last part, at the def's own level -/
structure PSsF (X : Cx) (full st : List Stmt) (t : TS) : Prop where
  run : ∀ (pins : List (Addr × Obj)) (s : Shared) (σ : L2.St) (H : Hp) (D : Ends), Inv X pins σ H s → t D σ H → _root_.PySem.wpAt (model X.prog X.w) X.A (.func full X.env) (execs st X.env) (SP X pins D) X.xe s
theorem fnS_of {CX : CXT} {P : Program} {w : World} {K : PySem.W.Frag} {mg : Str → Option Value} {base : Heap} {k : Nat} {f cc : Addr} {name qual : Str} {params : Arguments} {body : List Stmt} {sc : Scope} {dV kV doc pm cdv ct oc : Value} {an od : Option Addr}
    {osl : Array (Option Value)} {N ps : List Str} {sp : Sp} {cl : Value} {cld : Option Addr} {cv : Option Value} {csl : Array (Option Value)} (lk : K.lookup f = some ⟨oc, od, .func (fnS name qual params body sc cc dV kV doc pm an cdv ct), osl⟩) (hcd : PySem.W.codeIn K cdv qual = true)
    (hcell : K.lookup cc = some ⟨cl, cld, .cell cv, csl⟩) (S : FnScS N ps sc) (len : ∀ vs H Q E, sp vs H Q E → vs.length = ps.length)
    (hbody : ∀ (A : Around) (outer : List Env) (s : Shared) (H : Hp) (vs : List V) (Q : VK) (E : XK), Room k (A.deeper (envS qual sc s.heap.objs.size f cdv cc)) → sp vs H Q E →
      ∃ t, PSsF (cxS CX P w K mg base N qual sc f cdv cc A outer s H E) body body t ∧ t { nx := fun _ H' => Q .non H', rt := Q } (L2.start N vs) H) :
    FnOk P w K mg base CX (k + 1) f (fnS name qual params body sc cc dV kV doc pm an cdv ct) ps sp := by
  refine ⟨len, fun A outer s H args us vs Q E hr e0 hb r hsp => ?_⟩
  have hl := len _ _ _ _ hsp
  have KX : K.In s.heap := e0.mod.kin.keeps fun b o e => (e0.bs b o e).1
  have lim : s.heap.NoLimit := e0.mod.nolimit.keeps fun b o e => (e0.bs b o e).1
  have hloc : ∀ y ∈ ps.zip us, sc.names.lookup y.1 = some .local := fun ⟨n, v⟩ hy => S.par n (List.of_mem_zip hy).1
  refine codeAny_call_function hr.depth (KX _ _ lk) rfl S.co S.gen rfl (PySem.W.codeRec_of KX hcd) (hb _ _ _ _ ?_)
  refine wpAny_newFunctionEnv S.nocell hloc (fun h1 hns hsb => ?_) S.kind
  have hk : ∀ b o, s.heap.get? b = some o → h1.get? b = some o := fun b o e => hsb.extBut b o (Nat.ne_of_lt (Heap.lt_size e)) (Heap.get?_push_of_some _ e)
  refine ⟨lim.keeps hk, ks_codeAny_funcAt ?_⟩
  obtain ⟨t, ht, hq⟩ := hbody A outer s H vs Q E (hr.deeper _) hsp
  have I : Inv (cxS CX P w K mg base N qual sc f cdv cc A outer s H E) [] (L2.start N vs) H { s with heap := h1, toks := s.toks + (ps.zip us).length } := inv_startS S hcell hr.hd e0 hl r hns hk
  refine _root_.PySem.wpAt_mono (ht.run [] _ (L2.start N vs) H _ I hq) (fun fl s' hs => ?_) fun e s' hs => hs
  have fin : ∀ {σ' : L2.St} {H' : Hp} {v : V} {u : Value}, Inv (cxS CX P w K mg base N qual sc f cdv cc A outer s H E) [] σ' H' s' → RelV v u → Q v H' → CE outer P w H s Q u s' :=
    fun {σ' H' v u} J rv q => ⟨v, H', J.os, J.bare, J.base, J.hok, rv, q⟩
  cases fl with
  | ret u =>
    obtain ⟨v, σ', H', J, rv, q⟩ := hs
    exact fin J rv q
  | next =>
    obtain ⟨σ', H', J, q⟩ := hs
    exact fin (v := V.non) (u := Value.none) J rfl q
  | brk =>
    obtain ⟨_, _, _, q⟩ := hs
    exact False.elim q
  | cont =>
    obtain ⟨_, _, _, q⟩ := hs
    exact False.elim q
section
variable {X : Cx} {full rest : List Stmt} {st : Stmt} {t u : TS}
theorem pssF_of {sts : List Stmt} (h : PSs X sts t) : PSsF X full sts t := ⟨fun pins s σ H D I q => _root_.PySem.wpAt_of_wpAny (h.run pins s σ H D I q)⟩
theorem pssF_cons (h1 : PS X st t) (h2 : PSsF X full rest u) : PSsF X full (st :: rest) (tSeq t u) := by
  refine ⟨fun pins s σ H D I h => ?_⟩
  refine ks_wpAt_execs_cons (_root_.PySem.wpAt_of_wpAny (thn (h1.run pins s σ H { D with nx := u D } I h) fun f s1 q => ?_))
  cases f with
  | next =>
    obtain ⟨σ', H', I', q⟩ := q
    exact h2.run pins s1 σ' H' D I' q
  | ret v => exact q
  | brk => exact q
  | cont => exact q
end
end Q
namespace Q
open PySem PySem.Spec PyProof.Rows L2
/-! ### super().__init__(..) -/
/-- a def that names its class D, as it stands -/
structure SupD (P : Program) (K : PySem.W.Frag) (x qual : Str) (st : Stmt) (D f : Addr) (fd : FuncData) : Prop where
  ex : ∃ (oc : Value) (od : Option Addr) (kV doc pm : Value) (an : Option Addr) (cda : Addr) (ct : Value) (osl : Array (Option Value)) (cc : Addr) (ccl : Value) (ccd : Option Addr) (vs : Array Value) (ccs : Array (Option Value)) (file : Str) (tf : Tok) (cl : Value) (cld : Option Addr) (csl : Array (Option Value)) (cd : ClassData),
    fd = fnS x qual (defArgs st) (defBody st) (defScope st) cc .none kV doc pm an (.ref cda) ct ∧ K.lookup f = some ⟨oc, od, .func fd, osl⟩ ∧ PySem.W.codeIn K (.ref cda) qual = true ∧ K.lookup cda = some ⟨ccl, ccd, .fields vs, ccs⟩ ∧ vs[2]? = some (.str file tf) ∧ ((P.main.file : Str) == file) = true ∧
    K.lookup cc = some ⟨cl, cld, .cell (some (.ref D)), csl⟩ ∧ PySem.W.clsIn K D = some cd ∧ PySem.W.nsIn K cStatics "thirdparty.any" = some none
  kp : PySem.W.keepIn K (.ref f) = true
/-- what stands behind D in the order of C's classes -/
structure SupC (K : PySem.W.Frag) (C D f2 : Addr) : Prop where
  sub : PySem.W.mroIn K C (.ref D) = some true
  m : PySem.W.ks_superIn K C D "__init__" = some (some (.ref f2))
  ty : PySem.W.typeIn K (.ref f2) = some (.type "function")
  fi : PySem.W.fnIn K f2 = true
def tSup (C : Addr) (sp : Sp) (E : XK) (ta : TA) : TS := fun D σ H => ∃ a dx fs, σ[0]? = some (some (.ref a)) ∧ H a = some (.ins C dx fs) ∧ ta σ H fun vs H1 => sp (.ref a :: vs) H1 (fun _ H2 => D.nx σ H2) E
theorem run_meth {X : Cx} {CX : CXT} {k : Nat} {f q : Addr} {fd : FuncData} {ps : List Str} {sp : Sp} {E : XK} {pins : List (Addr × Obj)} {σ : L2.St} {H : Hp} {s : Shared} {Q : VK} {u : Value} {x : V} {us : List Value} {vs : List V} (F : FnOk X.prog X.w X.K X.mg X.base CX k f fd ps sp) (hr : Room k X.A)
    (hb : Binds X.K fd ps []) (hx : Passes CX X E) (I : Inv X pins σ H s) (rx : RelV x u) (r : Vals vs us) (hq : s.heap.get? q = some (PySem.W.methodObj (.ref f) u)) (h : sp (x :: vs) H Q E) :
    wpAny (model X.prog X.w) X.A (call (.ref q) us) (EP X pins σ Q) X.xe s := by
  have r2 : Vals (x :: vs) (u :: us) := .cons rx r
  have hl : ((u :: us) ++ []).length = ps.length := by
    rw [List.append_nil, ← r2.length]
    exact F.len _ _ _ _ h
  have hbb := hb s (u :: us) I.kIn hl
  rw [List.append_nil] at hbb
  refine wpAny_call (PySem.W.method_call hq (codeAny_mono (F.run X.A X.stack s H ⟨u :: us, []⟩ (u :: us) (x :: vs) Q E hr I.env0 hbb r2 h) fun o s' hq => ?_))
  match o, hq with
  | .error e, hq => exact hx pins σ H s e s' I hq
  | .ok (.ret u), hq => exact I.after hq
  | .ok .next, hq => exact hq.elim
  | .ok .brk, hq => exact hq.elim
  | .ok .cont, hq => exact hq.elim
theorem callWith_mp {M : Model} {A : Around} {E : Value → Shared → Prop} {s : Shared} {K : PySem.W.Frag} {env : Env} {pos : Pos} {first : List Value} {Q : Value → Shared → Prop} {q g : Addr} {self : Value} {e : Expr} {rest : List Expr} (hf : PySem.W.fnIn K g = true)
    (h : wpAny M A (spliced (backTo pos (starEach (e :: rest) env))) (fun vs s1 => PySem.W.MethP K q g self s1.heap ∧ wpAny M A (call (.ref q) (first ++ vs)) Q E s1) E s)
    (he : starEach (e :: rest) env = (false, eval e env) :: starEach rest env) (hplain : (backTo pos (starEach rest env)).any (·.1) = false) :
    wpAny M A (callWith pos (.ref q) first (backTo pos (starEach (e :: rest) env)) []) Q E s := by
  rw [he] at h ⊢
  exact PySem.W.callWith_of (by show ((false || (backTo pos (starEach rest env)).any (·.1)) || false) = false; rw [hplain]; rfl) (PySem.W.keeps_M hf) (Calls.evalArgs_plain h)
section
variable {CX CX' : CXT} {P : Program} {w : World} {K : PySem.W.Frag} {mg : Str → Option Value} {base : Heap} {N ps : List Str} {x qual self : Str} {st : Stmt} {f cda cc C D f2 : Addr} {A : Around} {outer : List Env} {s0 : Shared} {H0 : Hp} {E0 E : XK} {k : Nat} {fd fd2 : FuncData} {ps2 : List Str} {sp : Sp} {full rest : List Stmt} {ta : TA} {u : TS}
  {p0 p1 apos pos ep : Pos} {e : Expr} {es : List Expr} {pl : Sem Bool}
theorem pssF_super {oc : Value} {od : Option Addr} {osl : Array (Option Value)} {ar : Arg} {ccl : Value} {ccd : Option Addr} {vs0 : Array Value} {ccs : Array (Option Value)} {file : Str} {tf : Tok} {cl : Value} {cld : Option Addr} {csl : Array (Option Value)} {cd : ClassData}
    (S : FnScS N ps (defScope st)) (hN : N[0]? = some ar.arg) (hself : (defScope st).names.lookup ar.arg = some NameKind.local) (hf : K.lookup f = some ⟨oc, od, .func fd, osl⟩) (hp : (fd.params.posonlyargs ++ fd.params.args).head? = some ar)
    (hcode : K.lookup cda = some ⟨ccl, ccd, .fields vs0, ccs⟩) (hvs : vs0[2]? = some (.str file tf)) (hfile : ((P.main.file : Str) == file) = true) (hcell : K.lookup cc = some ⟨cl, cld, .cell (some (.ref D)), csl⟩) (hD : PySem.W.clsIn K D = some cd) (ho : PySem.W.nsIn K cStatics "thirdparty.any" = some none)
    (hsup : mg "super" = none) (htop : (P.main.scope.names.lookup ("super" : Str)).isSome = false) (Cc : SupC K C D f2)
    (G : FnOk P w K mg base CX' k f2 fd2 ps2 sp) (hr : Room k (cxS CX P w K mg base N qual (defScope st) f (.ref cda) cc A outer s0 H0 E0).A) (hb : Binds K fd2 ps2 []) (hx : Passes CX' (cxS CX P w K mg base N qual (defScope st) f (.ref cda) cc A outer s0 H0 E0) E)
    (ha : PA (cxS CX P w K mg base N qual (defScope st) f (.ref cda) cc A outer s0 H0 E0) (e :: es) ta) (h2 : PSsF (cxS CX P w K mg base N qual (defScope st) f (.ref cda) cc A outer s0 H0 E0) full rest u)
    (he : eval (.Call (.Attribute (.Call (.Name "super" p0) [] [] p1) "__init__" apos) (e :: es) [] pos) (envS qual (defScope st) s0.heap.objs.size f (.ref cda) cc) = (do
      let ov ← attributeBase (.Call (.Name "super" p0) [] [] p1) "__init__" (envS qual (defScope st) s0.heap.objs.size f (.ref cda) cc) (eval (.Call (.Name "super" p0) [] [] p1) (envS qual (defScope st) s0.heap.objs.size f (.ref cda) cc))
      standAt apos.atName
      let (g, first) ← holding [ov] (getMethod ov "__init__" pl)
      callWith pos g first (backTo pos (starEach (e :: es) (envS qual (defScope st) s0.heap.objs.size f (.ref cda) cc))) []) := by rfl)
    (hi : interactive (envS qual (defScope st) s0.heap.objs.size f (.ref cda) cc) = false := by rfl)
    (hs : swapsWith (.Call (.Attribute (.Call (.Name "super" p0) [] [] p1) "__init__" apos) (e :: es) [] pos) none ep.line (envS qual (defScope st) s0.heap.objs.size f (.ref cda) cc) = pure false := by rfl)
    (hst : starEach (e :: es) (envS qual (defScope st) s0.heap.objs.size f (.ref cda) cc) = (false, eval e (envS qual (defScope st) s0.heap.objs.size f (.ref cda) cc)) :: starEach es (envS qual (defScope st) s0.heap.objs.size f (.ref cda) cc) := by rfl)
    (hpl : (backTo pos (starEach es (envS qual (defScope st) s0.heap.objs.size f (.ref cda) cc))).any (·.1) = false := by rfl) :
    PSsF (cxS CX P w K mg base N qual (defScope st) f (.ref cda) cc A outer s0 H0 E0) full (.Expr (.Call (.Attribute (.Call (.Name "super" p0) [] [] p1) "__init__" apos) (e :: es) [] pos) ep :: rest) (tSeq (tSup C sp E ta) u) := by
  refine ⟨fun pins s σ H Dn I q => ?_⟩
  obtain ⟨a, dx, fs, hσ, ea, q⟩ := q
  have XK : K.In s.heap := I.kIn
  obtain ⟨m, hns, hm⟩ := I.loc
  obtain ⟨ua, rua, lua⟩ := hm 0 ar.arg (.ref a) hN hσ (.inl hself)
  cases (show ua = Value.ref a from rua)
  have hma : m ar.arg = some (.ref a) := by
    rcases lua with ⟨_, h⟩ | ⟨h, _⟩
    · exact h
    · rcases h with h | h
      · rw [show (cxS CX P w K mg base N qual (defScope st) f (.ref cda) cc A outer s0 H0 E0).env.kindOf ar.arg = some NameKind.local from hself] at h; cases h
      · rw [show (cxS CX P w K mg base N qual (defScope st) f (.ref cda) cc A outer s0 H0 E0).env.kindOf ar.arg = some NameKind.local from hself] at h; cases h
  obtain ⟨mA, O, _, _, _, _⟩ := ins_get I.hok ea
  obtain ⟨od2, J, _⟩ := O.look
  obtain ⟨oD, hD1, hD2⟩ : ∃ oD, s.heap.get? D = some oD ∧ oD.data = .cls cd := by
    have hD := hD
    unfold PySem.W.clsIn at hD
    split at hD
    · rename_i c d cd' sl hz
      cases hD
      exact ⟨_, XK _ _ hz, rfl⟩
    · cases hD
  refine ks_wpAt_execs_cons (ks_wpAt_Expr_any (ks_wpAt_MethodCall ?_ he) hi hs)
  refine ks_wpAt_super_base (env := envS qual (defScope st) s0.heap.objs.size f (.ref cda) cc) S.ks S.kc rfl rfl (XK _ _ hf) rfl hp rfl (XK _ _ hcode) rfl hvs hfile htop ?_
  have hld : ∀ {Q' : Value → Shared → Prop} {E' : Value → Shared → Prop}, Q' (.type "super") s → wpAny (model P w) (cxS CX P w K mg base N qual (defScope st) f (.ref cda) cc A outer s0 H0 E0).A (loadName (envS qual (defScope st) s0.heap.objs.size f (.ref cda) cc) "super") Q' E' s := fun {Q' E'} h => by
    obtain ⟨mb, b1, b2⟩ := I.mod.blt
    refine PySem.W.ks_loadName_global S.kind S.ks (Calls.loadGlobal_builtin (env := envS qual (defScope st) s0.heap.objs.size f (.ref cda) cc) (I.mod.glob.keeps I.bk) hsup (b1.keeps I.bk) ((b2 "super" (by decide)).trans ?_) h)
    first | rfl | kernel_rfl
  refine hld ⟨rfl, ?_⟩
  refine wpAny_loadName_free (env := envS qual (defScope st) s0.heap.objs.size f (.ref cda) cc) S.kind S.kc rfl ⟨_, XK _ _ hcell, rfl⟩ ?_
  refine wpAny_loadName_local S.kind hself hns hma ?_
  refine ks_wpAny_isType_cls hD1 hD2 ⟨rfl, ?_⟩
  obtain ⟨hh, g, d, t, os⟩ := s
  refine ks_wpAny_call_super hD1 hD2 J.at_ J.cls (fun c e => ?_) (PySem.W.looks_mroIn XK Cc.sub) (fun h' hso kk => ?_)
  · have := J.no
    unfold PySem.W.notCls at this
    rw [e] at this
    exact Bool.noConfusion this
  have I1 : Inv (cxS CX P w K mg base N qual (defScope st) f (.ref cda) cc A outer s0 H0 E0) pins σ H ⟨h', g, d, t, os⟩ := I.kept (t' := t) kk
  have XK1 : K.In h' := I1.kIn
  obtain ⟨of2, hof, hofc⟩ : ∃ of, h'.get? f2 = some of ∧ of.cls = .type "function" := by
    have ht' : (K.lookup f2).map (·.cls) = some (.type "function") := Cc.ty
    cases z : K.lookup f2 with
    | none => rw [z] at ht'; cases ht'
    | some of => rw [z] at ht'; exact ⟨of, XK1 _ _ z, Option.some.inj ht'⟩
  cases hc : PySem.W.clsIn K C with
  | none =>
    have := Cc.m
    unfold PySem.W.ks_superIn at this
    rw [hc] at this
    cases this
  | some cdC =>
    have hm2 := Cc.m
    unfold PySem.W.ks_superIn at hm2
    rw [hc] at hm2
    refine ks_wpAny_getMethod_super (l₀ := cdC.mro) hso (PySem.W.looks_opaque XK1 ho) ?_ rfl XK1 hm2 hof hofc (PySem.W.ks_ne XK J hc) rfl ?_
    · exact fun A' Q' E' s' k' q' => wpAny_bind ((PySem.W.looks_clsIn XK1 hc) A' _ E' s' k' (wpAny_pure q'))
    have I2 : Inv (cxS CX P w K mg base N qual (defScope st) f (.ref cda) cc A outer s0 H0 E0) pins σ H ⟨h'.push (PySem.W.methodObj (.ref f2) (.ref a)), g, d, t + 1, os⟩ := I1.kept (t' := t + 1) fun b o z => Heap.get?_push_of_some _ z
    have hq : (h'.push (PySem.W.methodObj (.ref f2) (.ref a))).get? h'.objs.size = some (PySem.W.methodObj (.ref f2) (.ref a)) := Heap.get?_push_size _ rfl
    have fin : ∀ b ∈ [h'.objs.size], FpOk (cxS CX P w K mg base N qual (defScope st) f (.ref cda) cc A outer s0 H0 E0) pins H b := fun b hb => by
      rw [List.mem_singleton.mp hb]
      exact I1.fpOk (Nat.le_refl _) (I1.hok.fresh (Nat.le_refl _))
    obtain ⟨f0, f1, f3, _⟩ := fin _ (List.mem_singleton.mpr rfl)
    have I3 : Inv (cxS CX P w K mg base N qual (defScope st) f (.ref cda) cc A outer s0 H0 E0) (pins ++ [(h'.objs.size, PySem.W.methodObj (.ref f2) (.ref a))]) σ H ⟨h'.push (PySem.W.methodObj (.ref f2) (.ref a)), g, d, t + 1, os⟩ :=
      I2.pins_of fun p hp => (List.mem_append.mp hp).elim (fun z => I2.pin p (List.mem_append_right _ z)) fun z => by
        rw [List.mem_singleton.mp z]
        exact ⟨hq, f0, f1, f3, fun v z => by cases z⟩
    show wpAny _ _ (callWith pos (.ref h'.objs.size) [] (backTo pos (starEach (e :: es) (envS qual (defScope st) s0.heap.objs.size f (.ref cda) cc))) []) _ _ _
    refine callWith_mp (K := K) (g := f2) (self := .ref a) Cc.fi ?_ hst hpl
    refine thn (ha.run pos _ _ σ H _ I3 q) fun us s3 ⟨vs, H3, I4, r, q3⟩ => ?_
    have hq3 := (I4.pin _ (List.mem_append_right _ (List.mem_append_right _ (List.mem_singleton.mpr rfl)))).1
    refine ⟨⟨hq3, I4.kIn⟩, ?_⟩
    refine thn (run_meth (x := .ref a) G hr hb hx I4.unpinned rfl r hq3 q3) fun v s4 ⟨xv, H4, I5, _, q4⟩ => ?_
    exact h2.run pins s4 σ H4 Dn I5 q4
end
end Q
namespace Q
open PySem PySem.Spec PyProof.Rows L2
/-! ### a def that calls super().__init__: how it is proved -/
structure SupRule (X : Cx) (full : List Stmt) (D : Addr) : Prop where
  go : ∀ {CX' : CXT} {k : Nat} {C f2 : Addr} {fd2 : FuncData} {ps2 : List Str} {sp : Sp} {E : XK} {rest : List Stmt} {ta : TA} {u : TS} {p0 p1 apos pos ep : Pos} {e : Expr} {es : List Expr} {pl : Sem Bool}, SupC X.K C D f2 → FnOk X.prog X.w X.K X.mg X.base CX' k f2 fd2 ps2 sp → Room k X.A → Binds X.K fd2 ps2 [] → Passes CX' X E → PA X (e :: es) ta → PSsF X full rest u →
    eval (.Call (.Attribute (.Call (.Name "super" p0) [] [] p1) "__init__" apos) (e :: es) [] pos) X.env = (do
      let ov ← attributeBase (.Call (.Name "super" p0) [] [] p1) "__init__" X.env (eval (.Call (.Name "super" p0) [] [] p1) X.env)
      standAt apos.atName
      let (g, first) ← holding [ov] (getMethod ov "__init__" pl)
      callWith pos g first (backTo pos (starEach (e :: es) X.env)) []) →
    interactive X.env = false → swapsWith (.Call (.Attribute (.Call (.Name "super" p0) [] [] p1) "__init__" apos) (e :: es) [] pos) none ep.line X.env = pure false →
    starEach (e :: es) X.env = (false, eval e X.env) :: starEach es X.env → (backTo pos (starEach es X.env)).any (·.1) = false →
    PSsF X full (.Expr (.Call (.Attribute (.Call (.Name "super" p0) [] [] p1) "__init__" apos) (e :: es) [] pos) ep :: rest) (tSeq (tSup C sp E ta) u)
theorem pss_sup {X : Cx} {full : List Stmt} {D : Addr} {CX' : CXT} {k j : Nat} {C f2 : Addr} {fd2 : FuncData} {ps2 : List Str} {sp : Sp} {E : XK} {rest : List Stmt} {ta : TA} {u : TS} {p0 p1 apos pos ep : Pos} {e : Expr} {es : List Expr} {pl : Sem Bool} (R : SupRule X full D) (c : SupC X.K C D f2)
    (G : FnOk X.prog X.w X.K X.mg X.base CX' k f2 fd2 ps2 sp) (hr : Room j X.A) (hb : Binds X.K fd2 ps2 []) (hx : Passes CX' X E) (ha : PA X (e :: es) ta) (h2 : PSsF X full rest u) (hj : k ≤ j := by decide)
    (he : eval (.Call (.Attribute (.Call (.Name "super" p0) [] [] p1) "__init__" apos) (e :: es) [] pos) X.env = (do
      let ov ← attributeBase (.Call (.Name "super" p0) [] [] p1) "__init__" X.env (eval (.Call (.Name "super" p0) [] [] p1) X.env)
      standAt apos.atName
      let (g, first) ← holding [ov] (getMethod ov "__init__" pl)
      callWith pos g first (backTo pos (starEach (e :: es) X.env)) []) := by rfl)
    (hi : interactive X.env = false := by rfl) (hs : swapsWith (.Call (.Attribute (.Call (.Name "super" p0) [] [] p1) "__init__" apos) (e :: es) [] pos) none ep.line X.env = pure false := by rfl)
    (hst : starEach (e :: es) X.env = (false, eval e X.env) :: starEach es X.env := by rfl) (hpl : (backTo pos (starEach es X.env)).any (·.1) = false := by rfl) :
    PSsF X full (.Expr (.Call (.Attribute (.Call (.Name "super" p0) [] [] p1) "__init__" apos) (e :: es) [] pos) ep :: rest) (tSeq (tSup C sp E ta) u) := R.go c G (hr.mono hj) hb hx ha h2 he hi hs hst hpl
section
variable {P : Program} {w : World} {K : PySem.W.Frag} {mg : Str → Option Value} {base : Heap} {x qual : Str} {st : Stmt} {D f : Addr} {fd : FuncData} {N ps : List Str} {k : Nat} {sp : Sp}
theorem SupD.binds (F : SupD P K x qual st D f fd)
    (h : ∀ (cc : Addr) (kV doc pm : Value) (an : Option Addr) (cdv ct : Value) (us : List Value), us.length = ps.length → bindArgs (fnS x qual (defArgs st) (defBody st) (defScope st) cc .none kV doc pm an cdv ct) ⟨us, []⟩ = pure (ps.zip us)) : Binds K fd ps [] := by
  obtain ⟨oc, od, kV, doc, pm, an, cda, ct, osl, cc, _, _, _, _, _, _, _, _, _, _, rfl, _⟩ := F.ex
  exact .all (h cc kV doc pm an (.ref cda) ct)
theorem SupD.kbn (F : SupD P K x qual st D f fd) (n : Nat) (ks : List Str) (g : {α : Type} → List α → List α → List α) (hrel : ∀ {vs zs : List V} {us ws : List Value}, Vals vs us → Vals zs ws → Vals (g vs zs) (g us ws))
    (h : ∀ (cc : Addr) (kV doc pm : Value) (an : Option Addr) (cdv ct : Value) (us ws : List Value), us.length = n → ws.length = ks.length →
      bindArgs (fnS x qual (defArgs st) (defBody st) (defScope st) cc .none kV doc pm an cdv ct) ⟨us, ks.zip ws⟩ = pure (ps.zip (g us ws))) : KBn K fd ps n ks (fun us ws => g us ws) (fun vs zs => g vs zs) := by
  obtain ⟨oc, od, kV, doc, pm, an, cda, ct, osl, cc, _, _, _, _, _, _, _, _, _, _, rfl, _⟩ := F.ex
  exact ⟨fun s us ws X l1 l2 => .of_eq (h cc kV doc pm an (.ref cda) ct us ws l1 l2), fun r1 r2 => hrel r1 r2⟩
/-- THE RULE for such a def, errors let out -/
theorem fnS_okX (F : SupD P K x qual st D f fd) (S : FnScS N ps (defScope st)) {ar : Arg} (har : ((defArgs st).posonlyargs ++ (defArgs st).args).head? = some ar) (hN : N[0]? = some ar.arg) (hself : (defScope st).names.lookup ar.arg = some NameKind.local)
    (hsup : mg "super" = none) (htop : (P.main.scope.names.lookup ("super" : Str)).isSome = false) (len : ∀ vs H Q E, sp vs H Q E → vs.length = ps.length)
    (body : ∀ (cda cc : Addr) (A : Around) (outer : List Env) (s : Shared) (H : Hp) (vs : List V) (Q : VK) (E : XK), Room k (A.deeper (envS qual (defScope st) s.heap.objs.size f (.ref cda) cc)) →
      SupRule (cxS (L2.CX P w) P w K mg base N qual (defScope st) f (.ref cda) cc A outer s H E) (defBody st) D → sp vs H Q E →
      ∃ t, PSsF (cxS (L2.CX P w) P w K mg base N qual (defScope st) f (.ref cda) cc A outer s H E) (defBody st) (defBody st) t ∧ t { nx := fun _ H' => Q .non H', rt := Q } (L2.start N vs) H) :
    FnOk P w K mg base (L2.CX P w) (k + 1) f fd ps sp := by
  obtain ⟨oc, od, kV, doc, pm, an, cda, ct, osl, cc, ccl, ccd, vs0, ccs, file, tf, cl, cld, csl, cd, rfl, h1, h2, h3, h4, h5, h6, h7, h8⟩ := F.ex
  refine fnS_of h1 h2 h6 S len fun A outer s H vs Q E hr hsp => ?_
  exact body cda cc A outer s H vs Q E hr ⟨fun {CX' k f2 C fd2 ps2 sp E rest ta u p0 p1 apos pos ep e es pl} c G hr hb hx ha h2 he hi hs hst hpl => pssF_super S hN hself h1 har h3 h4 h5 h6 h7 h8 hsup htop c G hr hb hx ha h2 he hi hs hst hpl⟩ hsp
end
abbrev takesS {P : Program} {w : World} {K : PySem.W.Frag} {mg : Str → Option Value} {base : Heap} {N : List Str} {qual : Str} {sc : Scope} {f cc : Addr} {cdv : Value} {A : Around} {outer : List Env} {s : Shared} {H : Hp} {E : XK} :
    Takes (cxS (L2.CX P w) P w K mg base N qual sc f cdv cc A outer s H E) (fun cls d _ H' => E cls d H') := takes_of rfl rfl rfl rfl
theorem passS {P : Program} {w : World} {K : PySem.W.Frag} {mg : Str → Option Value} {base : Heap} {N : List Str} {qual : Str} {sc : Scope} {f cc : Addr} {cdv : Value} {A : Around} {outer : List Env} {s : Shared} {H : Hp} {E : XK} :
    Passes (L2.CX P w) (cxS (L2.CX P w) P w K mg base N qual sc f cdv cc A outer s H E) E := passes_call (W := fun cls d _ H' => E cls d H') (takes_of rfl rfl rfl rfl) fun _ _ _ _ h => h
/-! ### rows -/
inductive Sg
  | n | m (l : Int) | t
def sgOk : Sg → V → Bool
  | .n, v => nameV v
  | .m l, v => momV v l
  | .t, v => isB v
def sgErr (Cn Cm Cs : Addr) : Sg → Addr × Str
  | .n => (Cn, "name")
  | .m _ => (Cm, "moment")
  | .t => (Cs, "value")
def rowFault (Cn Cm Cs : Addr) : List Sg → List V → Option (Addr × Str × V)
  | s :: ss, v :: vs => if sgOk s v = true then rowFault Cn Cm Cs ss vs else some ((sgErr Cn Cm Cs s).1, (sgErr Cn Cm Cs s).2, v)
  | _, _ => none
def wordV : Sg → V → V
  | .m _, .int i => .str (toString i)
  | .t, .bl b => .str (if b = true then "sound" else "unsound")
  | _, v => v
def rowWords (kind : Str) (sg : List Sg) (vs : List V) : List V := List.zipWith wordV sg vs
def rowNamed : List Sg → List V → List V
  | .n :: ss, v :: vs => v :: rowNamed ss vs
  | _ :: ss, _ :: vs => rowNamed ss vs
  | _, _ => []
def rowTold : List Sg → List V → List V
  | .m _ :: ss, v :: vs => v :: rowTold ss vs
  | _ :: ss, _ :: vs => rowTold ss vs
  | _, _ => []
def rowFs (kind : Str) (aw an am : Addr) (fl : List Str) (vs : List V) : List (Str × V) := ([("kind", .str kind), ("words", .ref aw), ("named", .ref an), ("told_at", .ref am)] : List (Str × V)) ++ fl.zip vs
structure RwC (K : PySem.W.Frag) (C : Addr) (fl : List Str) : Prop where
  c : Cls K C
  k : NoAttr K C "kind"
  w : NoAttr K C "words"
  n : NoAttr K C "named"
  t : NoAttr K C "told_at"
  own : ∀ f ∈ fl, NoAttr K C f
def RowAt (C : Addr) (G : Hp) (a : Addr) (kind : Str) (sg : List Sg) (fl : List Str) (vs : List V) : Prop := ∃ dx aw an am, G a = some (.ins C dx (rowFs kind aw an am fl vs)) ∧ G aw = some (.tup (rowWords kind sg vs)) ∧ G an = some (.tup (rowNamed sg vs)) ∧ G am = some (.tup (rowTold sg vs))
theorem RowAt.same {C a : Addr} {G G' : Hp} {kind : Str} {sg : List Sg} {fl : List Str} {vs : List V} (h : RowAt C G a kind sg fl vs) (s : Same G G') : RowAt C G' a kind sg fl vs := by
  obtain ⟨dx, aw, an, am, h1, h2, h3, h4⟩ := h
  exact ⟨dx, aw, an, am, s _ _ h1, s _ _ h2, s _ _ h3, s _ _ h4⟩
/-- Row's own __init__ -/
def spRow (C : Addr) : Sp := fun vs H Q _ => ∃ (G : Hp) (x dx : Addr) (k w n m : V), vs = [.ref x, k, w, n, m] ∧ Gh G H ∧ G x = none ∧ H x = some (.ins C dx []) ∧ ∀ H', But x H H' → Gh G H' → H' x = some (.ins C dx [("kind", k), ("words", w), ("named", n), ("told_at", m)]) → Q .non H'
/-- a row's __init__: pre is handed ahead of the arguments -/
def spRowI (K : PySem.W.Frag) (C Cn Cm Cs : Addr) (kind : Str) (pre : List V) (sg : List Sg) (fl : List Str) : Sp := fun vs H Q E => ∃ (G : Hp) (x dx : Addr) (as : List V), vs = .ref x :: (pre ++ as) ∧ as.length = sg.length ∧ Gh G H ∧ G x = none ∧ H x = some (.ins C dx []) ∧ (∀ v ∈ as, ∃ t, Kd K G v t) ∧ (∀ s, V.str s ∈ as → s.length ≤ 1000000) ∧
  (∀ cls f v, rowFault Cn Cm Cs sg as = some (cls, f, v) → ∀ (G' H' : Hp) (d : Addr), But x H H' → (∃ o, H' x = some o ∧ plainB o = true) → Gh G' H' → Same G G' → (∀ b, H b ≠ none → G' b = G b) → G' d = some (.xd [(f, v)]) → E (.ref cls) (some d) H') ∧
  (rowFault Cn Cm Cs sg as = none → ∀ (G' H' : Hp) (aw an am : Addr), But x H H' → Gh G' H' → Same G G' → (∀ b, H b ≠ none → G' b = G b) → G' aw = some (.tup (rowWords kind sg as)) → G' an = some (.tup (rowNamed sg as)) → G' am = some (.tup (rowTold sg as)) →
    H' x = some (.ins C dx (rowFs kind aw an am fl as)) → Q .non H')
theorem u_rowI {K : PySem.W.Frag} {C Cn Cm Cs : Addr} {kind : Str} {sg : List Sg} {fl : List Str} {as : List V} {e : En} {G H : Hp} {M : List Addr} {Qv : VK} {E : XK} (w : Wd e G H M) (hl : as.length = sg.length) (kd : ∀ v ∈ as, ∃ t, Kd K G v t) (sz : ∀ s, V.str s ∈ as → s.length ≤ 1000000)
    (bad : ∀ cls f v, rowFault Cn Cm Cs sg as = some (cls, f, v) → ∀ d G' H', Wd e G' H' M → Same G G' → Same H H' → G' d = some (.xd [(f, v)]) → E (.ref cls) (some d) H')
    (good : rowFault Cn Cm Cs sg as = none → ∀ a G' H', Wd e G' H' M → Same G G' → Same H H' → RowAt C G' a kind sg fl as → Qv (.ref a) H') : MakeGo C (spRowI K C Cn Cm Cs kind [] sg fl) as E H Qv := by
  refine make_go w fun a dx G1 H1 hx nm s1 t1 w1 h1 n0 => ?_
  have keeps : ∀ {H2 : Hp}, But a H1 H2 → Same H H2 := fun {H2} b2 c o h => by
    refine b2 c o (fun q => ?_) (t1 _ _ h)
    subst q
    rw [hx] at h
    cases h
  refine ⟨G1, a, dx, as, rfl, hl, w1.gh, (w1.mu a List.mem_cons_self).1, h1, fun v hv => (kd v hv).elim fun t k => ⟨t, k.same s1⟩, sz, fun cls f v hf G2 H2 dd b2 hh s2 s3 fr hdd => ?_, fun hf G2 H2 aw an am b2 s2 s3 fr g1 g2 g3 h2 => ⟨rfl, ?_⟩⟩
  · obtain ⟨o, h2, no⟩ := hh
    have w2 := wd_made w1 b2 h2 no s2 s3 fr
    exact bad cls f v hf dd G2 H2 (wd_drop w2 (List.sublist_cons_self _ _)) (s1.trans s3) (keeps b2) hdd
  · have w2 := wd_made w1 b2 h2 rfl s2 s3 fr
    obtain ⟨w4, s4⟩ := wd_freeze w2 h2 n0
    exact good hf a _ H2 w4 (s1.trans (s3.trans s4)) (keeps b2) ⟨dx, aw, an, am, upd_same, s4 _ _ g1, s4 _ _ g2, s4 _ _ g3⟩
/-- need_name, need_moment -/
def spNeedN (K : PySem.W.Frag) (Cn : Addr) : Sp := fun vs H Q E => ∃ (G : Hp) (x : V) (t : Value), vs = [x] ∧ Gh G H ∧ Kd K G x t ∧ (∀ s, x = .str s → s.length ≤ 1000000) ∧ (nameV x = true → Ret G H (fun v _ => v = .non) Q) ∧ (nameV x = false → RetX G H Cn "name" x E)
def spNeedM (K : PySem.W.Frag) (Cm : Addr) : Sp := fun vs H Q E => ∃ (G : Hp) (x : V) (t : Value) (l : Int), vs = [x, .int l] ∧ Gh G H ∧ Kd K G x t ∧ (momV x l = true → Ret G H (fun v _ => v = .non) Q) ∧ (momV x l = false → RetX G H Cm "moment" x E)
section
variable {K : PySem.W.Frag} {Cn Cm : Addr} {e : En} {G H : Hp} {M : List Addr} {x : V} {t : Value} {l : Int} {Q : VK} {E : XK}
theorem u_needN (w : Wd e G H M) (hx : Kd K G x t) (sz : ∀ s, x = .str s → s.length ≤ 1000000) (good : nameV x = true → ∀ G' H', Wd e G' H' M → Same G G' → Same H H' → Q .non H') (bad : nameV x = false → ∀ d G' H', Wd e G' H' M → Same G G' → Same H H' → G' d = some (.xd [("name", x)]) → E (.ref Cn) (some d) H') : spNeedN K Cn [x] H Q E :=
  ⟨G, x, t, rfl, w.gh, hx, sz, fun h => ret_use w fun v G' H' w' s1 s2 e1 => by subst e1; exact good h G' H' w' s1 s2, fun h => retX_use w (bad h)⟩
theorem u_needM (w : Wd e G H M) (hx : Kd K G x t) (good : momV x l = true → ∀ G' H', Wd e G' H' M → Same G G' → Same H H' → Q .non H') (bad : momV x l = false → ∀ d G' H', Wd e G' H' M → Same G G' → Same H H' → G' d = some (.xd [("moment", x)]) → E (.ref Cm) (some d) H') : spNeedM K Cm [x, .int l] H Q E :=
  ⟨G, x, t, l, rfl, w.gh, hx, fun h => ret_use w fun v G' H' w' s1 s2 e1 => by subst e1; exact good h G' H' w' s1 s2, fun h => retX_use w (bad h)⟩
theorem u_rowB {C x' dx : Addr} {k w' n m : V} (w : Wd e G H M) (hm : x' ∈ M) (hx : H x' = some (.ins C dx [])) (q : ∀ H', Wd e G H' M → But x' H H' → H' x' = some (.ins C dx [("kind", k), ("words", w'), ("named", n), ("told_at", m)]) → Q .non H') : spRow C [.ref x', k, w', n, m] H Q E :=
  ⟨G, x', dx, k, w', n, m, rfl, w.gh, (w.mu x' hm).1, hx, fun H' b _ h' => q H' (wd_but w hm b h') b h'⟩
end
theorem r_sup {C : Addr} {sp : Sp} {E : XK} {ta : TA} {D : Ends} {σ : L2.St} {H : Hp} {a dx : Addr} {fs : List (Str × V)} (h0 : σ[0]? = some (some (.ref a))) (h : H a = some (.ins C dx fs)) (q : ta σ H fun vs H1 => sp (.ref a :: vs) H1 (fun _ H2 => D.nx σ H2) E) : tSup C sp E ta D σ H := ⟨a, dx, fs, h0, h, q⟩
end Q
namespace Q
open PySem PySem.Spec PyProof.Rows L2
/-! ### rows' kinds; rows drawn, rows bent -/
def kindsS : List Str := ["begun", "setby", "found", "trusted", "passed", "failed", "agreed", "differed", "served", "backed"]
def kindN (i : Nat) : Str := kindsS.getD i ""
def sgsT : List (List Sg) := [[.n, .m 1], [.n, .m 1, .n], [.n, .m 0, .t], [.n], [.n, .m 0, .n], [.n, .m 0, .n], [.n, .m 0, .n, .m 0], [.n, .m 0, .n, .m 0], [.n, .m 0, .n, .m 0], [.n, .m 0, .n, .m 0]]
def sgN (i : Nat) : List Sg := sgsT.getD i []
def flsT : List (List Str) := [["tool", "moment"], ["tool", "moment", "by"], ["tool", "moment", "is_sound"], ["tool"], ["tool", "moment", "by"], ["tool", "moment", "by"], ["one", "moment", "other", "later"], ["one", "moment", "other", "later"], ["one", "moment", "other", "later"], ["one", "moment", "other", "later"]]
def flN (i : Nat) : List Str := flsT.getD i []
def formN (i : Nat) : Str := (["nm", "nmn", "nmt", "n", "nmn", "nmn", "nmnm", "nmnm", "nmnm", "nmnm"] : List Str).getD i ""
def clsS : List Str := ["Begun", "SetBy", "Found", "Trusted", "Passed", "Failed", "Agreed", "Differed", "Served", "Backed"]
def clsR (K : PySem.W.Frag) (i : Nat) : Addr := He.ga K (clsS.getD i "")
def SgAll (sg : List Sg) (as : List V) : Prop := as.length = sg.length ∧ ∀ p ∈ sg.zip as, sgOk p.1 p.2 = true
theorem SgAll.sound {Cn Cm Cs : Addr} : ∀ {sg : List Sg} {as : List V}, SgAll sg as → rowFault Cn Cm Cs sg as = none
  | [], _, _ => rfl
  | s :: ss, [], _ => rfl
  | s :: ss, v :: vs, ⟨h1, h2⟩ => by
    have a := h2 (s, v) (by simp)
    unfold rowFault
    rw [if_pos a]
    exact SgAll.sound ⟨by simpa using h1, fun p hp => h2 p (by simp [hp])⟩
def spKinds : Sp := fun vs H Q _ => ∃ G : Hp, vs = [] ∧ Gh G H ∧ Ret G H (fun v G' => ∃ l, v = .ref l ∧ G' l = some (.lst (kindsS.map V.str))) Q
/-- a row as a tuple: its kind and its arguments -/
def spDrawn : Sp := fun vs H Q _ => ∃ (G : Hp) (p c cr lk : Addr) (n : Nat) (ns ks : List Str), vs = [.ref p, .ref cr, .ref lk] ∧ Gh G H ∧ G p = none ∧ Cells c G ∧ PenAt p c n H ∧ n ≤ 1040000 ∧ G cr = some (.lst (ns.map V.str)) ∧ ns ≠ [] ∧ ns.length ≤ 1000 ∧ (∀ z ∈ ns, nmOk z = true) ∧ G lk = some (.lst (ks.map V.str)) ∧ ks ≠ [] ∧ ks.length ≤ 1000 ∧ (∀ z ∈ ks, ∃ i, i < 10 ∧ z = kindN i) ∧
  RetP p c (n + 12) G H (fun v G' => ∃ (t : Addr) (i : Nat) (as : List V), v = .ref t ∧ i < 10 ∧ kindN i ∈ ks ∧ G' t = some (.tup (.str (kindN i) :: as)) ∧ SgAll (sgN i) as) Q
def spForms : Sp := fun vs H Q _ => ∃ (G : Hp) (i : Nat), vs = [.str (kindN i)] ∧ i < 10 ∧ Gh G H ∧ Ret G H (fun v _ => v = .str (formN i)) Q
def sgWord : Sg → Str
  | .n => "name"
  | .m _ => "moment"
  | .t => "saying"
def sgSign : Sg → Str
  | .n => "n"
  | .m _ => "m"
  | .t => "t"
/-- the first fault -/
def rowBad : List Sg → List V → Option (Sg × V)
  | s :: ss, v :: vs => if sgOk s v = true then rowBad ss vs else some (s, v)
  | _, _ => none
theorem fault_bad {Cn Cm Cs : Addr} : ∀ (sg : List Sg) (as : List V), rowFault Cn Cm Cs sg as = (rowBad sg as).map fun p => ((sgErr Cn Cm Cs p.1).1, (sgErr Cn Cm Cs p.1).2, p.2)
  | [], _ => rfl
  | s :: ss, [] => rfl
  | s :: ss, v :: vs => by
    unfold rowFault rowBad
    split
    · exact fault_bad ss vs
    · rfl
theorem bad_add : ∀ {sg : List Sg} {as : List V} {s : Sg} {v : V} {k : Nat}, as.length = k → sg[k]? = some s → rowBad (sg.take (k + 1)) (as ++ [v]) = match rowBad (sg.take k) as with
    | some p => some p
    | none => if sgOk s v = true then none else some (s, v)
  | x :: sg, [], s, v, 0, _, h => by
    have e : x = s := by simpa using h
    subst e
    simp only [List.take_succ_cons, List.take_zero, List.nil_append]
    unfold rowBad
    split
    · unfold rowBad; rfl
    · rfl
  | x :: sg, a :: as, s, v, k + 1, hl, h => by
    have ih := bad_add (sg := sg) (as := as) (s := s) (v := v) (k := k) (by simpa using hl) (by simpa using h)
    rw [List.take_succ_cons, List.cons_append, List.take_succ_cons]
    by_cases c : sgOk x a = true
    · simp only [rowBad, c, if_true]
      exact ih
    · simp only [rowBad, c]
      rfl
  | [], _, _, _, _, _, h => by simp at h
  | x :: sg, [], _, _, k + 1, hl, _ => by simp at hl
  | x :: sg, a :: as, _, _, 0, hl, _ => by simp at hl
/-- what is due of a bent row -/
def DueB (G : Hp) (o : Option (Sg × V)) (u : V) : Prop := match o with
  | none => u = .non
  | some (s, v) => ∃ l, u = .ref l ∧ G l = some (.tup [.str (sgWord s), v])
theorem DueB.same {G G' : Hp} {o : Option (Sg × V)} {u : V} (h : DueB G o u) (s : Same G G') : DueB G' o u := by
  cases o with
  | none => exact h
  | some p =>
    obtain ⟨l, e, h⟩ := h
    exact ⟨l, e, s _ _ h⟩
def BentAt (K : PySem.W.Frag) (G : Hp) (i : Nat) (l : Addr) (as : List V) (u : V) : Prop := G l = some (.lst (.str (kindN i) :: as)) ∧ as.length = (sgN i).length ∧ (∀ v ∈ as, ∃ d, Odd K G v d) ∧ DueB G (rowBad (sgN i) as) u
def spBent (K : PySem.W.Frag) : Sp := fun vs H Q _ => ∃ (G : Hp) (p c t : Addr) (n i : Nat) (as : List V), vs = [.ref p, .str (kindN i), .ref t] ∧ i < 10 ∧ Gh G H ∧ G p = none ∧ Cells c G ∧ PenAt p c n H ∧ n ≤ 1040000 ∧ G t = some (.tup (.str (kindN i) :: as)) ∧ SgAll (sgN i) as ∧
  RetP p c (n + 40) G H (fun v G' => ∃ (r l : Addr) (bs : List V) (u : V), v = .ref r ∧ G' r = some (.tup [.ref l, u]) ∧ BentAt K G' i l bs u) Q
/-- the row that a sequence tells is made -/
def spMade (K : PySem.W.Frag) (CL : Nat → Addr) (Cn Cm Cs : Addr) : Sp := fun vs H Q E => ∃ (G : Hp) (r : Addr) (i : Nat) (as : List V), vs = [.ref r] ∧ i < 10 ∧ Gh G H ∧ SqA K G r (.str (kindN i) :: as) ∧ as.length = (sgN i).length ∧ (∀ v ∈ as, ∃ t, Kd K G v t) ∧ (∀ s, V.str s ∈ as → s.length ≤ 1000000) ∧
  (∀ s v, rowBad (sgN i) as = some (s, v) → RetX G H (sgErr Cn Cm Cs s).1 (sgErr Cn Cm Cs s).2 v E) ∧
  (rowBad (sgN i) as = none → Ret G H (fun v G' => ∃ a, v = .ref a ∧ RowAt (CL i) G' a (kindN i) (sgN i) (flN i) as) Q)
section
variable {K : PySem.W.Frag} {e : En} {G H : Hp} {M : List Addr} {p c : Addr} {n i : Nat} {Q : VK} {E : XK}
theorem u_kinds (w : Wd e G H M) (k : ∀ l G' H', Wd e G' H' M → Same G G' → Same H H' → G' l = some (.lst (kindsS.map V.str)) → Q (.ref l) H') : spKinds [] H Q E :=
  ⟨G, rfl, w.gh, ret_use w fun v G' H' w' s1 s2 ⟨l, e1, h⟩ => by subst e1; exact k l G' H' w' s1 s2 h⟩
theorem u_drawn {cr lk : Addr} {ns ks : List Str} (w : Wd e G H M) (hm : p ∈ M) (hc : Cells c G) (P : PenAt p c n H) (hn : n ≤ 1040000) (h1 : G cr = some (.lst (ns.map V.str))) (h2 : ns ≠ []) (h3 : ns.length ≤ 1000) (h4 : ∀ z ∈ ns, nmOk z = true) (h5 : G lk = some (.lst (ks.map V.str))) (h6 : ks ≠ []) (h7 : ks.length ≤ 1000) (h8 : ∀ z ∈ ks, ∃ i, i < 10 ∧ z = kindN i)
    (k : ∀ (t : Addr) (i : Nat) (as : List V) (G' H' : Hp), Wd e G' H' M → Same G G' → But p H H' → PenAt p c (n + 12) H' → i < 10 → kindN i ∈ ks → G' t = some (.tup (.str (kindN i) :: as)) → SgAll (sgN i) as → Q (.ref t) H') : spDrawn [.ref p, .ref cr, .ref lk] H Q E :=
  ⟨G, p, c, cr, lk, n, ns, ks, rfl, w.gh, (w.mu p hm).1, hc, P, hn, h1, h2, h3, h4, h5, h6, h7, h8, retP_use w hm fun v G' H' w' s b P' ⟨t, i, as, e1, e2, e3, e4, e5⟩ => by subst e1; exact k t i as G' H' w' s b P' e2 e3 e4 e5⟩
theorem u_forms (w : Wd e G H M) (hi : i < 10) (k : ∀ G' H', Wd e G' H' M → Same G G' → Same H H' → Q (.str (formN i)) H') : spForms [.str (kindN i)] H Q E :=
  ⟨G, i, rfl, hi, w.gh, ret_use w fun v G' H' w' s1 s2 e1 => by subst e1; exact k G' H' w' s1 s2⟩
theorem u_bent {t : Addr} {as : List V} (w : Wd e G H M) (hm : p ∈ M) (hc : Cells c G) (P : PenAt p c n H) (hn : n ≤ 1040000) (hi : i < 10) (ht : G t = some (.tup (.str (kindN i) :: as))) (ha : SgAll (sgN i) as)
    (k : ∀ (r l : Addr) (bs : List V) (u : V) (G' H' : Hp), Wd e G' H' M → Same G G' → But p H H' → PenAt p c (n + 40) H' → G' r = some (.tup [.ref l, u]) → BentAt K G' i l bs u → Q (.ref r) H') : spBent K [.ref p, .str (kindN i), .ref t] H Q E :=
  ⟨G, p, c, t, n, i, as, rfl, hi, w.gh, (w.mu p hm).1, hc, P, hn, ht, ha, retP_use w hm fun v G' H' w' s b P' ⟨r, l, bs, u, e1, e2, e3⟩ => by subst e1; exact k r l bs u G' H' w' s b P' e2 e3⟩
theorem u_made {CL : Nat → Addr} {Cn Cm Cs r : Addr} {as : List V} (w : Wd e G H M) (hi : i < 10) (hs : SqA K G r (.str (kindN i) :: as)) (hl : as.length = (sgN i).length) (kd : ∀ v ∈ as, ∃ t, Kd K G v t) (sz : ∀ s, V.str s ∈ as → s.length ≤ 1000000)
    (bad : ∀ s v, rowBad (sgN i) as = some (s, v) → ∀ d G' H', Wd e G' H' M → Same G G' → Same H H' → G' d = some (.xd [((sgErr Cn Cm Cs s).2, v)]) → E (.ref (sgErr Cn Cm Cs s).1) (some d) H')
    (good : rowBad (sgN i) as = none → ∀ a G' H', Wd e G' H' M → Same G G' → Same H H' → RowAt (CL i) G' a (kindN i) (sgN i) (flN i) as → Q (.ref a) H') : spMade K CL Cn Cm Cs [.ref r] H Q E :=
  ⟨G, r, i, as, rfl, hi, w.gh, hs, hl, kd, sz, fun s v h => retX_use w (bad s v h), fun h => ret_use w fun v G' H' w' s1 s2 ⟨a, e1, h1⟩ => by subst e1; exact good h a G' H' w' s1 s2 h1⟩
/-! ### a display of several pairs -/
def DispK (p : Addr) (Qv : VK) : List (V × V) → Hp → Prop := fun ps H2 => H2 p = some (.dK []) ∧ ∃ kvs : List (Key × V), ps = kvs.map (fun kv => (kV kv.1, kv.2)) ∧ kvs.length ≤ 15 ∧ Qv (.ref p) (upd H2 p (.dK (mergeK [] kvs)))
theorem r_dispM {trs : List (TE × TE)} {σ : L2.St} (w : Wd e G H M) (q : ∀ p H', Wd e G H' (p :: M) → Same H H' → H' p = some (.dK []) → e.H0 p = none → (∀ m ∈ M, p ≠ m) → tPairs trs σ H' (DispK p Q)) : tDisp trs σ H Q := fun p hp => by
  have h0 : e.H0 p = none := w.n0 hp
  exact q p _ (wd_layM w hp) (same_upd hp) upd_same h0 fun m hm => w.nm hp hm
theorem r_dispK {M : List Addr} {G H : Hp} (kvs : List (Key × V)) (w : Wd e G H (p :: M)) (h0 : e.H0 p = none) (h : H p = some (.dK [])) (hl : kvs.length ≤ 15) (q : ∀ G' H', Wd e G' H' M → Same G G' → But p H H' → G' p = some (.dK (mergeK [] kvs)) → Q (.ref p) H') : DispK p Q (kvs.map fun kv => (kV kv.1, kv.2)) H := by
  refine ⟨h, kvs, rfl, hl, ?_⟩
  have w1 : Wd e G (upd H p (.dK (mergeK [] kvs))) (p :: M) := wd_mut w List.mem_cons_self
  obtain ⟨w2, s2⟩ := wd_freeze w1 upd_same h0
  exact q _ _ w2 s2 but_upd upd_same
theorem pairs_const {σ : L2.St} {R : List (V × V) → Hp → Prop} : ∀ {kvs : List (Key × V)} {H : Hp}, R (kvs.map fun kv => (kV kv.1, kv.2)) H → tPairs (kvs.map fun kv => (tC (kV kv.1), tC kv.2)) σ H R
  | [], _, q => q
  | kv :: r, _, q => pairs_const (kvs := r) (R := fun ps H3 => R ((kV kv.1, kv.2) :: ps) H3) q
theorem r_dispC {σ : L2.St} {trs : List (TE × TE)} (kvs : List (Key × V)) (et : trs = kvs.map fun kv => (tC (kV kv.1), tC kv.2)) (w : Wd e G H M) (hl : kvs.length ≤ 15) (q : ∀ p G' H', Wd e G' H' M → Same G G' → Same H H' → G' p = some (.dK (mergeK [] kvs)) → Q (.ref p) H') : tDisp trs σ H Q := by
  subst et
  intro p hp
  have h0 : e.H0 p = none := w.n0 hp
  have s1 : Same H (upd H p (.dK [])) := same_upd hp
  refine pairs_const ?_
  refine r_dispK kvs (wd_layM w hp) h0 upd_same hl fun G2 H2 w2 s2 b2 h2 => q p G2 H2 w2 s2 (fun b o h => ?_) h2
  refine b2 _ _ (fun z => ?_) (s1 _ _ h)
  subst z
  rw [hp] at h
  cases h
theorem pairs_cons {tk tv : TE} {r : List (TE × TE)} {σ : L2.St} {R : List (V × V) → Hp → Prop} (q : tk σ H fun x H1 => tv σ H1 fun y H2 => tPairs r σ H2 fun ps H3 => R ((x, y) :: ps) H3) : tPairs ((tk, tv) :: r) σ H R := q
theorem pairs_nil {σ : L2.St} {R : List (V × V) → Hp → Prop} (q : R [] H) : tPairs [] σ H R := q
theorem form_sign : ∀ i, i < 10 → (formN i).length = (sgN i).length ∧ (sgN i).length ≤ 4 := by decide +kernel
theorem form_at : ∀ i, i < 10 → ∀ j, j < 4 → ∀ s, (sgN i)[j]? = some s → (formN i).cps.toList[j]?.map (fun c => (⟨#[c]⟩ : Str)) = some (sgSign s) ∧ ((match s with | .m l => l == 1 | _ => false) = true → i < 2) ∧ ((match s with | .m l => l == 0 | _ => false) = true → ¬ i < 2) ∧ (match s with | .m l => l == 0 || l == 1 | _ => true) = true := by
  intro i hi j hj s hs
  have key : ∀ i, i < 10 → ∀ j, j < 4 → (match (sgN i)[j]? with
    | none => true
    | some s => decide ((formN i).cps.toList[j]?.map (fun c => (⟨#[c]⟩ : Str)) = some (sgSign s)) && (!(match s with | .m l => l == 1 | _ => false) || decide (i < 2)) && (!(match s with | .m l => l == 0 | _ => false) || decide (¬ i < 2)) && (match s with | .m l => l == 0 || l == 1 | _ => true)) = true := by decide +kernel
  have k := key i hi j hj
  rw [hs] at k
  simp only [Bool.and_eq_true, decide_eq_true_iff, Bool.or_eq_true, Bool.not_eq_true'] at k
  obtain ⟨⟨⟨k1, k2⟩, k3⟩, k4⟩ := k
  refine ⟨k1, fun h => ?_, fun h => ?_, k4⟩
  · rcases k2 with k2 | k2
    · rw [k2] at h; cases h
    · exact k2
  · rcases k3 with k3 | k3
    · rw [k3] at h; cases h
    · exact k3
theorem name_text {v : V} (h : nameV v = true) : ∃ z, v = .str z := by
  cases v with
  | str z => exact ⟨z, rfl⟩
  | _ => cases h
theorem mom_num {v : V} {l : Int} (h : momV v l = true) : ∃ i, v = .int i ∧ l ≤ i ∧ i ≤ 1000000000000000000000000000000 := by
  cases v with
  | int i =>
    have h : (decide (l ≤ i) && decide (i ≤ 1000000000000000000000000000000)) = true := h
    rw [Bool.and_eq_true, decide_eq_true_iff, decide_eq_true_iff] at h
    exact ⟨i, rfl, h.1, h.2⟩
  | _ => cases h
theorem bool_is {v : V} (h : isB v = true) : ∃ b, v = .bl b := by
  cases v with
  | bl b => exact ⟨b, rfl⟩
  | _ => cases h
theorem len_1 {as : List V} (h : as.length = 1) : ∃ a, as = [a] := by
  match as, h with
  | [a], _ => exact ⟨a, rfl⟩
theorem len_2 {as : List V} (h : as.length = 2) : ∃ a b, as = [a, b] := by
  match as, h with
  | [a, b], _ => exact ⟨a, b, rfl⟩
theorem len_3 {as : List V} (h : as.length = 3) : ∃ a b c, as = [a, b, c] := by
  match as, h with
  | [a, b, c], _ => exact ⟨a, b, c, rfl⟩
theorem len_4 {as : List V} (h : as.length = 4) : ∃ a b c d, as = [a, b, c, d] := by
  match as, h with
  | [a, b, c, d], _ => exact ⟨a, b, c, d, rfl⟩
theorem sg_odd {K : PySem.W.Frag} {G : Hp} {s : Sg} {v : V} (f4 : (match s with | .m l => l == 0 || l == 1 | _ => true) = true) (h : sgOk s v = true) : ∃ d, Odd K G v d := by
  cases s with
  | n =>
    obtain ⟨z, rfl⟩ := name_text h
    exact ⟨_, odd_name h⟩
  | m l =>
    obtain ⟨i, rfl, h1, h2⟩ := mom_num h
    have f4 : (l == 0 || l == 1) = true := f4
    have : l = 0 ∨ l = 1 := by simpa using f4
    exact ⟨_, odd_pos (by omega) (by omega)⟩
  | t =>
    obtain ⟨b, rfl⟩ := bool_is h
    exact ⟨_, odd_bl⟩
theorem kind_begun : ∀ i, i < 10 → (inV (V.str (kindN i)) [V.str "begun", V.str "setby"] = decide (i < 2)) := by decide +kernel
theorem r_ixA {a : Addr} {xs : List V} {k : Int} {v : V} (h : SqA K H a xs) (e : atI xs k = some v) (q : Q v H) : rIx K (.ref a) (.int k) H Q := h.elim (fun h => r_ixL h e q) (fun h => r_ixT h e q)
theorem pe_fldK {X : Cx} {K : PySem.W.Frag} {e : Expr} {ta : TE} {f : Str} {pos : Pos} (hK : X.K = K) (he : PE X e ta) (hb : attributeBase e f X.env (eval e X.env) = eval e X.env) : PE X (.Attribute e f pos) (tFld K ta f) := by
  subst hK
  exact pe_fld he hb
end
end Q
namespace Q
open PySem PySem.Spec PyProof.Rows L2
/-! ### a head that sees defs that name their class -/
abbrev FnW3 : Type := Option (Str × Str × Arguments × FuncBody × Scope × Addr × List Str × Addr)
def fnC (K : PySem.W.Frag) (a : Addr) : FnW3 := match K.lookup a with
  | some ⟨_, _, .func fd, _⟩ => some (fd.name, fd.qualname, fd.params, fd.body, fd.scope, fd.globals, fd.closure.map (·.1), fd.builtins)
  | _ => none
structure DefS where
  at_ : PySem.W.Frag → Addr
  own : PySem.W.Frag → Addr
  name : Str
  qual : Str
  st : Stmt
def DefS.val (d : DefS) : FnW3 := some (d.name, d.qual, defArgs d.st, FuncBody.stmts (defBody d.st), defScope d.st, mainGlobals, [("__class__" : Str)], builtinsNs)
def cellB (K : PySem.W.Frag) (cc D : Addr) : Bool := match K.lookup cc with
  | some ⟨_, _, .cell (some (.ref a)), _⟩ => decide (a = D)
  | _ => false
def cloB (K : PySem.W.Frag) (cl : List (Str × Addr)) (D : Addr) : Bool := match cl with
  | [(_, cc)] => cellB K cc D
  | _ => false
theorem cloB_ok {K : PySem.W.Frag} {cl : List (Str × Addr)} {D : Addr} (h : cloB K cl D = true) : ∃ a cc, cl = [(a, cc)] ∧ cellB K cc D = true := by
  unfold cloB at h
  split at h
  · exact ⟨_, _, rfl, h⟩
  · cases h
def fileB (K : PySem.W.Frag) (file : Str) (cd : Value) : Bool := match cd with
  | .ref c => (match K.lookup c with
    | some ⟨_, _, .fields vs, _⟩ => (match (vs[2]? : Option Value) with
      | some (.str z _) => file == z
      | _ => false)
    | _ => false)
  | _ => false
def noneB : Value → Bool
  | .none => true
  | _ => false
def DefS.ok (file : Str) (K : PySem.W.Frag) (d : DefS) : Bool := PySem.W.keepIn K (.ref (d.at_ K)) && ((match K.lookup (d.at_ K) with
  | some ⟨_, _, .func fd, _⟩ => PySem.W.codeIn K fd.code d.qual && (fileB K file fd.code && (noneB fd.defaults && cloB K fd.closure (d.own K)))
  | _ => false) && (PySem.W.isClsIn K (d.own K) && (match PySem.W.nsIn K cStatics "thirdparty.any" with
    | some none => true
    | _ => false)))
theorem cellB_ok {K : PySem.W.Frag} {cc D : Addr} (h : cellB K cc D = true) : ∃ cl cld csl, K.lookup cc = some ⟨cl, cld, .cell (some (.ref D)), csl⟩ := by
  unfold cellB at h
  split at h
  · rename_i a b c d e
    rw [of_decide_eq_true h] at e
    exact ⟨_, _, _, e⟩
  · cases h
theorem fileB_ok {K : PySem.W.Frag} {file : Str} {cd : Value} (h : fileB K file cd = true) : ∃ cda ccl ccd vs ccs z tf, cd = .ref cda ∧ K.lookup cda = some ⟨ccl, ccd, .fields vs, ccs⟩ ∧ vs[2]? = some (.str z tf) ∧ (file == z) = true := by
  unfold fileB at h
  split at h
  · split at h
    · rename_i e
      split at h
      · rename_i e2
        exact ⟨_, _, _, _, _, _, _, rfl, e, e2, h⟩
      · cases h
    · cases h
  · cases h
theorem DefS.sup {P : Program} {K : PySem.W.Frag} {d : DefS} {file : Str} (hf : (P.main.file : Str) = file) (e : fnC K (d.at_ K) = d.val) (c : d.ok file K = true) : ∃ fd, SupD P K d.name d.qual d.st (d.own K) (d.at_ K) fd := by
  obtain ⟨kp, c⟩ := He.ba c
  obtain ⟨c1, c2⟩ := He.ba c
  obtain ⟨c2, c3⟩ := He.ba c2
  have hns : PySem.W.nsIn K cStatics "thirdparty.any" = some none := by
    split at c3
    · assumption
    · cases c3
  obtain ⟨cd, hcd⟩ : ∃ cd, PySem.W.clsIn K (d.own K) = some cd := Option.isSome_iff_exists.mp c2
  unfold fnC at e
  cases q : K.lookup (d.at_ K) with
  | none =>
    rw [q] at c1
    cases c1
  | some o =>
    obtain ⟨oc, od, dt, osl⟩ := o
    rw [q] at c1 e
    cases dt with
    | func fd =>
      obtain ⟨n1, n2, n3, n4, n5, n6, n7, n8, n9, n10, n11, n12, n13, n14, n15⟩ := fd
      have e2 : (some (n1, n2, n3, n4, n5, n6, n7.map (·.1), n15) : FnW3) = some (d.name, d.qual, defArgs d.st, FuncBody.stmts (defBody d.st), defScope d.st, mainGlobals, [("__class__" : Str)], builtinsNs) := e
      simp only [Option.some.injEq, Prod.mk.injEq] at e2
      obtain ⟨h1, h2, h3, h4, h5, h6, h7, h8⟩ := e2
      subst h1 h2 h3 h4 h5 h6 h8
      have c4 : (PySem.W.codeIn K n13 d.qual && (fileB K file n13 && (noneB n8 && cloB K n7 (d.own K)))) = true := c1
      obtain ⟨k1, c4⟩ := He.ba c4
      obtain ⟨k2, c5⟩ := He.ba c4
      obtain ⟨k3, c6⟩ := He.ba c5
      obtain ⟨cda, ccl, ccd, vs, ccs, z, tf, rfl, g1, g2, g3⟩ := fileB_ok k2
      have k3 : n8 = .none := by cases n8 <;> first | rfl | cases k3
      subst k3
      obtain ⟨a, cc, rfl, c7⟩ := cloB_ok c6
      have ea : a = "__class__" := by simpa using h7
      subst ea
      obtain ⟨cl, cld, csl, g4⟩ := cellB_ok c7
      exact ⟨_, ⟨oc, od, n9, n10, n11, n12, cda, n14, osl, cc, ccl, ccd, vs, ccs, z, tf, cl, cld, csl, cd, rfl, q, k1, g1, g2, by rw [hf]; exact g3, g4, hcd, hns⟩, kp⟩
    | _ => cases c1
def supB (K : PySem.W.Frag) (C D f2 : Addr) : Bool := decide (PySem.W.mroIn K C (.ref D) = some true) && (PySem.W.ks_superIn K C D "__init__" == some (some (.ref f2)) && (PySem.W.typeIn K (.ref f2) == some (.type "function") && PySem.W.fnIn K f2))
theorem supB_ok {K : PySem.W.Frag} {C D f2 : Addr} (h : supB K C D f2 = true) : SupC K C D f2 := by
  obtain ⟨h1, h⟩ := He.ba h
  obtain ⟨h2, h⟩ := He.ba h
  obtain ⟨h3, h4⟩ := He.ba h
  exact ⟨of_decide_eq_true h1, beq_iff_eq.mp h2, beq_iff_eq.mp h3, h4⟩
abbrev AlD3 : Type := AlD2 × List FnW3
def obsS (ns : List Str) (n : Nat) (fa : List He.Fa) (fn : List He5.DefA) (tf : List (PySem.W.Frag → Addr)) (ex : PySem.W.Frag → Bool) (ts : List He.Tab) (ds : List DefS) (g : Addr → Option Obj) : AlD3 :=
  (obsV ns n fa fn tf ex ts g, ds.map fun d => fnC (He.frT g (asW g ns n)) (d.at_ (He.frT g (asW g ns n))))
def hookS (ns : List Str) (n : Nat) (fa : List He.Fa) (fn : List He5.DefA) (tf : List (PySem.W.Frag → Addr)) (ex : PySem.W.Frag → Bool) (ts : List He.Tab) (ds : List DefS) : PySem.W.Hook where
  α := AlD3
  obs := fun s => obsS ns n fa fn tf ex ts ds s.heap.get?
  val := fun w => (((He5.valA fn, true), ts.map fun t => some (He.keysIn w.params t.2)), ds.map DefS.val)
  says := fun w h => ∃ K : PySem.W.Frag, K.In h ∧ SaysD2 fa fn tf ex ts w h K ∧ ∀ d ∈ ds, fnC K (d.at_ K) = d.val
  of := fun w s e => by
    have e0 : obsV ns n fa fn tf ex ts s.heap.get? = ((He5.valA fn, true), ts.map fun t => some (He.keysIn w.params t.2)) := congrArg (fun z : AlD3 => z.1) e
    have e3 : (ds.map fun d => fnC (He.frT s.heap.get? (asW s.heap.get? ns n)) (d.at_ (He.frT s.heap.get? (asW s.heap.get? ns n)))) = ds.map DefS.val := congrArg (fun z : AlD3 => z.2) e
    have e1 : obsW (asW s.heap.get? ns n) fa fn tf ex s.heap.get? = (He5.valA fn, true) := congrArg (fun z : AlD2 => z.1) e0
    have e2 : (ts.map fun t => He.dicW (He.frT s.heap.get? (asW s.heap.get? ns n)) (t.1 (He.frT s.heap.get? (asW s.heap.get? ns n)))) = ts.map fun t => some (He.keysIn w.params t.2) := congrArg (fun z : AlD2 => z.2) e0
    exact ⟨_, He.frT_in, ⟨saysW_of e1, fun t ht => List.map_inj_left.mp e2 t ht⟩, fun d hd => List.map_inj_left.mp e3 d hd⟩
  keeps := fun _ _ _ ⟨K, hK, ⟨c, d⟩, z⟩ k => ⟨K, PySem.W.Frag.In.keeps hK k, ⟨⟨c.t, c.more, c.hd, c.out, fun p hp => k _ _ (c.empty p hp)⟩, d⟩, z⟩
theorem obsS_eq {ns : List Str} {n : Nat} {fa : List He.Fa} {fn : List He5.DefA} {tf : List (PySem.W.Frag → Addr)} {ex : PySem.W.Frag → Bool} {ts : List He.Tab} {ds : List DefS} {g : Addr → Option Obj} {s : Shared} (h : ∀ a, g a = s.heap.get? a) : obsS ns n fa fn tf ex ts ds g = (hookS ns n fa fn tf ex ts ds).obs s := by
  obtain rfl : g = s.heap.get? := funext h
  rfl
end Q
namespace Q
open PySem PySem.Spec PyProof.Rows L2
/-! ### match: texts written as patterns -/
structure PMs (X : Cx) (cs : List MatchCase) (t : V → TS) : Prop where
  run : ∀ (pins : List (Addr × Obj)) (s : Shared) (σ : L2.St) (H : Hp) (D : Ends) (v : V) (u : Value) (b : Bool), Inv X pins σ H s → RelV v u → t v D σ H → wpAny (model X.prog X.w) X.A (matchCases cs X.env u b) (SP X pins D) X.xe s
def tNoCase : V → TS := fun _ D σ H => D.nx σ H
def tCase (K : PySem.W.Frag) (te : TE) (t : TS) (u : V → TS) : V → TS := fun v D σ H => te σ H fun y H1 => rEqX K v y H1 fun c H2 => ∃ k, c = .bl k ∧ if k = true then t D σ H2 else u v D σ H2
def tMatch (te : TE) (t : V → TS) : TS := fun D σ H => te σ H fun v H1 => t v D σ H1
section
variable {X : Cx} {cs : List MatchCase} {e : Expr} {body : List Stmt} {pos : Pos} {te : TE} {t : TS} {u : V → TS}
theorem pms_nil : PMs X [] tNoCase := ⟨fun pins s σ H D v u b I _ h => by
  show wpAny _ _ (pure Flow.next) _ _ _
  exact wpAny_pure ⟨σ, H, I, h⟩⟩
theorem pms_cons {g : Option Expr} (hu : X.A.units + 64 < cLine) (hg : g = none) (he : PE X e te) (hb : PSs X body t) (hr : PMs X cs u) : PMs X (⟨.MatchValue e pos, g, body⟩ :: cs) (tCase X.K te t u) := by
  subst hg
  refine ⟨fun pins s σ H D v x b I rv h => ?_⟩
  show wpAny _ _ (do
    match ← holding [x] (matchPattern (.MatchValue e pos) X.env x) with
    | none => matchCases cs X.env x false
    | some bs =>
      holding _ (assignInOrder (bs.map fun (n, _) => bindName X.env n) (bs.map (·.2)))
      let ok ← pure true
      if ok then execs body X.env else matchCases cs X.env x false) _ _ _
  refine wpAny_bind (wpAny_holding ?_)
  show wpAny _ _ (do
    let v ← eval e X.env
    standAt pos
    if ← truthy (← compareOp .Eq x v) then pure (some []) else pure none) _ _ _
  refine wpAny_bind (thn (he.run pins s σ H _ I h) fun w s1 ⟨y, H1, I1, ry, q1⟩ => ?_)
  refine wpAny_bind (wpAny_standAt ?_)
  refine wpAny_bind (thn (q_eq hu pins s1 σ H1 v y x w _ I1 rv ry q1) fun c s2 ⟨z, H2, I2, rz, k, ek, q2⟩ => ?_)
  subst ek
  cases rz
  refine wpAny_bind (wpAny_truthy_bool ?_)
  cases k with
  | true =>
    refine wpAny_pure ?_
    show wpAny _ _ (do
      holding _ (assignInOrder [] [])
      let ok ← pure true
      if ok then execs body X.env else matchCases cs X.env x false) _ _ _
    refine wpAny_bind (wpAny_holding ?_)
    show wpAny _ _ (pure ()) _ _ _
    refine wpAny_pure ?_
    exact hb.run pins s2 σ H2 D I2 q2
  | false =>
    refine wpAny_pure ?_
    exact hr.run pins s2 σ H2 D v x false I2 rv q2
theorem ps_match {cases : List MatchCase} {c : V → TS} (he : PE X e te) (hc : PMs X cases c) : PS X (.Match e cases pos) (tMatch te c) := by
  refine ⟨fun pins s σ H D I h => ?_⟩
  show wpAny _ _ (do
    standAt pos
    let v ← eval e X.env
    matchCases cases X.env v true) _ _ _
  refine wpAny_bind (wpAny_standAt ?_)
  refine wpAny_bind (thn (he.run pins s σ H _ I h) fun w s1 ⟨y, H1, I1, ry, q1⟩ => ?_)
  exact hc.run pins s1 σ H1 D y w true I1 ry q1
theorem r_match {c : V → TS} {D : Ends} {σ : L2.St} {H : Hp} (q : te σ H fun v H1 => c v D σ H1) : tMatch te c D σ H := q
theorem r_caseN {K : PySem.W.Frag} {z y : Str} {D : Ends} {σ : L2.St} {H : Hp} (h : decide (V.str z = V.str y) = false) (q : u (.str z) D σ H) : tCase K (tC (.str y)) t u (.str z) D σ H := by
  refine r_eqS rfl ⟨_, rfl, ?_⟩
  rw [h]
  exact q
theorem r_caseY {K : PySem.W.Frag} {z y : Str} {D : Ends} {σ : L2.St} {H : Hp} (h : decide (V.str z = V.str y) = true) (q : t D σ H) : tCase K (tC (.str y)) t u (.str z) D σ H := by
  refine r_eqS rfl ⟨_, rfl, ?_⟩
  rw [h]
  exact q
theorem r_noCase {v : V} {D : Ends} {σ : L2.St} {H : Hp} (q : D.nx σ H) : tNoCase v D σ H := q
end
end Q

namespace Q
open PySem PySem.Spec PyProof.Rows L2
/-! ### the statements; the run of the module -/
def top (i : Nat) : Stmt := PySem.Challenge.pw_soundtill_k12_rows_refused.main.body.getD i (.Pass ⟨0, 0, 0, 0⟩)
abbrev sDraw : Stmt := top 48
abbrev sPen : Stmt := top 47
abbrev sPick : Stmt := top 49
abbrev sIsInt : Stmt := top 15
abbrev sMoment : Stmt := top 16
abbrev sIsName : Stmt := top 17
abbrev sErrN : Stmt := inClass (top 3) 0
abbrev sErrM : Stmt := inClass (top 4) 0
abbrev sErrS : Stmt := inClass (top 5) 0
abbrev sNeedN : Stmt := top 26
abbrev sNeedM : Stmt := top 27
abbrev sRowI : Stmt := inClass (top 28) 1
abbrev sBegunI : Stmt := inClass (top 32) 0
abbrev sSetByI : Stmt := inClass (top 33) 0
abbrev sFoundI : Stmt := inClass (top 34) 0
abbrev sTrustedI : Stmt := inClass (top 35) 0
abbrev sPassedI : Stmt := inClass (top 36) 0
abbrev sFailedI : Stmt := inClass (top 37) 0
abbrev sMeetingI : Stmt := inClass (top 31) 0
abbrev sAgreedI : Stmt := inClass (top 38) 0
abbrev sDifferedI : Stmt := inClass (top 39) 0
abbrev sServedI : Stmt := inClass (top 40) 0
abbrev sBackedI : Stmt := inClass (top 41) 0
abbrev sWords : Stmt := top 50
abbrev sName : Stmt := top 51
abbrev sOddN : Stmt := top 52
abbrev sOddT : Stmt := top 53
abbrev sTick : Stmt := top 54
abbrev sKinds : Stmt := top 55
abbrev sForms : Stmt := top 59
abbrev sDrawn : Stmt := top 56
abbrev sBent : Stmt := top 60
abbrev sMade : Stmt := top 57
abbrev sHeard : Stmt := top 58
abbrev sLaw : Stmt := top 61
instance : Inhabited DefS := ⟨⟨fun _ => 0, fun _ => 0, "", "", .Pass ⟨0, 0, 0, 0⟩⟩⟩
abbrev fileL : Str := PySem.Challenge.pw_soundtill_k12_rows_refused.main.file
def dsL : List DefS := [⟨fun K => He.ma K (He.ga K "Meeting") "__init__", fun K => He.ga K "Meeting", "__init__", "Meeting.__init__", sMeetingI⟩, ⟨fun K => He.ma K (He.ga K "Begun") "__init__", fun K => He.ga K "Begun", "__init__", "Begun.__init__", sBegunI⟩, ⟨fun K => He.ma K (He.ga K "SetBy") "__init__", fun K => He.ga K "SetBy", "__init__", "SetBy.__init__", sSetByI⟩, ⟨fun K => He.ma K (He.ga K "Found") "__init__", fun K => He.ga K "Found", "__init__", "Found.__init__", sFoundI⟩, ⟨fun K => He.ma K (He.ga K "Trusted") "__init__", fun K => He.ga K "Trusted", "__init__", "Trusted.__init__", sTrustedI⟩, ⟨fun K => He.ma K (He.ga K "Passed") "__init__", fun K => He.ga K "Passed", "__init__", "Passed.__init__", sPassedI⟩, ⟨fun K => He.ma K (He.ga K "Failed") "__init__", fun K => He.ga K "Failed", "__init__", "Failed.__init__", sFailedI⟩, ⟨fun K => He.ma K (He.ga K "Agreed") "__init__", fun K => He.ga K "Agreed", "__init__", "Agreed.__init__", sAgreedI⟩, ⟨fun K => He.ma K (He.ga K "Differed") "__init__", fun K => He.ga K "Differed", "__init__", "Differed.__init__", sDifferedI⟩, ⟨fun K => He.ma K (He.ga K "Served") "__init__", fun K => He.ga K "Served", "__init__", "Served.__init__", sServedI⟩, ⟨fun K => He.ma K (He.ga K "Backed") "__init__", fun K => He.ga K "Backed", "__init__", "Backed.__init__", sBackedI⟩]
def fnL : List He5.DefA := [⟨fun K => He.ga K "law", "law", "law", defArgs sLaw, defBody sLaw, defScope sLaw, [], []⟩,
  ⟨fun K => He.ga K "is_integer", "is_integer", "is_integer", defArgs sIsInt, defBody sIsInt, defScope sIsInt, [], []⟩,
  ⟨fun K => He.ga K "is_moment", "is_moment", "is_moment", defArgs sMoment, defBody sMoment, defScope sMoment, [.int 0], []⟩,
  ⟨fun K => He.ga K "is_name", "is_name", "is_name", defArgs sIsName, defBody sIsName, defScope sIsName, [], []⟩,
  ⟨fun K => He.ma K (He.ga K "BadName") "__init__", "__init__", "BadName.__init__", defArgs sErrN, defBody sErrN, defScope sErrN, [], []⟩,
  ⟨fun K => He.ma K (He.ga K "BadMoment") "__init__", "__init__", "BadMoment.__init__", defArgs sErrM, defBody sErrM, defScope sErrM, [], []⟩,
  ⟨fun K => He.ma K (He.ga K "BadSaying") "__init__", "__init__", "BadSaying.__init__", defArgs sErrS, defBody sErrS, defScope sErrS, [], []⟩,
  ⟨fun K => He.ga K "need_name", "need_name", "need_name", defArgs sNeedN, defBody sNeedN, defScope sNeedN, [], []⟩,
  ⟨fun K => He.ga K "need_moment", "need_moment", "need_moment", defArgs sNeedM, defBody sNeedM, defScope sNeedM, [.int 0], []⟩,
  ⟨fun K => He.ma K (He.ga K "Row") "__init__", "__init__", "Row.__init__", defArgs sRowI, defBody sRowI, defScope sRowI, [], []⟩,
  ⟨fun K => He.ga K "_law_pen", "_law_pen", "_law_pen", defArgs sPen, defBody sPen, defScope sPen, [], []⟩,
  ⟨fun K => He.ga K "_law_draw", "_law_draw", "_law_draw", defArgs sDraw, defBody sDraw, defScope sDraw, [], []⟩,
  ⟨fun K => He.ga K "_law_pick", "_law_pick", "_law_pick", defArgs sPick, defBody sPick, defScope sPick, [], []⟩,
  ⟨fun K => He.ga K "_law_words", "_law_words", "_law_words", defArgs sWords, defBody sWords, defScope sWords, [], []⟩,
  ⟨fun K => He.ga K "_law_name", "_law_name", "_law_name", defArgs sName, defBody sName, defScope sName, [], []⟩,
  ⟨fun K => He.ga K "_law_odd_tick", "_law_odd_tick", "_law_odd_tick", defArgs sOddT, defBody sOddT, defScope sOddT, [], []⟩,
  ⟨fun K => He.ga K "_law_odd_name", "_law_odd_name", "_law_odd_name", defArgs sOddN, defBody sOddN, defScope sOddN, [], []⟩,
  ⟨fun K => He.ga K "_law_tick", "_law_tick", "_law_tick", defArgs sTick, defBody sTick, defScope sTick, [], []⟩,
  ⟨fun K => He.ga K "_law_kinds", "_law_kinds", "_law_kinds", defArgs sKinds, defBody sKinds, defScope sKinds, [], []⟩,
  ⟨fun K => He.ga K "_law_drawn", "_law_drawn", "_law_drawn", defArgs sDrawn, defBody sDrawn, defScope sDrawn, [], []⟩,
  ⟨fun K => He.ga K "_law_forms", "_law_forms", "_law_forms", defArgs sForms, defBody sForms, defScope sForms, [], []⟩,
  ⟨fun K => He.ga K "_law_bent", "_law_bent", "_law_bent", defArgs sBent, defBody sBent, defScope sBent, [], []⟩,
  ⟨fun K => He.ga K "_law_made", "_law_made", "_law_made", defArgs sMade, defBody sMade, defScope sMade, [], []⟩,
  ⟨fun K => He.ga K "_law_heard", "_law_heard", "_law_heard", defArgs sHeard, defBody sHeard, defScope sHeard, [], []⟩]
def faL : List He.Fa := [.free "int", .free "len", .free "abs", .free "list", .free "range", .free "repr", .free "str", .free "isinstance", .free "all", .free "any", .free "bool", .free "tuple", .free "sorted", .free "set", .free "dict", .free "enumerate", .free "zip", .free "min", .free "max", .free "ValueError", .glo "law", .glo "is_integer", .glo "is_moment", .glo "is_name", .glo "RESERVED", .str "LETTERS" zLetters, .str "FIGURES" zFigures, .int "MOST_SIGNS" 8, .int "MOST_MOMENT" 1000000000000000000000000000000, .meth "BadName" "__init__", .glo "BadName", .meth "BadMoment" "__init__", .glo "BadMoment", .meth "BadSaying" "__init__", .glo "BadSaying", .free "super", .glo "need_name", .glo "need_moment", .meth "Row" "__init__", .meth "Meeting" "__init__", .glo "Begun", .cls "Begun", .mkr "Begun", .noat "Begun" "kind", .noat "Begun" "words", .noat "Begun" "named", .noat "Begun" "told_at", .noat "Begun" "tool", .noat "Begun" "moment", .meth "Begun" "__init__", .glo "SetBy", .cls "SetBy", .mkr "SetBy", .noat "SetBy" "kind", .noat "SetBy" "words", .noat "SetBy" "named", .noat "SetBy" "told_at", .noat "SetBy" "tool", .noat "SetBy" "moment", .noat "SetBy" "by", .meth "SetBy" "__init__", .glo "Found", .cls "Found", .mkr "Found", .noat "Found" "kind", .noat "Found" "words", .noat "Found" "named", .noat "Found" "told_at", .noat "Found" "tool", .noat "Found" "moment", .noat "Found" "is_sound", .meth "Found" "__init__", .glo "Trusted", .cls "Trusted", .mkr "Trusted", .noat "Trusted" "kind", .noat "Trusted" "words", .noat "Trusted" "named", .noat "Trusted" "told_at", .noat "Trusted" "tool", .meth "Trusted" "__init__", .glo "Passed", .cls "Passed", .mkr "Passed", .noat "Passed" "kind", .noat "Passed" "words", .noat "Passed" "named", .noat "Passed" "told_at", .noat "Passed" "tool", .noat "Passed" "moment", .noat "Passed" "by", .meth "Passed" "__init__", .glo "Failed", .cls "Failed", .mkr "Failed", .noat "Failed" "kind", .noat "Failed" "words", .noat "Failed" "named", .noat "Failed" "told_at", .noat "Failed" "tool", .noat "Failed" "moment", .noat "Failed" "by", .meth "Failed" "__init__", .glo "Agreed", .cls "Agreed", .mkr "Agreed", .noat "Agreed" "kind", .noat "Agreed" "words", .noat "Agreed" "named", .noat "Agreed" "told_at", .noat "Agreed" "one", .noat "Agreed" "moment", .noat "Agreed" "other", .noat "Agreed" "later", .meth "Agreed" "__init__", .glo "Differed", .cls "Differed", .mkr "Differed", .noat "Differed" "kind", .noat "Differed" "words", .noat "Differed" "named", .noat "Differed" "told_at", .noat "Differed" "one", .noat "Differed" "moment", .noat "Differed" "other", .noat "Differed" "later", .meth "Differed" "__init__", .glo "Served", .cls "Served", .mkr "Served", .noat "Served" "kind", .noat "Served" "words", .noat "Served" "named", .noat "Served" "told_at", .noat "Served" "one", .noat "Served" "moment", .noat "Served" "other", .noat "Served" "later", .meth "Served" "__init__", .glo "Backed", .cls "Backed", .mkr "Backed", .noat "Backed" "kind", .noat "Backed" "words", .noat "Backed" "named", .noat "Backed" "told_at", .noat "Backed" "one", .noat "Backed" "moment", .noat "Backed" "other", .noat "Backed" "later", .meth "Backed" "__init__", .glo "_law_pen", .glo "_law_draw", .glo "_law_pick", .glo "_law_words", .glo "_law_name", .glo "_law_odd_tick", .glo "_law_odd_name", .glo "_law_tick", .glo "_law_kinds", .glo "_law_drawn", .glo "_law_forms", .glo "_law_bent", .glo "_law_made", .glo "_law_heard", .glo "TillError"]
def exL (K : PySem.W.Frag) : Bool := He.tupB K "RESERVED" [.str "begun", .str "setby", .str "found", .str "trusted", .str "passed", .str "failed", .str "agreed", .str "differed", .str "served", .str "backed", .str "sound", .str "unsound", .str "sure", .str "never", .str "open", .str "none", .str "record", .str "lot", .str "menu", .str "wanted"] &&
  (oexB K (He.ga K "BadName") &&
  (hdB K (He.ga K "BadName") "name" &&
  (oexB K (He.ga K "BadMoment") &&
  (hdB K (He.ga K "BadMoment") "moment" &&
  (oexB K (He.ga K "BadSaying") &&
  (hdB K (He.ga K "BadSaying") "value" &&
  (DefS.ok fileL K (dsL.getD 0 default) &&
  (DefS.ok fileL K (dsL.getD 1 default) &&
  (supB K (He.ga K "Begun") (He.ga K "Begun") (He.ma K (He.ga K "Row") "__init__") &&
  (DefS.ok fileL K (dsL.getD 2 default) &&
  (supB K (He.ga K "SetBy") (He.ga K "SetBy") (He.ma K (He.ga K "Row") "__init__") &&
  (DefS.ok fileL K (dsL.getD 3 default) &&
  (supB K (He.ga K "Found") (He.ga K "Found") (He.ma K (He.ga K "Row") "__init__") &&
  (DefS.ok fileL K (dsL.getD 4 default) &&
  (supB K (He.ga K "Trusted") (He.ga K "Trusted") (He.ma K (He.ga K "Row") "__init__") &&
  (DefS.ok fileL K (dsL.getD 5 default) &&
  (supB K (He.ga K "Passed") (He.ga K "Passed") (He.ma K (He.ga K "Row") "__init__") &&
  (DefS.ok fileL K (dsL.getD 6 default) &&
  (supB K (He.ga K "Failed") (He.ga K "Failed") (He.ma K (He.ga K "Row") "__init__") &&
  (DefS.ok fileL K (dsL.getD 7 default) &&
  (supB K (He.ga K "Agreed") (He.ga K "Agreed") (He.ma K (He.ga K "Meeting") "__init__") &&
  (supB K (He.ga K "Agreed") (He.ga K "Meeting") (He.ma K (He.ga K "Row") "__init__") &&
  (DefS.ok fileL K (dsL.getD 8 default) &&
  (supB K (He.ga K "Differed") (He.ga K "Differed") (He.ma K (He.ga K "Meeting") "__init__") &&
  (supB K (He.ga K "Differed") (He.ga K "Meeting") (He.ma K (He.ga K "Row") "__init__") &&
  (DefS.ok fileL K (dsL.getD 9 default) &&
  (supB K (He.ga K "Served") (He.ga K "Served") (He.ma K (He.ga K "Meeting") "__init__") &&
  (supB K (He.ga K "Served") (He.ga K "Meeting") (He.ma K (He.ga K "Row") "__init__") &&
  (DefS.ok fileL K (dsL.getD 10 default) &&
  (supB K (He.ga K "Backed") (He.ga K "Backed") (He.ma K (He.ga K "Meeting") "__init__") &&
  (supB K (He.ga K "Backed") (He.ga K "Meeting") (He.ma K (He.ga K "Row") "__init__") &&
  (smB K &&
  (decide (PySem.W.exmOne K (.ref (He.ga K "BadName")) (.ref (He.ga K "TillError")) = some true ∧ PySem.W.exmOne K (.ref (He.ga K "BadMoment")) (.ref (He.ga K "TillError")) = some true ∧ PySem.W.exmOne K (.ref (He.ga K "BadSaying")) (.ref (He.ga K "TillError")) = some true ∧ PySem.W.kitOne K (.ref (He.ga K "BadName")) (.ref (He.ga K "BadName")) = some true ∧ PySem.W.kitOne K (.ref (He.ga K "BadName")) (.ref (He.ga K "BadMoment")) = some false ∧ PySem.W.kitOne K (.ref (He.ga K "BadName")) (.ref (He.ga K "BadSaying")) = some false ∧ PySem.W.kitOne K (.ref (He.ga K "BadMoment")) (.ref (He.ga K "BadName")) = some false ∧ PySem.W.kitOne K (.ref (He.ga K "BadMoment")) (.ref (He.ga K "BadMoment")) = some true ∧ PySem.W.kitOne K (.ref (He.ga K "BadMoment")) (.ref (He.ga K "BadSaying")) = some false ∧ PySem.W.kitOne K (.ref (He.ga K "BadSaying")) (.ref (He.ga K "BadName")) = some false ∧ PySem.W.kitOne K (.ref (He.ga K "BadSaying")) (.ref (He.ga K "BadMoment")) = some false ∧ PySem.W.kitOne K (.ref (He.ga K "BadSaying")) (.ref (He.ga K "BadSaying")) = some true))))))))))))))))))))))))))))))))))
abbrev tfL : List (PySem.W.Frag → Addr) := [fun K => He.ga K "law"]
abbrev RL : PySem.W.OpenRow := PySem.W.OpenLaw.row PySem.Challenge.rw_soundtill_k12_rows_refused
abbrev nsL : List Str := (("Agreed" : PySem.Str) :: ("Backed" : PySem.Str) :: ("BadMoment" : PySem.Str) :: ("BadName" : PySem.Str) :: ("BadSaying" : PySem.Str) :: ("Begun" : PySem.Str) :: ("Differed" : PySem.Str) :: ("Failed" : PySem.Str) :: ("Found" : PySem.Str) :: ("Meeting" : PySem.Str) :: ("Passed" : PySem.Str) :: ("RESERVED" : PySem.Str) :: ("Row" : PySem.Str) :: ("Served" : PySem.Str) :: ("SetBy" : PySem.Str) :: ("TillError" : PySem.Str) :: ("Trusted" : PySem.Str) :: ("_law_bent" : PySem.Str) :: ("_law_draw" : PySem.Str) :: ("_law_drawn" : PySem.Str) :: ("_law_forms" : PySem.Str) :: ("_law_heard" : PySem.Str) :: ("_law_kinds" : PySem.Str) :: ("_law_made" : PySem.Str) :: ("_law_name" : PySem.Str) :: ("_law_odd_name" : PySem.Str) :: ("_law_odd_tick" : PySem.Str) :: ("_law_pen" : PySem.Str) :: ("_law_pick" : PySem.Str) :: ("_law_tick" : PySem.Str) :: ("_law_words" : PySem.Str) :: ("is_integer" : PySem.Str) :: ("is_moment" : PySem.Str) :: ("is_name" : PySem.Str) :: ("law" : PySem.Str) :: ("need_moment" : PySem.Str) :: ("need_name" : PySem.Str) :: [])
abbrev tsL : List He.Tab := []
abbrev hkL : PySem.W.Hook := hookS nsL 6 faL fnL tfL exL tsL dsL
def obL (s : PySem.W.SharedT) : AlD3 := obsS nsL 6 faL fnL tfL exL tsL dsL (HandSHeadRun.getT s)
theorem obL_eq (s : PySem.W.SharedT) : obL s = hkL.obs s.abs := obsS_eq (HandSHeadRun.getT_eq s)
theorem runA (w : World) : HandSHeadRun.RunEq RL (PySem.W.view RL.prog [61]) hkL obL 12000 (("_wall" : PySem.Str) :: ("__name__" : PySem.Str) :: ("TillError" : PySem.Str) :: ("BadName" : PySem.Str) :: ("BadMoment" : PySem.Str) :: ("BadSaying" : PySem.Str) :: ("NoTool" : PySem.Str) :: ("BadText" : PySem.Str) :: ("RESERVED" : PySem.Str) :: ("LETTERS" : PySem.Str) :: ("FIGURES" : PySem.Str) :: ("MOST_SIGNS" : PySem.Str) :: ("MOST_FIGURES" : PySem.Str) :: ("MOST_MOMENT" : PySem.Str) :: ("is_integer" : PySem.Str) :: ("is_moment" : PySem.Str) :: ("is_name" : PySem.Str) :: ("moment_in" : PySem.Str) :: ("TRUTHS" : PySem.Str) :: ("MANY_WORDS" : PySem.Str) :: ("Saying" : PySem.Str) :: ("FORMS" : PySem.Str) :: ("BEGINNINGS" : PySem.Str) :: ("need_name" : PySem.Str) :: ("need_moment" : PySem.Str) :: ("Row" : PySem.Str) :: ("Beginning" : PySem.Str) :: ("Check" : PySem.Str) :: ("Meeting" : PySem.Str) :: ("Begun" : PySem.Str) :: ("SetBy" : PySem.Str) :: ("Found" : PySem.Str) :: ("Trusted" : PySem.Str) :: ("Passed" : PySem.Str) :: ("Failed" : PySem.Str) :: ("Agreed" : PySem.Str) :: ("Differed" : PySem.Str) :: ("Served" : PySem.Str) :: ("Backed" : PySem.Str) :: ("made_meeting" : PySem.Str) :: ("made_row" : PySem.Str) :: ("fits" : PySem.Str) :: ("row_in" : PySem.Str) :: ("_law_pen" : PySem.Str) :: ("_law_draw" : PySem.Str) :: ("_law_pick" : PySem.Str) :: ("_law_words" : PySem.Str) :: ("_law_name" : PySem.Str) :: ("_law_odd_name" : PySem.Str) :: ("_law_odd_tick" : PySem.Str) :: ("_law_tick" : PySem.Str) :: ("_law_kinds" : PySem.Str) :: ("_law_drawn" : PySem.Str) :: ("_law_made" : PySem.Str) :: ("_law_heard" : PySem.Str) :: ("_law_forms" : PySem.Str) :: ("_law_bent" : PySem.Str) :: []) (w.withFollow "special-get-raises" false) := by
  intro os
  kernel_rfl
theorem runB (w : World) : HandSHeadRun.RunEq RL (PySem.W.view RL.prog [61]) hkL obL 12000 (("_wall" : PySem.Str) :: ("__name__" : PySem.Str) :: ("TillError" : PySem.Str) :: ("BadName" : PySem.Str) :: ("BadMoment" : PySem.Str) :: ("BadSaying" : PySem.Str) :: ("NoTool" : PySem.Str) :: ("BadText" : PySem.Str) :: ("RESERVED" : PySem.Str) :: ("LETTERS" : PySem.Str) :: ("FIGURES" : PySem.Str) :: ("MOST_SIGNS" : PySem.Str) :: ("MOST_FIGURES" : PySem.Str) :: ("MOST_MOMENT" : PySem.Str) :: ("is_integer" : PySem.Str) :: ("is_moment" : PySem.Str) :: ("is_name" : PySem.Str) :: ("moment_in" : PySem.Str) :: ("TRUTHS" : PySem.Str) :: ("MANY_WORDS" : PySem.Str) :: ("Saying" : PySem.Str) :: ("FORMS" : PySem.Str) :: ("BEGINNINGS" : PySem.Str) :: ("need_name" : PySem.Str) :: ("need_moment" : PySem.Str) :: ("Row" : PySem.Str) :: ("Beginning" : PySem.Str) :: ("Check" : PySem.Str) :: ("Meeting" : PySem.Str) :: ("Begun" : PySem.Str) :: ("SetBy" : PySem.Str) :: ("Found" : PySem.Str) :: ("Trusted" : PySem.Str) :: ("Passed" : PySem.Str) :: ("Failed" : PySem.Str) :: ("Agreed" : PySem.Str) :: ("Differed" : PySem.Str) :: ("Served" : PySem.Str) :: ("Backed" : PySem.Str) :: ("made_meeting" : PySem.Str) :: ("made_row" : PySem.Str) :: ("fits" : PySem.Str) :: ("row_in" : PySem.Str) :: ("_law_pen" : PySem.Str) :: ("_law_draw" : PySem.Str) :: ("_law_pick" : PySem.Str) :: ("_law_words" : PySem.Str) :: ("_law_name" : PySem.Str) :: ("_law_odd_name" : PySem.Str) :: ("_law_odd_tick" : PySem.Str) :: ("_law_tick" : PySem.Str) :: ("_law_kinds" : PySem.Str) :: ("_law_drawn" : PySem.Str) :: ("_law_made" : PySem.Str) :: ("_law_heard" : PySem.Str) :: ("_law_forms" : PySem.Str) :: ("_law_bent" : PySem.Str) :: []) (w.withFollow "special-get-raises" true) := by
  intro os
  kernel_rfl
theorem runL (w : World) : HandSHeadRun.RunEq RL (PySem.W.view RL.prog [61]) hkL obL 12000 (("_wall" : PySem.Str) :: ("__name__" : PySem.Str) :: ("TillError" : PySem.Str) :: ("BadName" : PySem.Str) :: ("BadMoment" : PySem.Str) :: ("BadSaying" : PySem.Str) :: ("NoTool" : PySem.Str) :: ("BadText" : PySem.Str) :: ("RESERVED" : PySem.Str) :: ("LETTERS" : PySem.Str) :: ("FIGURES" : PySem.Str) :: ("MOST_SIGNS" : PySem.Str) :: ("MOST_FIGURES" : PySem.Str) :: ("MOST_MOMENT" : PySem.Str) :: ("is_integer" : PySem.Str) :: ("is_moment" : PySem.Str) :: ("is_name" : PySem.Str) :: ("moment_in" : PySem.Str) :: ("TRUTHS" : PySem.Str) :: ("MANY_WORDS" : PySem.Str) :: ("Saying" : PySem.Str) :: ("FORMS" : PySem.Str) :: ("BEGINNINGS" : PySem.Str) :: ("need_name" : PySem.Str) :: ("need_moment" : PySem.Str) :: ("Row" : PySem.Str) :: ("Beginning" : PySem.Str) :: ("Check" : PySem.Str) :: ("Meeting" : PySem.Str) :: ("Begun" : PySem.Str) :: ("SetBy" : PySem.Str) :: ("Found" : PySem.Str) :: ("Trusted" : PySem.Str) :: ("Passed" : PySem.Str) :: ("Failed" : PySem.Str) :: ("Agreed" : PySem.Str) :: ("Differed" : PySem.Str) :: ("Served" : PySem.Str) :: ("Backed" : PySem.Str) :: ("made_meeting" : PySem.Str) :: ("made_row" : PySem.Str) :: ("fits" : PySem.Str) :: ("row_in" : PySem.Str) :: ("_law_pen" : PySem.Str) :: ("_law_draw" : PySem.Str) :: ("_law_pick" : PySem.Str) :: ("_law_words" : PySem.Str) :: ("_law_name" : PySem.Str) :: ("_law_odd_name" : PySem.Str) :: ("_law_odd_tick" : PySem.Str) :: ("_law_tick" : PySem.Str) :: ("_law_kinds" : PySem.Str) :: ("_law_drawn" : PySem.Str) :: ("_law_made" : PySem.Str) :: ("_law_heard" : PySem.Str) :: ("_law_forms" : PySem.Str) :: ("_law_bent" : PySem.Str) :: []) w :=
  PySem.W.byRow2 "special-get-raises" (P := fun w => HandSHeadRun.RunEq RL (PySem.W.view RL.prog [61]) hkL obL 12000 (("_wall" : PySem.Str) :: ("__name__" : PySem.Str) :: ("TillError" : PySem.Str) :: ("BadName" : PySem.Str) :: ("BadMoment" : PySem.Str) :: ("BadSaying" : PySem.Str) :: ("NoTool" : PySem.Str) :: ("BadText" : PySem.Str) :: ("RESERVED" : PySem.Str) :: ("LETTERS" : PySem.Str) :: ("FIGURES" : PySem.Str) :: ("MOST_SIGNS" : PySem.Str) :: ("MOST_FIGURES" : PySem.Str) :: ("MOST_MOMENT" : PySem.Str) :: ("is_integer" : PySem.Str) :: ("is_moment" : PySem.Str) :: ("is_name" : PySem.Str) :: ("moment_in" : PySem.Str) :: ("TRUTHS" : PySem.Str) :: ("MANY_WORDS" : PySem.Str) :: ("Saying" : PySem.Str) :: ("FORMS" : PySem.Str) :: ("BEGINNINGS" : PySem.Str) :: ("need_name" : PySem.Str) :: ("need_moment" : PySem.Str) :: ("Row" : PySem.Str) :: ("Beginning" : PySem.Str) :: ("Check" : PySem.Str) :: ("Meeting" : PySem.Str) :: ("Begun" : PySem.Str) :: ("SetBy" : PySem.Str) :: ("Found" : PySem.Str) :: ("Trusted" : PySem.Str) :: ("Passed" : PySem.Str) :: ("Failed" : PySem.Str) :: ("Agreed" : PySem.Str) :: ("Differed" : PySem.Str) :: ("Served" : PySem.Str) :: ("Backed" : PySem.Str) :: ("made_meeting" : PySem.Str) :: ("made_row" : PySem.Str) :: ("fits" : PySem.Str) :: ("row_in" : PySem.Str) :: ("_law_pen" : PySem.Str) :: ("_law_draw" : PySem.Str) :: ("_law_pick" : PySem.Str) :: ("_law_words" : PySem.Str) :: ("_law_name" : PySem.Str) :: ("_law_odd_name" : PySem.Str) :: ("_law_odd_tick" : PySem.Str) :: ("_law_tick" : PySem.Str) :: ("_law_kinds" : PySem.Str) :: ("_law_drawn" : PySem.Str) :: ("_law_made" : PySem.Str) :: ("_law_heard" : PySem.Str) :: ("_law_forms" : PySem.Str) :: ("_law_bent" : PySem.Str) :: []) w) runA runB w
end Q
/-! ### the steps as tactics -/
open PySem PySem.Spec PyProof.Rows L2 Q
local macro_rules | `(tactic| walk_at "ne") => `(tactic| first
  | assumption
  | (refine' Ne.symm ?h; (case h => assumption))
  | (refine' (by assumption : ∀ m ∈ _, _ ≠ m) _ ?h; (case h => simp))
  | (refine' Ne.symm ((by assumption : ∀ m ∈ _, _ ≠ m) _ ?h); (case h => simp)))
local macro_rules | `(tactic| walk_at "atg") => `(tactic| first
  | assumption
  | (refine' same_at ?s ?h; (case s => assumption); (case h => walk_at "atg")))
local macro_rules | `(tactic| walk_at "at") => `(tactic| first
  | assumption
  | exact upd_same
  | (refine' wd_at ?w ?h; (case w => assumption); (case h => walk_at "atg"))
  | (refine' same_at ?s ?h; (case s => assumption); (case h => walk_at "at"))
  | (refine' but_at ?b ?n ?h; (case b => assumption); (case h => walk_at "at"); (case n => walk_at "ne")))
local macro_rules | `(tactic| walk_at "sqg") => `(tactic| first
  | assumption
  | (refine' SqL.of ?h; (case h => walk_at "atg"))
  | (refine' SqT.of ?h; (case h => walk_at "atg"))
  | (refine' same_sqL ?s ?h; (case s => assumption); (case h => walk_at "sqg"))
  | (refine' same_sqT ?s ?h; (case s => assumption); (case h => walk_at "sqg")))
local macro_rules | `(tactic| walk_at "sq") => `(tactic| first
  | assumption
  | (refine' SqL.of ?h; (case h => walk_at "at"))
  | (refine' SqT.of ?h; (case h => walk_at "at"))
  | (refine' wd_sqL ?w ?h; (case w => assumption); (case h => walk_at "sqg"))
  | (refine' wd_sqT ?w ?h; (case w => assumption); (case h => walk_at "sqg")))
local macro_rules | `(tactic| walk_at "dpaG") => `(tactic| first
  | exact DpAll.nil
  | (refine' DpAll.cons ?a ?b; (case a => walk_at "dpG"); (case b => walk_at "dpaG"))
  | exact dpa_ints _
  | assumption
  | (refine' same_dpa ?s ?h; (case s => assumption); (case h => assumption)))
local macro_rules | `(tactic| walk_at "dpG") => `(tactic| first
  | exact Dp.bl _ | exact Dp.int _ | exact Dp.str _ | exact Dp.non
  | assumption
  | (refine' Dp.lst ?h ?a; (case h => walk_at "sqg"); (case a => walk_at "dpaG"))
  | (refine' Dp.tup ?h ?a; (case h => walk_at "sqg"); (case a => walk_at "dpaG"))
  | (refine' same_dp ?s ?h; (case s => assumption); (case h => walk_at "dpG")))
local macro_rules | `(tactic| walk_at "dpa") => `(tactic| first
  | exact DpAll.nil
  | (refine' DpAll.cons ?a ?b; (case a => walk_at "dp"); (case b => walk_at "dpa"))
  | exact dpa_ints _
  | assumption)
local macro_rules | `(tactic| walk_at "dp") => `(tactic| first
  | exact Dp.bl _ | exact Dp.int _ | exact Dp.str _ | exact Dp.non
  | assumption
  | (refine' wd_dp ?w ?h; (case w => assumption); (case h => walk_at "dpG"))
  | (refine' Dp.lst ?h ?a; (case h => walk_at "sq"); (case a => walk_at "dpa"))
  | (refine' Dp.tup ?h ?a; (case h => walk_at "sq"); (case a => walk_at "dpa")))
local macro_rules | `(tactic| walk_at "pen") => `(tactic| first
  | assumption
  | (refine' PenAt.same ?P ?s; (case s => assumption); (case P => walk_at "pen"))
  | (refine' PenAt.but ?P ?b ?n; (case b => assumption); (case P => walk_at "pen"); (case n => walk_at "ne")))
local macro_rules | `(tactic| walk_at "cells") => `(tactic| first
  | assumption
  | (refine' Cells.same ?P ?s; (case s => assumption); (case P => walk_at "cells")))
local macro_rules | `(tactic| walk_at "cond") => `(tactic| first | omega | decide | with_reducible assumption | (simp; done))
local macro_rules | `(tactic| walk_at "size") => `(tactic| first | decide | (refine' sz_m ?h; (case h => first | omega | exact Nat.le_of_ble_eq_true rfl | (simp; done) | (simp; omega))))
local macro_rules | `(tactic| walk_at "js") => `(tactic| (refine' sz_m ?h; (case h => (simp only [Str.length_append]; first | omega | (simp; omega) | (simp [Str.length, Str.empty]; omega)))))
local macro_rules | `(tactic| walk_at "lsz") => `(tactic| first | assumption | (refine' Nat.lt_of_lt_of_le (m := 1000000) ?h ?g; (case g => decide); (case h => first | exact Nat.le_of_ble_eq_true rfl | omega | (simp; done) | (simp; omega))))
local macro_rules | `(tactic| walk_at "say") => `(tactic| first
  | assumption
  | (refine' SayAt.same ?h ?s; (case s => assumption); (case h => walk_at "say")))
local macro_rules | `(tactic| walk_at "qu") => `(tactic| fail "no user step")
local macro_rules | `(tactic| walk_at "q") => `(tactic| first
  | with_reducible refine' r_seq ?_ | with_reducible refine' r_asg ?_ | with_reducible refine' r_name ?_ | with_reducible refine' r_op ?_
  | ((with_reducible refine' r_var ?h ?_); (case h => exact rfl))
  | with_reducible refine' r_c ?_ | with_reducible refine' r_cb ?_ | with_reducible refine' r_cons ?_ | with_reducible refine' r_nil ?_
  | with_reducible refine' r_call0 ?_ | with_reducible refine' r_call ?_ | with_reducible refine' r_ret ?_ | with_reducible refine' r_next ?_ | with_reducible refine' r_drop ?_ | with_reducible refine' r_ifS ?_
  | with_reducible refine' r_test ?_ | with_reducible refine' r_tB ?_ | with_reducible refine' r_exb ?_ | with_reducible refine' r_and ?_ | with_reducible refine' r_or ?_ | with_reducible refine' r_not ?_
  | with_reducible refine' r_andV ?_ | with_reducible refine' r_orV ?_ | with_reducible refine' r_notV ?_ | with_reducible refine' r_ifE ?_ | with_reducible refine' r_chain ?_ | with_reducible refine' r_un ?_
  | with_reducible refine' r_tup ?_ | with_reducible refine' r_lst ?_ | with_reducible refine' r_lstM ?_ | with_reducible refine' r_gSub ?_ | with_reducible refine' r_sl ?_ | with_reducible refine' r_noPart ?_ | with_reducible refine' r_part ?_ | with_reducible refine' r_exi ?_
  | with_reducible refine' iteT ?_ | with_reducible refine' iteF ?_ | with_reducible refine' ite_nt ?_ | with_reducible refine' ite_nf ?_
  | with_reducible refine' r_addI ?_ | with_reducible refine' r_sub ?_ | with_reducible refine' r_lt ?_ | with_reducible refine' r_le ?_ | with_reducible refine' r_gt ?_ | with_reducible refine' r_ge ?_ | with_reducible refine' r_ltS ?_
  | with_reducible refine' r_isN ?_ | with_reducible refine' r_notN ?_
  | with_reducible refine' r_int ?_ | with_reducible refine' r_intB ?_ | with_reducible refine' r_abs ?_
  | ((with_reducible refine' r_addS ?h ?_); (case h => first | walk_at "size" | walk_at "cond"))
  | ((with_reducible refine' r_mul ?h ?_); (case h => first | (exact Or.inl ⟨by walk_at "cond", by walk_at "cond"⟩) | (exact Or.inr ⟨by walk_at "cond", by walk_at "cond"⟩)))
  | ((with_reducible refine' r_mod ?h ?_); (case h => walk_at "cond"))
  | ((with_reducible refine' r_fdiv ?h ?_); (case h => first | with_reducible assumption | exact cdiv_lit (by decide) (by decide) | (refine ‹∀ x : Int, CDivW x _› _)))
  | ((with_reducible refine' r_pow ?h ?_); (case h => exact ⟨by walk_at "cond", by walk_at "cond", by walk_at "cond"⟩))
  | ((with_reducible refine' r_ixL ?h ?e ?_); (case h => walk_at "sq"); (case e => first | exact rfl | assumption))
  | ((with_reducible refine' r_ixT ?h ?e ?_); (case h => walk_at "sq"); (case e => first | exact rfl | assumption))
  | ((with_reducible refine' r_setM ?w ?m ?h ?e ?_); (case w => assumption); (case m => simp; done); (case h => walk_at "at"); (case e => exact rfl); intro H' w' h' b')
  | ((with_reducible refine' r_lenL ?h ?_); (case h => walk_at "sq"))
  | ((with_reducible refine' r_lenT ?h ?_); (case h => walk_at "sq"))
  | ((with_reducible refine' r_lenS ?h ?_); (case h => walk_at "size"))
  | ((with_reducible refine' r_ixS ?h ?e ?_); (case h => walk_at "size"); (case e => first | assumption | exact rfl))
  | ((with_reducible refine' r_ixA ?h ?e ?_); (case h => assumption); (case e => first | assumption | exact rfl))
  | ((with_reducible refine' r_listL ?h ?_); (case h => walk_at "sq"))
  | ((with_reducible refine' r_listT ?h ?_); (case h => walk_at "sq"))
  | ((with_reducible refine' r_slS ?h ?_); (case h => walk_at "size"))
  | ((with_reducible refine' r_addL ?h1 ?h2 ?_); (case h1 => walk_at "at"); (case h2 => walk_at "at"))
  | ((with_reducible refine' r_slL ?h ?_); (case h => walk_at "sq"))
  | ((with_reducible refine' r_eq ?h ?_); (case h => exact rfl))
  | with_reducible refine' r_tFldX ?_ | ((with_reducible refine' r_tyL ?h ?_); (case h => walk_at "sq"))
  | ((with_reducible refine' r_eqS ?h ?_); (case h => exact rfl))
  | ((with_reducible refine' r_neS ?h ?_); (case h => exact rfl))
  | ((with_reducible refine' r_eqD ?h1 ?h2 ?s1 ?s2 ?_); (case h1 => walk_at "dp"); (case h2 => walk_at "dp"); (case s1 => walk_at "shp"); (case s2 => walk_at "shp"))
  | ((with_reducible refine' r_neD ?h1 ?h2 ?s1 ?s2 ?_); (case h1 => walk_at "dp"); (case h2 => walk_at "dp"); (case s1 => walk_at "shp"); (case s2 => walk_at "shp"))
  | ((with_reducible refine' r_repr ?h ?s ?d ?z ?_); (case h => walk_at "dp"); (case s => walk_at "shw"); (case d => walk_at "shw"); (case z => walk_at "shw"))
  | ((with_reducible refine' r_layM ?w ?l ?n ?_); (case w => assumption); (case l => walk_at "size"); (case n => rfl); intro p' H' n' w' h' s' d')
  | ((with_reducible refine' r_lay ?w ?l ?n ?_); (case w => assumption); (case l => walk_at "size"); (case n => (intro ps z; cases z)); intro p' G' H' n' w' s' h' t')
  | with_reducible refine' r_for ?_ | with_reducible refine' r_lc ?_ | with_reducible refine' r_iList ?_ | with_reducible refine' r_iTup ?_ | with_reducible refine' r_iStr ?_ | with_reducible refine' r_exs ?_
  | with_reducible refine' r_rng1 ?_ | with_reducible refine' r_rng2 ?_ | with_reducible refine' r_iEnum ?_ | with_reducible refine' r_yes ?_ | with_reducible refine' r_inSign ?_
  | ((with_reducible refine' r_rng1R ?a ?b ?_); (case a => walk_at "cond"); (case b => walk_at "cond"))
  | ((with_reducible refine' r_rng2R ?a ?_); (case a => exact ⟨by walk_at "cond", by walk_at "cond", by walk_at "cond", by walk_at "cond"⟩))
  | ((with_reducible refine' r_iListR ?h ?_); (case h => walk_at "sq"))
  | ((with_reducible refine' r_iTupR ?h ?_); (case h => walk_at "sq"))
  | ((with_reducible refine' r_iEnumR ?h ?_); (case h => walk_at "sq"))
  | ((with_reducible refine' r_lcT ?h ?_); (case h => exact rfl))
  | ((with_reducible refine' r_all ?h ?_); (case h => walk_at "sq"))
  | with_reducible refine' r_isi_int_int ?_ | with_reducible refine' r_isi_int_bool ?_ | with_reducible refine' r_isi_int_str ?_ | with_reducible refine' r_isi_int_list ?_ | with_reducible refine' r_isi_int_tuple ?_ | with_reducible refine' r_isi_int_dict ?_ | with_reducible refine' r_isi_bl_int ?_ | with_reducible refine' r_isi_bl_bool ?_ | with_reducible refine' r_isi_bl_str ?_ | with_reducible refine' r_isi_bl_list ?_ | with_reducible refine' r_isi_bl_tuple ?_ | with_reducible refine' r_isi_bl_dict ?_ | with_reducible refine' r_isi_str_int ?_ | with_reducible refine' r_isi_str_bool ?_ | with_reducible refine' r_isi_str_str ?_ | with_reducible refine' r_isi_str_list ?_ | with_reducible refine' r_isi_str_tuple ?_ | with_reducible refine' r_isi_str_dict ?_ | with_reducible refine' r_isi_non_int ?_ | with_reducible refine' r_isi_non_bool ?_ | with_reducible refine' r_isi_non_str ?_ | with_reducible refine' r_isi_non_list ?_ | with_reducible refine' r_isi_non_tuple ?_ | with_reducible refine' r_isi_non_dict ?_
  | ((with_reducible refine' r_isi ?h ?e ?_); (case h => walk_at "ty"); (case e => first | assumption | exact kt_list_int | exact kt_list_bool | exact kt_list_str | exact kt_list_list | exact kt_list_tuple | exact kt_list_dict | exact kt_tuple_int | exact kt_tuple_bool | exact kt_tuple_str | exact kt_tuple_list | exact kt_tuple_tuple | exact kt_tuple_dict | exact kt_dict_int | exact kt_dict_bool | exact kt_dict_str | exact kt_dict_list | exact kt_dict_tuple | exact kt_dict_dict))
  | ((with_reducible refine' r_isiC ?h ?e ?_); (case h => walk_at "ty"); (case e => assumption))
  | ((with_reducible refine' r_inL ?h ?f ?g ?_); (case h => walk_at "sq"); (case f => exact rfl); (case g => first | exact rfl | assumption))
  | ((with_reducible refine' r_inT ?h ?f ?g ?_); (case h => walk_at "sq"); (case f => exact rfl); (case g => first | exact rfl | assumption))
  | ((with_reducible refine' r_ninL ?h ?f ?g ?_); (case h => walk_at "sq"); (case f => exact rfl); (case g => first | exact rfl | assumption))
  | ((with_reducible refine' r_ninT ?h ?f ?g ?_); (case h => walk_at "sq"); (case f => exact rfl); (case g => first | exact rfl | assumption))
  | ((with_reducible refine' r_lcAdd ?w ?s ?h ?l ?i ?_); (case w => assumption); (case s => walk_at "sg"); (case h => walk_at "at"); (case l => assumption); (case i => omega); intro H' w' b')
  | with_reducible refine' r_tFld ?_ | with_reducible refine' r_sFld ?_ | with_reducible refine' r_tProp ?_ | with_reducible refine' r_tMeth ?_ | with_reducible refine' r_tMethK ?_ | with_reducible refine' r_tMake ?_
  | with_reducible refine' r_tBM ?_ | ((with_reducible refine' r_tyL ?h ?_); (case h => walk_at "sq"))
  | ((with_reducible refine' r_appM ?w ?m ?h ?l ?_); (case w => assumption); (case m => simp; done); (case h => walk_at "at"); (case l => walk_at "lsz"); intro H' w' h' b')
  | with_reducible refine' r_tRaise ?_
  | with_reducible refine' r_dnewK ?_ | with_reducible refine' r_un ?_ | with_reducible refine' r_neg ?_ | with_reducible refine' r_tStat ?_ | with_reducible refine' r_tStatK ?_ | with_reducible refine' r_stat ?_ | with_reducible refine' r_tMakeK ?_
  | ((with_reducible refine' r_rep ?h ?a ?b ?z ?_); (case h => walk_at "at"); (case a => decide); (case b => decide); (case z => first | decide | exact Nat.le_trans (Nat.le_of_ble_eq_true rfl : _ ≤ 1000000) (by decide)))
  | with_reducible refine' r_tFmt ?_ | with_reducible refine' r_jnil ?_ | with_reducible refine' r_jcons ?_
  | ((with_reducible refine' r_fld ?h ?c ?n ?l ?_); (case h => walk_at "at"); (case c => assumption); (case n => assumption); (case l => exact rfl))
  | ((with_reducible refine' r_setF ?w ?m ?h ?c ?n ?l ?_); (case w => assumption); (case m => simp; done); (case h => walk_at "at"); (case c => assumption); (case n => assumption); (case l => first | decide | exact Nat.le_of_ble_eq_true rfl); intro H' w' h' b')
  | ((with_reducible refine' r_prop ?h ?_); (case h => walk_at "at"))
  | ((with_reducible refine' r_meth ?h ?l ?_); (case h => walk_at "at"); (case l => exact rfl))
  | ((with_reducible refine' r_methK ?h ?l ?_); (case h => walk_at "at"); (case l => exact rfl))
  | ((with_reducible refine' r_fmtS ?h ?_); (case h => walk_at "size"))
  | ((with_reducible refine' r_fmtI ?h ?_); (case h => assumption))
  | ((with_reducible refine' r_jk ?h ?_); (case h => walk_at "js"))
  | ((with_reducible refine' u_isInt ?w ?h ?_); (case w => assumption); (case h => walk_at "kd"); intro G' H' w' s' t')
  | ((with_reducible refine' u_moment ?w ?h ?_); (case w => assumption); (case h => walk_at "kd"); intro G' H' w' s' t')
  | ((with_reducible refine' u_moment0 ?w ?h ?_); (case w => assumption); (case h => walk_at "kd"); intro G' H' w' s' t')
  | ((with_reducible refine' u_isName ?w ?h ?z ?_); (case w => assumption); (case h => walk_at "kd"); (case z => assumption); intro G' H' w' s' t')
  | with_reducible refine' r_par ?_ | with_reducible refine' r_parK ?_ | with_reducible refine' r_dnewM ?_ | with_reducible refine' r_sDPut ?_ | with_reducible refine' r_tDGet ?_ | with_reducible refine' r_strS ?_ | with_reducible refine' r_iKeys ?_ | with_reducible refine' r_tDGet2 ?_
  | with_reducible refine' r_notInSign ?_ | with_reducible refine' r_tFrzV ?_ | with_reducible refine' r_iSeq ?_ | with_reducible refine' r_dc ?_ | ((with_reducible refine' r_dcT ?h ?_); (case h => exact rfl)) | with_reducible refine' r_tStar ?_
  | ((with_reducible refine' r_dcAdd ?w ?s ?h ?l ?i ?_); (case w => assumption); (case s => walk_at "sg"); (case h => walk_at "at"); (case l => assumption); (case i => omega); intro H' w' b')
  | ((with_reducible refine' r_starL ?h ?_); (case h => walk_at "sq"))
  | with_reducible refine' r_dt ?_ | ((with_reducible refine' r_dtT ?h ?_); (case h => exact rfl)) | with_reducible refine' r_lc2 ?_ | ((with_reducible refine' r_l2T ?h ?_); (case h => exact rfl))
  | ((with_reducible refine' r_dtAdd ?w ?s ?h ?l ?i ?b ?_); (case w => assumption); (case s => walk_at "sg"); (case h => walk_at "at"); (case l => assumption); (case i => omega); (case b => walk_at "at"); intro H' w' b')
  | ((with_reducible refine' r_l2Add ?w ?s ?h ?l ?_); (case w => assumption); (case s => walk_at "sg"); (case h => walk_at "at"); (case l => first | assumption | omega); intro H' w' b')
  | with_reducible refine' r_gNil ?_ | with_reducible refine' r_gCons ?_ | ((with_reducible refine' r_gTupR ?h ?l ?_); (case h => walk_at "sq"); (case l => exact rfl))
  | ((with_reducible refine' r_strN ?h ?_); (case h => assumption))
  | with_reducible refine' r_tRev ?_ | ((with_reducible refine' r_revL ?h ?_); (case h => walk_at "sq")) | with_reducible refine' r_par3 ?_ | with_reducible refine' r_par3K ?_
  | with_reducible refine' r_tM1 ?_ | with_reducible refine' r_strAnd ?_ | with_reducible refine' r_tOrT ?_
  | ((with_reducible refine' r_lenF ?h ?_); (case h => walk_at "at")) | ((with_reducible refine' r_isiF ?h ?_); (case h => walk_at "at"))
  | with_reducible refine' r_iEnumT ?_ | ((with_reducible refine' r_iEnumTR ?h ?_); (case h => walk_at "sq"))
  | walk_at "qu")
local macro_rules | `(tactic| walk_at "sg") => `(tactic| first
  | assumption | exact Same.refl _
  | (refine' Same.trans ?a ?b; (case b => assumption); walk_at "sg"))
local macro_rules | `(tactic| walk_at "kd") => `(tactic| first
  | exact kd_int _ | exact kd_bl _ | exact kd_str _ | exact kd_non | assumption
  | (refine' kd_tup ?h; (case h => walk_at "atg"))
  | (refine' kd_lst ?h; (case h => walk_at "atg"))
  | (refine' Kd.same ?h ?s; (case s => assumption); (case h => walk_at "kd")))
local macro_rules | `(tactic| walk_at "ty") => `(tactic| first
  | assumption | exact .base (.int _) | exact .base (.bl _) | exact .base (.str _) | exact .base .non
  | (refine' same_ty ?s ?h; (case s => assumption); (case h => walk_at "ty"))
  | (refine' same_ty ?s ?h; (case s => exact Wd.le (by assumption)); (case h => walk_at "ty")))
local macro_rules | `(tactic| walk_at "shp") => `(tactic| first | assumption | exact shaped_ints _ | exact shaped_nil | decide | (simp [SeqAt.shaped, PyData.canLay0, PyData.canLayAll0, PyData.depth, PyData.depthAll]; done))
local macro_rules | `(tactic| walk_at "shw") => `(tactic| first | assumption | decide | (simp; done))
local macro_rules | `(tactic| walk_at "qq") => `(tactic| repeat walk_at "q")

namespace Q
theorem cut63_len (xs : List V) : (cutV xs none (some 63)).length ≤ 63 := by
  unfold cutV
  rw [List.length_take]
  have : HT.sIx xs.length xs.length (some 63) ≤ 63 := by
    simp only [HT.sIx]
    first | omega | (split <;> omega) | (simp; omega)
  omega
/-! ### the pen -/
abbrev nDraw : List Str := ["_law_pen_here", "_law_many", "_law_digit", "_law_at", "_law_cell", "_law_great", "_law_mixed"]
theorem scDraw : FnScope nDraw ["_law_pen_here", "_law_many"] (defScope sDraw) := ⟨rfl, rfl, rfl, by decide +kernel, rfl, by decide +kernel, by decide +kernel⟩
section
variable {P : Program} {w : World} {K : PySem.W.Frag} {mg : Str → Option Value} {base : Heap}
theorem ok_draw {f : Addr} {fd : FuncData} (F : FnP K "_law_draw" "_law_draw" sDraw [] f fd) (T : Bi mg) : FnOk P w K mg base CX0 2 f fd ["_law_pen_here", "_law_many"] spDraw := by
  refine fnP_ok F scDraw (fun vs H Q E h => ?_) (fun cdv A outer s H vs Q E hr h => ?_)
  · obtain ⟨G, p, c, n, many, rfl, _⟩ := h
    rfl
  · obtain ⟨G, p, c, n, many, rfl, sG, gp, hc, hp, hn, h0, hb, k⟩ := h
    have hu64 := hr.units
    refine ⟨_, (pss_cons (ps_if (pt_cmpR q_gt (pe_ix q_ix (pv 0) pe_int (fun _ _ => rfl)) pe_int (nomark _)) (pss_cons (ps_set (i := 2) scDraw.nd rfl (Or.inl rfl) (pe_op q_mod (pe_callTy q_int (by rfl) T.int (by decide +kernel) (pa_cons (pe_ix q_ix (pv 0) pe_int (fun _ _ => rfl)) pa_nil)) (pv 1)))
        (pss_cons (ps_asg (pe_op q_fdiv (pe_callTy q_int (by rfl) T.int (by decide +kernel) (pa_cons (pe_ix q_ix (pv 0) pe_int (fun _ _ => rfl)) pa_nil)) (pv 1)) (pg_sub (pv 0) pe_int set_list))
        (pss_one (ps_ret (pv 2))))) pss_nil)
        (pss_cons (ps_set (i := 3) scDraw.nd rfl (Or.inl rfl) (pe_ix q_ix (pv 0) pe_int (fun _ _ => rfl)))
        (pss_cons (ps_asg (pe_op q_add (pv 3) pe_int) (pg_sub (pv 0) pe_int set_list))
        (pss_cons (ps_set (i := 4) scDraw.nd rfl (Or.inl rfl) (pe_op q_add (pe_op q_mul pe_int (pv 3)) pe_int))
        (Evl.pss_cut (ps_if (pt_cmpR (q_ne hu64) (pe_ix q_ix (pv 0) pe_int (fun _ _ => rfl)) (pe_lst pa_nil) (nomark _)) (pss_one (ps_set (i := 4) scDraw.nd rfl (Or.inl rfl) (pe_ix q_ix (pe_ix q_ix (pv 0) pe_int (fun _ _ => rfl)) (pe_op q_mod (pe_callTy q_int (by rfl) T.int (by decide +kernel) (pa_cons (pv 3) pa_nil)) (pe_callB q_len (by rfl) T.len (by decide +kernel) (pa_cons (pe_ix q_ix (pv 0) pe_int (fun _ _ => rfl)) pa_nil))) (fun _ _ => rfl)))) pss_nil)
        (Evl.pss_cut (ps_if (PW.pt (pw_and (pt_cmpR q_lt (pv 3) (pe_callB q_len (by rfl) T.len (by decide +kernel) (pa_cons (pe_ix q_ix (pv 0) pe_int (fun _ _ => rfl)) pa_nil)) (nomark _)) (pw_and1 (pt_cmpR q_ge (pe_callB q_abs (by rfl) T.abs (by decide +kernel) (pa_cons (pv 4) pa_nil)) (pe_op q_pow pe_int pe_int) (nomark _))))) (pss_cons (ps_set (i := 5) scDraw.nd rfl (Or.inl rfl) (pe_op q_add (pe_op q_mul pe_int (pe_op q_sub (pe_callB q_abs (by rfl) T.abs (by decide +kernel) (pa_cons (pv 4) pa_nil)) (pe_op q_pow pe_int pe_int))) (pe_callTy q_int (by rfl) T.int (by decide +kernel) (pa_cons (pe_cmpR q_lt (pv 4) pe_int (nomark _)) pa_nil))))
        (pss_cons (ps_asg (pe_op q_fdiv (pe_callTy q_int (by rfl) T.int (by decide +kernel) (pa_cons (pv 5) pa_nil)) (pv 1)) (pg_sub (pv 0) pe_int set_list))
        (pss_one (ps_ret (pe_op q_mod (pe_callTy q_int (by rfl) T.int (by decide +kernel) (pa_cons (pv 5) pa_nil)) (pv 1)))))) pss_nil)
        (pss_cons (ps_set (i := 6) scDraw.nd rfl (Or.inl rfl) (pe_op q_mod (pe_callTy q_int (by rfl) T.int (by decide +kernel) (pa_cons (pe_op q_pow (pe_op q_add (pe_op q_add (pe_op q_mod (pe_callTy q_int (by rfl) T.int (by decide +kernel) (pa_cons (pv 4) pa_nil)) pe_int) (pe_op q_mul pe_int (pv 3))) pe_int) pe_int) pa_nil)) pe_int))
        (pss_cons (ps_set (i := 6) scDraw.nd rfl (Or.inl rfl) (pe_op q_mod (pe_callTy q_int (by rfl) T.int (by decide +kernel) (pa_cons (pe_op q_pow (pe_op q_add (pe_op q_add (pe_op q_mul (pv 6) (pe_op q_add (pe_op q_mul pe_int (pv 3)) pe_int)) (pe_op q_mul (pe_op q_mul pe_int (pv 3)) (pv 3))) pe_int) pe_int) pa_nil)) pe_int))
        (pss_one (ps_ret (pe_op q_mod (pe_callTy q_int (by rfl) T.int (by decide +kernel) (pa_cons (pe_op q_fdiv (pv 6) pe_int) pa_nil)) (pv 1)))))))))))), ?_⟩
    have hdw : ∀ x : Int, CDivW x many := fun x => wide_div (b := 300) h0 (by omega) (by decide) (by decide)
    have hm2 : ∀ x : Int, 0 ≤ x % many ∧ x % many < many := fun x => ⟨Int.emod_nonneg _ (by omega), Int.emod_lt_of_pos _ h0⟩
    obtain ⟨at_, g, h1, ha, hg⟩ := hp
    obtain ⟨ns, h2, hl⟩ := hc
    have w0 : Wd ⟨H, G, [p], []⟩ G H [p] := wd_start sG (fun a h => by rw [List.mem_singleton.mp h]; exact ⟨gp, _, h1, rfl⟩) (by simp)
    have fin : ∀ (x g' : Int) (m : Nat) (G' H' : Hp) (M : List Addr), Wd ⟨H, G, [p], []⟩ G' H' M → H' p = some (.lst [.ref c, .int m, .int g']) → m ≤ n + 1 → 0 ≤ g' → Q (.int (x % many)) H' := fun x g' m G' H' M w' e1 e2 e3 =>
      retP_of k w' ⟨m, g', e1, e2, e3⟩ ⟨_, rfl, hm2 x⟩
    have hat : (at_ : Int) ≤ 1048576 := by omega
    walk_at "qq"
    refine ite2 (fun hg0 => ?_) (fun hg0 => ?_)
    · walk_at "qq"
      exact fin _ _ at_ G _ [p] (by assumption) (by walk_at "at") (by omega) (Int.ediv_nonneg hg (by omega))
    walk_at "qq"
    refine ⟨fun σ' H' => ∃ (cell : Int) (G' : Hp), σ' = [some (.ref p), some (.int many), none, some (.int at_), some (.int cell), none, none] ∧
      Wd ⟨H, G, [p], []⟩ G' H' [p] ∧ Same G G' ∧ H' p = some (.lst [.ref c, .int (at_ + 1), .int g]), ?_, ?_⟩
    · walk_at "qq"
      rw [eqv_nil]
      cases ns with
      | nil =>
        refine iteF ?_
        walk_at "qq"
        exact ⟨_, _, rfl, by assumption, by assumption, by walk_at "at"⟩
      | cons n0 nr =>
        obtain ⟨z, hz⟩ := at_mod_ints (ns := n0 :: nr) at_ (by simp)
        have hpos : (0 : Int) < ((List.map V.int (n0 :: nr)).length : Int) := by simp
        refine iteT ?_
        walk_at "qq"
        exact ⟨_, _, rfl, by assumption, by assumption, by walk_at "at"⟩
    · rintro σ' H' ⟨cell, G1, rfl, w1, s1, h1⟩
      walk_at "qq"
      refine ⟨fun σ' H2 => σ' = [some (.ref p), some (.int many), none, some (.int at_), some (.int cell), none, none] ∧ H2 = H', ?_, ?_⟩
      · walk_at "qq"
        refine ite2 (fun h3 => ?_) (fun _ => ?_)
        · walk_at "qq"
          refine ite2 (fun h4 => ?_) (fun _ => ?_)
          · walk_at "qq"
            have h5 := of_decide_eq_true h4
            refine fin _ _ (at_ + 1) G1 _ [p] (by assumption) (by walk_at "at") (by omega) (Int.ediv_nonneg ?_ (by omega))
            have e : (10 : Int) ^ Int.toNat 18 = 1000000000000000000 := by decide
            rw [e] at h5 ⊢
            have e2 : (0 : Int) ≤ if decide (cell < 0) = true then 1 else 0 := by split <;> decide
            omega
          · walk_at "qq"
            exact ⟨rfl, rfl⟩
        · walk_at "qq"
          exact ⟨rfl, rfl⟩
      · rintro σ' H2 ⟨rfl, rfl⟩
        walk_at "qq"
        refine r_pow ⟨by decide, by decide, pow_small (by omega) (by omega) (by omega) (by omega) (by decide) (by decide) (by omega) (by omega) (by decide) (by decide)⟩ ?_
        walk_at "qq"
        exact fin _ _ (at_ + 1) G1 _ [p] w1 h1 (by omega) hg
end

/-! ### the pen made, a pick -/
section
variable {P : Program} {w : World} {K : PySem.W.Frag} {mg : Str → Option Value} {base : Heap}
abbrev nPen : List Str := ["_law_script"]
theorem scPen : FnScope nPen ["_law_script"] (defScope sPen) := ⟨rfl, rfl, rfl, by decide +kernel, rfl, by decide +kernel, by decide +kernel⟩
theorem ok_pen {f : Addr} {fd : FuncData} (F : FnP K "_law_pen" "_law_pen" sPen [] f fd) (T : Bi mg) : FnOk P w K mg base CX0 1 f fd ["_law_script"] (spPen K) := by
  refine fnP_ok F scPen (fun vs H Q E h => ?_) (fun cdv A outer s H vs Q E hr h => ?_)
  · obtain ⟨G, a, ns, rfl, _⟩ := h
    rfl
  · obtain ⟨G, a, ns, rfl, sG, ha, hl, k⟩ := h
    have hu64 := hr.units
    refine ⟨_, (pss_one (ps_ret (pe_lstM (pa_cons (pe_callTy q_list (by rfl) T.list (by decide +kernel) (pa_cons (pe_slice sl_list (pv 0) po_none (po_some pe_int)) pa_nil)) (pa_cons pe_int (pa_cons pe_int pa_nil)))))), ?_⟩
    have w0 := wd_pure sG
    obtain ⟨ms, hms⟩ := cutV_ints ns none (some 63)
    have hml : ms.length ≤ 63 := by
      have e := congrArg List.length hms
      rw [List.length_map] at e
      rw [← e]
      exact cut63_len _
    walk_at "qq"
    rename_i p3 H3 n3 w3 h3 s3 d3
    have mu := w3.mu p3 List.mem_cons_self
    refine k p3 _ _ H3 (fun a o h => w3.kp a o (by simp) h) w3.gh w3.gr w3.fr mu.1 ?_ ⟨ms, ?_, hml⟩ ⟨0, 0, h3, Nat.le_refl _, Int.le_refl _⟩
    · rcases mu.2.2 with h | h
      · exact h
      · simp at h
    · rw [← hms]
      walk_at "at"
abbrev nPick : List Str := ["_law_pen_here", "_law_some"]
theorem scPick : FnScope nPick ["_law_pen_here", "_law_some"] (defScope sPick) := ⟨rfl, rfl, rfl, by decide +kernel, rfl, by decide +kernel, by decide +kernel⟩
theorem ok_pick {f : Addr} {fd : FuncData} (F : FnP K "_law_pick" "_law_pick" sPick [] f fd) (T : Bi mg) (Dd : Df P w K mg base CX0 2 "_law_draw" [] spDraw) : FnOk P w K mg base CX0 3 f fd ["_law_pen_here", "_law_some"] (spPick K) := by
  refine fnP_ok F scPick (fun vs H Q E h => ?_) (fun cdv A outer s H vs Q E hr h => ?_)
  · obtain ⟨G, p, c, n, z, xs, rfl, _⟩ := h
    rfl
  · obtain ⟨G, p, c, n, z, xs, rfl, sG, gp, hc, hp, hn, hs, h0, hb, k⟩ := h
    have hu64 := hr.units
    refine ⟨_, (pss_one (ps_ret (pe_ix q_ix (pv 1) (pe_callD Dd hr pass0 (pa_cons (pv 0) (pa_cons (pe_callB q_len (by rfl) T.len (by decide +kernel) (pa_cons (pv 1) pa_nil)) pa_nil))) (fun _ _ => rfl)))), ?_⟩
    have w0 : Wd ⟨H, G, [p], []⟩ G H [p] := by
      obtain ⟨a, g, h1, _⟩ := hp
      exact wd_start sG (fun a h => by rw [List.mem_singleton.mp h]; exact ⟨gp, _, h1, rfl⟩) (by simp)
    have hlen : 0 < xs.length := by cases xs with
      | nil => exact absurd rfl h0
      | cons _ _ => simp
    rcases hs with ⟨l, rfl, hl⟩ | ⟨z, rfl, hz, rfl⟩
    · rcases hl with hl | hl
      · walk_at "qq"
        refine u_draw w0 (by simp) hc hp hn (by omega) (by omega) fun d G' H' w' s' b' P' d0 d1 => ?_
        obtain ⟨j, rfl⟩ := Int.eq_ofNat_of_zero_le d0
        have hj : j < xs.length := by omega
        have hx := List.getElem?_eq_getElem hj
        have hat := atI_nat hx
        walk_at "qq"
        exact retP_of k w' P' (List.getElem_mem hj)
      · walk_at "qq"
        refine u_draw w0 (by simp) hc hp hn (by omega) (by omega) fun d G' H' w' s' b' P' d0 d1 => ?_
        obtain ⟨j, rfl⟩ := Int.eq_ofNat_of_zero_le d0
        have hj : j < xs.length := by omega
        have hx := List.getElem?_eq_getElem hj
        have hat := atI_nat hx
        walk_at "qq"
        exact retP_of k w' P' (List.getElem_mem hj)
    · have hzl : z.cps.toList.length = z.length := by simp [Str.length]
      rw [List.length_map, hzl] at hlen
      walk_at "qq"
      refine u_draw w0 (by simp) hc hp hn (by omega) (by omega) fun d G' H' w' s' b' P' d0 d1 => ?_
      obtain ⟨j, rfl⟩ := Int.eq_ofNat_of_zero_le d0
      have hj : j < z.cps.toList.length := by omega
      have hx := List.getElem?_eq_getElem hj
      have hat := atI_nat hx
      walk_at "qq"
      exact retP_of k w' P' (List.mem_map.mpr ⟨_, List.getElem_mem hj, rfl⟩)
end

/-! ### names and moments -/
section
variable {P : Program} {w : World} {K : PySem.W.Frag} {mg : Str → Option Value} {base : Heap}
abbrev nIsInt : List Str := ["thing"]
theorem scIsInt : FnScope nIsInt ["thing"] (defScope sIsInt) := ⟨rfl, rfl, rfl, by decide +kernel, rfl, by decide +kernel, by decide +kernel⟩
theorem ok_isInt {f : Addr} {fd : FuncData} (F : FnP K "is_integer" "is_integer" sIsInt [] f fd) (T : Bi mg) : FnOk P w K mg base CX0 1 f fd ["thing"] (spIsInt K) := by
  refine fnP_ok F scIsInt (fun vs H Q E h => ?_) (fun cdv A outer s H vs Q E hr h => ?_)
  · obtain ⟨G, x, t, rfl, _⟩ := h
    rfl
  · obtain ⟨G, x, t, rfl, sG, hx, k⟩ := h
    have hu64 := hr.units
    refine ⟨_, (pss_one (ps_ret (pe_and (pe_callB call_isi (by rfl) T.isinstance (by decide +kernel) (pa_cons (pv 0) (pa_cons (pe_bltn (v := .ty "int") (by rfl) T.int (by decide +kernel) rfl) pa_nil))) (pe_one (pe_not (pe_callB call_isi (by rfl) T.isinstance (by decide +kernel) (pa_cons (pv 0) (pa_cons (pe_bltn (v := .ty "bool") (by rfl) T.bool (by decide +kernel) rfl) pa_nil)))))))), ?_⟩
    have w0 := wd_pure sG
    have h1 := same_ty sG.1 hx.ty
    have h2 := hx.int
    have h3 := hx.bool
    walk_at "qq"
    cases x <;> first
      | (refine iteF ?_; exact ret_of k w0 rfl)
      | (refine iteT ?_; walk_at "qq"; exact ret_of k (by assumption) rfl)
abbrev nMoment : List Str := ["thing", "least"]
theorem scMoment : FnScope nMoment ["thing", "least"] (defScope sMoment) := ⟨rfl, rfl, rfl, by decide +kernel, rfl, by decide +kernel, by decide +kernel⟩
theorem ok_moment {f : Addr} {fd : FuncData} (F : FnP K "is_moment" "is_moment" sMoment [.int 0] f fd) (T : Bi mg) (C : Nm K mg) (D1 : Df P w K mg base CX0 1 "is_integer" [] (spIsInt K)) : FnOk P w K mg base CX0 2 f fd ["thing", "least"] (spMoment K) := by
  refine fnP_ok F scMoment (fun vs H Q E h => ?_) (fun cdv A outer s H vs Q E hr h => ?_)
  · obtain ⟨G, x, t, l, rfl, _⟩ := h
    rfl
  · obtain ⟨G, x, t, l, rfl, sG, hx, k⟩ := h
    have hu64 := hr.units
    refine ⟨_, (pss_one (ps_ret (pe_and (pe_callD D1 hr pass0 (pa_cons (pv 0) pa_nil)) (pe_one (pe_chain q_le q_le (pv 1) (pv 0) (pe_gc C.MOST_MOMENT)))))), ?_⟩
    have w0 := wd_pure sG
    walk_at "qq"
    cases x <;> first
      | (refine iteF ?_; exact ret_of k (by assumption) rfl)
      | skip
    refine iteT ?_
    walk_at "qq"
    refine ite2 (fun c1 => ?_) (fun c1 => ?_)
    · walk_at "qq"
      refine ret_of k (by assumption) ?_
      show V.bl _ = V.bl (_ && _)
      rw [c1] <;> rfl
    · refine ret_of k (by assumption) ?_
      show V.bl _ = V.bl (_ && _)
      rw [Bool.eq_false_iff.mpr c1] <;> rfl
abbrev nIsName : List Str := ["thing", "sign"]
theorem scIsName : FnScope nIsName ["thing"] (defScope sIsName) := ⟨rfl, rfl, rfl, by decide +kernel, rfl, by decide +kernel, by decide +kernel⟩
theorem ok_isName {f : Addr} {fd : FuncData} (F : FnP K "is_name" "is_name" sIsName [] f fd) (T : Bi mg) (C : Nm K mg) : FnOk P w K mg base CX0 1 f fd ["thing"] (spIsName K) := by
  refine fnP_ok F scIsName (fun vs H Q E h => ?_) (fun cdv A outer s H vs Q E hr h => ?_)
  · obtain ⟨G, x, t, rfl, _⟩ := h
    rfl
  · obtain ⟨G, x, t, rfl, sG, hx, hz, k⟩ := h
    have hu64 := hr.units
    obtain ⟨ar, hres, hresT⟩ := C.RESERVED
    refine ⟨_, (Evl.pss_cut (ps_if (PW.pt (pw_or (pt_not (pt_val (pe_callB call_isi (by rfl) T.isinstance (by decide +kernel) (pa_cons (pv 0) (pa_cons (pe_bltn (v := .ty "str") (by rfl) T.str (by decide +kernel) rfl) pa_nil))))) (pw_or (pt_not (pt_chain q_le q_le pe_int (pe_callB q_len (by rfl) T.len (by decide +kernel) (pa_cons (pv 0) pa_nil)) (pe_gc C.MOST_SIGNS))) (pw_or1 (pt_cmpR op_in_seq (pv 0) (pe_gc hres) (by rfl)))))) (pss_one (ps_ret pe_bl)) pss_nil)
        (pss_one (ps_ret (pe_and (pe_cmpR q_inSign (pe_ix q_ix (pv 0) pe_int (fun _ _ => rfl)) (pe_gc C.LETTERS) (by rfl)) (pe_one (pe_callB (cr_all rfl) (by rfl) T.all (by decide +kernel) (pa_cons (pe_lc (own := [("sign", 1)]) (g := gName 1) (tt := tYes) rfl scIsName.nd (pi_str (pv 0)) (blkOk_by (own := [("sign", 1)]) (N := nIsName) (sc := defScope sIsName) (by decide +kernel)) (fun _ _ _ _ _ => (pg_name (i := 1) scIsName.nd rfl (by first | exact Or.inl rfl | exact Or.inr rfl))) (fun _ _ _ _ _ => pts_nil) (fun _ _ _ _ _ => (pe_or (pe_cmpR q_inSign (pv 1) (pe_gc C.LETTERS) (by rfl)) (pe_one (pe_cmpR q_inSign (pv 1) (pe_gc C.FIGURES) (by rfl)))))) pa_nil))))))), ?_⟩
    have w0 := wd_pure sG
    have h1 := same_ty sG.1 hx.ty
    have h2 := hx.str
    walk_at "qq"
    have no : nameV x = false → ∀ (G' H' : Hp), Wd ⟨H, G, [], []⟩ G' H' [] → Q (.bl false) H' := fun e G' H' w' => ret_of k w' (by rw [e])
    refine ⟨fun σ' H' => ∃ (z : Str) (c : Nat) (r : List Nat), x = .str z ∧ σ' = [some x, none] ∧ H' = H ∧ z.length ≤ 8 ∧ z.cps.toList = c :: r ∧ nameV x = (letB c && z.cps.toList.all fun c => letB c || figB c), ?_, ?_⟩
    · walk_at "qq"
      cases x with
      | str z =>
        refine iteF ?_
        have hz1 : z.length ≤ 1000000 := hz z rfl
        walk_at "qq"
        have hv : nameV (.str z) = nmOk z := rfl
        have hr1 := hresT H
        refine ite_d (fun c1 => ?_) (fun c1 => ?_)
        · walk_at "qq"
          refine ite_nd (fun c2 => ?_) (fun c2 => ?_)
          · walk_at "qq"
            exact no (by rw [hv]; unfold nmOk; rw [decide_eq_false (by omega : ¬ z.length ≤ 8)]; simp) _ _ w0
          · walk_at "qq"
            refine ite_b (fun c3 => ?_) (fun c3 => ?_)
            · walk_at "qq"
              exact no (by rw [hv]; unfold nmOk; rw [c3]; simp) _ _ w0
            · walk_at "qq"
              cases hc : z.cps.toList with
              | nil =>
                have e : z.length = 0 := by
                  have := congrArg List.length hc
                  simpa [Str.length] using this
                omega
              | cons a r =>
                refine ⟨z, a, r, rfl, rfl, rfl, by omega, hc, ?_⟩
                rw [hv]
                unfold nmOk
                rw [c3, decide_eq_true (by omega : 1 ≤ z.length), decide_eq_true (by omega : z.length ≤ 8), hc]
                rfl
        · walk_at "qq"
          exact no (by rw [hv]; unfold nmOk; rw [decide_eq_false (by omega : ¬ 1 ≤ z.length)]; simp) _ _ w0
      | _ =>
        refine iteT ?_
        walk_at "qq"
        exact no rfl _ _ w0
    · rintro σ' H' ⟨z, c, r, rfl, rfl, rfl, hz8, hc, hv⟩
      have hz1 : z.length ≤ 1000000 := by omega
      have h0 : atI z.cps.toList 0 = some c := by rw [hc]; exact atI_0 c r
      have hv : nameV (.str z) = (letB c && z.cps.toList.all fun c => letB c || figB c) := hv
      walk_at "qq"
      refine ite_d (fun c1 => ?_) (fun c1 => ?_)
      · have e1 : letB c = true := decide_eq_true c1
        walk_at "qq"
        refine lc_go w0 walk_str (fun i acc _ _ => acc = ((z.cps.toList.take i).map fun c => letB c || figB c).map V.bl) (fun _ _ _ _ _ => rfl) (fun _ _ _ _ _ _ _ => trivial) ?_ ?_
        · rintro Dd i acc Gi H2 x H3 hi hl w2 s2 hD nm rfl ⟨rfl, c', hc', rfl⟩
          have hi' : i ≤ 1000000 := by have e : z.cps.size = z.length := rfl; omega
          have hc2 : z.cps.toList[i]? = some c' := by simpa using hc'
          have fin : ∀ b : Bool, b = (letB c' || figB c') → ((z.cps.toList.take i).map fun c => letB c || figB c).map V.bl ++ [V.bl b] = ((z.cps.toList.take (i + 1)).map fun c => letB c || figB c).map V.bl := fun b e => by
            rw [take_map_snoc _ hc2, List.map_append, e]
            rfl
          walk_at "qq"
          refine ite_d (fun c2 => ?_) (fun c2 => ?_)
          · walk_at "qq"
            exact fin true (by have e2 : letB c' = true := decide_eq_true c2; rw [e2] <;> rfl)
          · walk_at "qq"
            exact fin _ (by have e2 : letB c' = false := decide_eq_false c2; rw [e2] <;> rfl)
        · rintro p acc Gi Gp H2 hl w2 s2 s3 hp rfl
          walk_at "qq"
          refine ret_of k w2 ?_
          rw [hv, e1, List.take_of_length_le (by simp)]
          simp [List.all_map, Function.comp_def]
      · exact ret_of k w0 (by rw [hv]; have e1 : letB c = false := decide_eq_false c1; rw [e1] <;> rfl)
end


theorem ok_errN {P : Program} {w : World} {K : PySem.W.Frag} {mg : Str → Option Value} {base : Heap} {Cn : Addr} {f : Addr} {fd : FuncData} (F : FnP K "__init__" "BadName.__init__" sErrN [] f fd) (T : OexC K Cn) (no : PySem.W.findIn K (.ref Cn) "name" = some none) : FnOk P w K mg base CX0 1 f fd ["self", "name"] (spErr1 Cn "name") :=
  ok_err1 F ⟨rfl, rfl, rfl, by decide +kernel, rfl, by decide +kernel, by decide +kernel⟩ T no fun X hN hs => pss_one (ps_ost (pe_var (i := 0) (by rw [hN] <;> rfl) (by rw [hs]; exact .inl rfl)) (pe_var (i := 1) (by rw [hN] <;> rfl) (by rw [hs]; exact .inl rfl)))
theorem ok_errM {P : Program} {w : World} {K : PySem.W.Frag} {mg : Str → Option Value} {base : Heap} {Cm : Addr} {f : Addr} {fd : FuncData} (F : FnP K "__init__" "BadMoment.__init__" sErrM [] f fd) (T : OexC K Cm) (no : PySem.W.findIn K (.ref Cm) "moment" = some none) : FnOk P w K mg base CX0 1 f fd ["self", "moment"] (spErr1 Cm "moment") :=
  ok_err1 F ⟨rfl, rfl, rfl, by decide +kernel, rfl, by decide +kernel, by decide +kernel⟩ T no fun X hN hs => pss_one (ps_ost (pe_var (i := 0) (by rw [hN] <;> rfl) (by rw [hs]; exact .inl rfl)) (pe_var (i := 1) (by rw [hN] <;> rfl) (by rw [hs]; exact .inl rfl)))
theorem ok_errS {P : Program} {w : World} {K : PySem.W.Frag} {mg : Str → Option Value} {base : Heap} {Cs : Addr} {f : Addr} {fd : FuncData} (F : FnP K "__init__" "BadSaying.__init__" sErrS [] f fd) (T : OexC K Cs) (no : PySem.W.findIn K (.ref Cs) "value" = some none) : FnOk P w K mg base CX0 1 f fd ["self", "value"] (spErr1 Cs "value") :=
  ok_err1 F ⟨rfl, rfl, rfl, by decide +kernel, rfl, by decide +kernel, by decide +kernel⟩ T no fun X hN hs => pss_one (ps_ost (pe_var (i := 0) (by rw [hN] <;> rfl) (by rw [hs]; exact .inl rfl)) (pe_var (i := 1) (by rw [hN] <;> rfl) (by rw [hs]; exact .inl rfl)))
/-! ### rows made -/
section
variable {P : Program} {w : World} {K : PySem.W.Frag} {mg : Str → Option Value} {base : Heap} {C Cn Cm Cs : Addr}
abbrev nNeedN : List Str := ["thing"]
theorem scNeedN : FnScope nNeedN ["thing"] (defScope sNeedN) := ⟨rfl, rfl, rfl, by decide +kernel, rfl, by decide +kernel, by decide +kernel⟩
theorem ok_needN {f : Addr} {fd : FuncData} (F : FnP K "need_name" "need_name" sNeedN [] f fd) (Dn : Df P w K mg base CX0 1 "is_name" [] (spIsName K)) (EN : ErD P w K mg base "BadName" Cn (spErr1 Cn "name")) : FnOk P w K mg base (L2.CX P w) 3 f fd ["thing"] (spNeedN K Cn) := by
  refine fnP_okX F scNeedN (fun vs H Q E h => ?_) (fun cdv A outer s H vs Q E hr h => ?_)
  · obtain ⟨G, x, t, rfl, _⟩ := h
    rfl
  · obtain ⟨G, x, t, rfl, sG, hx, sz, good, bad⟩ := h
    have hu64 := hr.units
    refine ⟨_, (pss_one (ps_if (pt_not (pt_val (pe_callD Dn hr pass0 (pa_cons (pv 0) pa_nil)))) (pss_one (ps_raiseD rfl takesD EN hr (pa_cons (pv 0) pa_nil))) pss_nil)), ?_⟩
    have w0 := wd_pure sG
    walk_at "qq"
    refine ite_nb (fun c => ?_) (fun c => ?_)
    · walk_at "qq"
      exact u_raise1 (by assumption) fun dd G' H' w' s' t' hdd => retX_of (bad c) w' hdd
    · walk_at "qq"
      exact ret_of (good c) (by assumption) rfl
abbrev nNeedM : List Str := ["thing", "least"]
theorem scNeedM : FnScope nNeedM ["thing", "least"] (defScope sNeedM) := ⟨rfl, rfl, rfl, by decide +kernel, rfl, by decide +kernel, by decide +kernel⟩
theorem ok_needM {f : Addr} {fd : FuncData} (F : FnP K "need_moment" "need_moment" sNeedM [.int 0] f fd) (Dm2 : Df P w K mg base CX0 2 "is_moment" [] (spMoment K)) (EM : ErD P w K mg base "BadMoment" Cm (spErr1 Cm "moment")) : FnOk P w K mg base (L2.CX P w) 3 f fd ["thing", "least"] (spNeedM K Cm) := by
  refine fnP_okX F scNeedM (fun vs H Q E h => ?_) (fun cdv A outer s H vs Q E hr h => ?_)
  · obtain ⟨G, x, t, l, rfl, _⟩ := h
    rfl
  · obtain ⟨G, x, t, l, rfl, sG, hx, good, bad⟩ := h
    have hu64 := hr.units
    refine ⟨_, (pss_one (ps_if (pt_not (pt_val (pe_callD Dm2 hr pass0 (pa_cons (pv 0) (pa_cons (pv 1) pa_nil))))) (pss_one (ps_raiseD rfl takesD EM hr (pa_cons (pv 0) pa_nil))) pss_nil)), ?_⟩
    have w0 := wd_pure sG
    walk_at "qq"
    refine ite_nb (fun c => ?_) (fun c => ?_)
    · walk_at "qq"
      exact u_raise1 (by assumption) fun dd G' H' w' s' t' hdd => retX_of (bad c) w' hdd
    · walk_at "qq"
      exact ret_of (good c) (by assumption) rfl
abbrev nRowI : List Str := ["self", "kind", "words", "named", "moments"]
theorem scRowI : FnScope nRowI ["self", "kind", "words", "named", "moments"] (defScope sRowI) := ⟨rfl, rfl, rfl, by decide +kernel, rfl, by decide +kernel, by decide +kernel⟩
theorem ok_rowI {f : Addr} {fd : FuncData} {fl : List Str} (F : FnP K "__init__" "Row.__init__" sRowI [] f fd) (RC : RwC K C fl) : FnOk P w K mg base CX0 1 f fd ["self", "kind", "words", "named", "moments"] (spRow C) := by
  refine fnP_ok F scRowI (fun vs H Q E h => ?_) (fun cdv A outer s H vs Q E hr h => ?_)
  · obtain ⟨G, x, dx, k, w, n, m, rfl, _⟩ := h
    rfl
  · obtain ⟨G, x, dx, k, w', n, m, rfl, sG, gx, hx, q⟩ := h
    have hu64 := hr.units
    have cc := RC.c
    have n1 := RC.k
    have n2 := RC.w
    have n3 := RC.n
    have n4 := RC.t
    refine ⟨_, (pss_cons (ps_fld (pv 0) (pv 1) rfl)
        (pss_cons (ps_fld (pv 0) (pv 2) rfl)
        (pss_cons (ps_fld (pv 0) (pv 3) rfl)
        (pss_one (ps_fld (pv 0) (pv 4) rfl))))), ?_⟩
    have w0 : Wd ⟨H, G, [x], []⟩ G H [x] := wd_start sG (fun b h => by rw [List.mem_singleton.mp h]; exact ⟨gx, _, hx, rfl⟩) (by simp)
    walk_at "qq"
    rename_i H1 w1 h1 b1 H2 w2 h2 b2 H3 w3 h3 b3 H4 w4 h4 b4
    exact q H4 (fun b o hn h => w4.kp b o (by simpa using hn) h) w4.gh h4
end

/-! ### rows of each class -/
section
variable {P : Program} {w : World} {K : PySem.W.Frag} {mg : Str → Option Value} {base : Heap} {C Cn Cm Cs : Addr}
abbrev nBegunI : List Str := (["self", "tool", "moment"] : List Str)
theorem scBegunI : FnScS nBegunI (["self", "tool", "moment"] : List Str) (defScope sBegunI) := ⟨rfl, rfl, rfl, by decide +kernel, rfl, by decide +kernel, by decide +kernel, by decide +kernel, by decide +kernel, by decide +kernel⟩
theorem ok_BegunI {f fR : Addr} {fd fdR : FuncData} {psR : List Str} (F : SupD P K "__init__" "Begun.__init__" sBegunI C f fd) (T : Bi mg) (RC : RwC K C (["tool", "moment"] : List Str)) (hsup : mg "super" = none) (htop : (P.main.scope.names.lookup ("super" : Str)).isSome = false)
    (DNN : Df P w K mg base (L2.CX P w) 3 "need_name" [] (spNeedN K Cn)) (DNM0 : Df P w K mg base (L2.CX P w) 3 "need_moment" [.int 0] (spNeedM K Cm)) (DNM1 : Df P w K mg base (L2.CX P w) 3 "need_moment" [] (spNeedM K Cm)) 
    (SC : SupC K C C fR) (GR : FnOk P w K mg base CX0 1 fR fdR psR (spRow C)) (BR : Binds K fdR psR []) : FnOk P w K mg base (L2.CX P w) 4 f fd (["self", "tool", "moment"] : List Str) (spRowI K C Cn Cm Cs "begun" [] ([Sg.n, Sg.m 1] : List Sg) (["tool", "moment"] : List Str)) := by
  refine fnS_okX F scBegunI (by rfl) (by rfl) (by decide +kernel) hsup htop (fun vs H Q E h => ?_) (fun cda cc A outer s H vs Q E hr SUP h => ?_)
  · obtain ⟨G, x, dx, as, rfl, hl, _⟩ := h
    obtain ⟨v1, v2, rfl⟩ := len_2 hl
    rfl
  · obtain ⟨G, x, dx, as, rfl, hl, sG, gx, hx, kd, sz, bad, good⟩ := h
    obtain ⟨v1, v2, rfl⟩ := len_2 hl
    have hu64 := hr.units
    have cc := RC.c
    have passL0 : ∀ {X : Cx}, Passes CX0 X E0 := fun {X} => pass0
    have na1 := RC.own "tool" (by simp)
    have na2 := RC.own "moment" (by simp)
    obtain ⟨ty_1, k1⟩ := kd v1 (by simp)
    obtain ⟨ty_2, k2⟩ := kd v2 (by simp)
    have outE : ∀ (cls : Addr) (f : Str) (v : V), rowFault Cn Cm Cs ([Sg.n, Sg.m 1] : List Sg) [v1, v2] = some (cls, f, v) → ∀ (dd : Addr) (G' H' : Hp), Wd ⟨H, G, [x], []⟩ G' H' [x] → G' dd = some (.xd [(f, v)]) → E (.ref cls) (some dd) H' := fun cls f v hf dd G' H' w' hdd => by
      obtain ⟨_, ⟨o, ho⟩, _⟩ := w'.mu x (by simp)
      exact bad cls f v hf G' H' dd (fun b o hn h => w'.kp b o (by simpa using hn) h) ⟨o, ho, w'.mt x (by simp) o ho⟩ w'.gh w'.gr w'.fr hdd
    refine ⟨_, (pssF_cons (ps_expr (pe_callD DNN hr passS (pa_cons (pv 1) pa_nil)))
        (pssF_cons (ps_expr (pe_callD DNM1 hr passS (pa_cons (pv 2) (pa_cons pe_int pa_nil))))
        (pss_sup SUP SC GR hr BR passL0 (pa_cons pe_str (pa_cons (pe_tup (pa_cons (pv 1) (pa_cons (pe_callTy q_strN (by rfl) T.str (by decide +kernel) (pa_cons (pv 2) pa_nil)) pa_nil))) (pa_cons (pe_tup (pa_cons (pv 1) pa_nil)) (pa_cons (pe_tup (pa_cons (pv 2) pa_nil)) pa_nil))))
        (pssF_of (pss_cons (ps_fld (pv 0) (pv 1) rfl)
        (pss_one (ps_fld (pv 0) (pv 2) rfl))))))), ?_⟩
    have w0 : Wd ⟨H, G, [x], []⟩ G H [x] := wd_start sG (fun b h => by rw [List.mem_singleton.mp h]; exact ⟨gx, _, hx, rfl⟩) (by simp)
    walk_at "qq"
    refine u_needN w0 k1 (fun z e => sz z (by rw [← e]; simp)) (fun c1 G1 H1 w1 s1 t1 => ?_) (fun c1 d G' H' w' s' t' hd => outE _ _ _ (by simp [rowFault, sgOk, sgErr, c1]) d G' H' w' hd)
    obtain ⟨z1, rfl⟩ : ∃ z, v1 = .str z := name_text c1
    have lz1 : z1.length ≤ 8 := nmOk_len c1
    walk_at "qq"
    refine u_needM w1 (k2.same s1) (fun c2 G2 H2 w2 s2 t2 => ?_) (fun c2 d G' H' w' s' t' hd => outE _ _ _ (by simp [rowFault, sgOk, sgErr, c1, c2]) d G' H' w' hd)
    obtain ⟨z2, rfl, lo2, hi2⟩ := mom_num c2
    have lg2 : z2.natAbs.log2 < 1920 := logZ (by omega) hi2
    walk_at "qq"
    have hxp := t2 _ _ (t1 _ _ (hx))
    refine r_sup rfl hxp ?_
    walk_at "qq"
    rename_i l11 G11 H11 n11 w11 s11 h11 t11 l12 G12 H12 n12 w12 s12 h12 t12 l13 G13 H13 n13 w13 s13 h13 t13
    have hx13 := t13 _ _ (t12 _ _ (t11 _ _ hxp))
    refine u_rowB w13 (by simp) hx13 fun H14 w14 b14 h14 => ?_
    walk_at "qq"
    rename_i H15 w15 h15 b15 H16 w16 h16 b16
    exact good (by simp [rowFault, sgOk, sgErr, c1, c2]) G13 H16 l11 l12 l13 (fun b o hn h => w16.kp b o (by simpa using hn) h) w16.gh w16.gr w16.fr (s13 _ _ (s12 _ _ h11)) (s13 _ _ h12) h13 h16

abbrev nSetByI : List Str := (["self", "tool", "moment", "by"] : List Str)
theorem scSetByI : FnScS nSetByI (["self", "tool", "moment", "by"] : List Str) (defScope sSetByI) := ⟨rfl, rfl, rfl, by decide +kernel, rfl, by decide +kernel, by decide +kernel, by decide +kernel, by decide +kernel, by decide +kernel⟩
theorem ok_SetByI {f fR : Addr} {fd fdR : FuncData} {psR : List Str} (F : SupD P K "__init__" "SetBy.__init__" sSetByI C f fd) (T : Bi mg) (RC : RwC K C (["tool", "moment", "by"] : List Str)) (hsup : mg "super" = none) (htop : (P.main.scope.names.lookup ("super" : Str)).isSome = false)
    (DNN : Df P w K mg base (L2.CX P w) 3 "need_name" [] (spNeedN K Cn)) (DNM0 : Df P w K mg base (L2.CX P w) 3 "need_moment" [.int 0] (spNeedM K Cm)) (DNM1 : Df P w K mg base (L2.CX P w) 3 "need_moment" [] (spNeedM K Cm)) 
    (SC : SupC K C C fR) (GR : FnOk P w K mg base CX0 1 fR fdR psR (spRow C)) (BR : Binds K fdR psR []) : FnOk P w K mg base (L2.CX P w) 4 f fd (["self", "tool", "moment", "by"] : List Str) (spRowI K C Cn Cm Cs "setby" [] ([Sg.n, Sg.m 1, Sg.n] : List Sg) (["tool", "moment", "by"] : List Str)) := by
  refine fnS_okX F scSetByI (by rfl) (by rfl) (by decide +kernel) hsup htop (fun vs H Q E h => ?_) (fun cda cc A outer s H vs Q E hr SUP h => ?_)
  · obtain ⟨G, x, dx, as, rfl, hl, _⟩ := h
    obtain ⟨v1, v2, v3, rfl⟩ := len_3 hl
    rfl
  · obtain ⟨G, x, dx, as, rfl, hl, sG, gx, hx, kd, sz, bad, good⟩ := h
    obtain ⟨v1, v2, v3, rfl⟩ := len_3 hl
    have hu64 := hr.units
    have cc := RC.c
    have passL0 : ∀ {X : Cx}, Passes CX0 X E0 := fun {X} => pass0
    have na1 := RC.own "tool" (by simp)
    have na2 := RC.own "moment" (by simp)
    have na3 := RC.own "by" (by simp)
    obtain ⟨ty_1, k1⟩ := kd v1 (by simp)
    obtain ⟨ty_2, k2⟩ := kd v2 (by simp)
    obtain ⟨ty_3, k3⟩ := kd v3 (by simp)
    have outE : ∀ (cls : Addr) (f : Str) (v : V), rowFault Cn Cm Cs ([Sg.n, Sg.m 1, Sg.n] : List Sg) [v1, v2, v3] = some (cls, f, v) → ∀ (dd : Addr) (G' H' : Hp), Wd ⟨H, G, [x], []⟩ G' H' [x] → G' dd = some (.xd [(f, v)]) → E (.ref cls) (some dd) H' := fun cls f v hf dd G' H' w' hdd => by
      obtain ⟨_, ⟨o, ho⟩, _⟩ := w'.mu x (by simp)
      exact bad cls f v hf G' H' dd (fun b o hn h => w'.kp b o (by simpa using hn) h) ⟨o, ho, w'.mt x (by simp) o ho⟩ w'.gh w'.gr w'.fr hdd
    refine ⟨_, (pssF_cons (ps_expr (pe_callD DNN hr passS (pa_cons (pv 1) pa_nil)))
        (pssF_cons (ps_expr (pe_callD DNM1 hr passS (pa_cons (pv 2) (pa_cons pe_int pa_nil))))
        (pssF_cons (ps_expr (pe_callD DNN hr passS (pa_cons (pv 3) pa_nil)))
        (pss_sup SUP SC GR hr BR passL0 (pa_cons pe_str (pa_cons (pe_tup (pa_cons (pv 1) (pa_cons (pe_callTy q_strN (by rfl) T.str (by decide +kernel) (pa_cons (pv 2) pa_nil)) (pa_cons (pv 3) pa_nil)))) (pa_cons (pe_tup (pa_cons (pv 1) (pa_cons (pv 3) pa_nil))) (pa_cons (pe_tup (pa_cons (pv 2) pa_nil)) pa_nil))))
        (pssF_of (pss_cons (ps_fld (pv 0) (pv 1) rfl)
        (pss_cons (ps_fld (pv 0) (pv 2) rfl)
        (pss_one (ps_fld (pv 0) (pv 3) rfl))))))))), ?_⟩
    have w0 : Wd ⟨H, G, [x], []⟩ G H [x] := wd_start sG (fun b h => by rw [List.mem_singleton.mp h]; exact ⟨gx, _, hx, rfl⟩) (by simp)
    walk_at "qq"
    refine u_needN w0 k1 (fun z e => sz z (by rw [← e]; simp)) (fun c1 G1 H1 w1 s1 t1 => ?_) (fun c1 d G' H' w' s' t' hd => outE _ _ _ (by simp [rowFault, sgOk, sgErr, c1]) d G' H' w' hd)
    obtain ⟨z1, rfl⟩ : ∃ z, v1 = .str z := name_text c1
    have lz1 : z1.length ≤ 8 := nmOk_len c1
    walk_at "qq"
    refine u_needM w1 (k2.same s1) (fun c2 G2 H2 w2 s2 t2 => ?_) (fun c2 d G' H' w' s' t' hd => outE _ _ _ (by simp [rowFault, sgOk, sgErr, c1, c2]) d G' H' w' hd)
    obtain ⟨z2, rfl, lo2, hi2⟩ := mom_num c2
    have lg2 : z2.natAbs.log2 < 1920 := logZ (by omega) hi2
    walk_at "qq"
    refine u_needN w2 (k3.same (s1.trans s2)) (fun z e => sz z (by rw [← e]; simp)) (fun c3 G3 H3 w3 s3 t3 => ?_) (fun c3 d G' H' w' s' t' hd => outE _ _ _ (by simp [rowFault, sgOk, sgErr, c1, c2, c3]) d G' H' w' hd)
    obtain ⟨z3, rfl⟩ : ∃ z, v3 = .str z := name_text c3
    have lz3 : z3.length ≤ 8 := nmOk_len c3
    walk_at "qq"
    have hxp := t3 _ _ (t2 _ _ (t1 _ _ (hx)))
    refine r_sup rfl hxp ?_
    walk_at "qq"
    rename_i l11 G11 H11 n11 w11 s11 h11 t11 l12 G12 H12 n12 w12 s12 h12 t12 l13 G13 H13 n13 w13 s13 h13 t13
    have hx13 := t13 _ _ (t12 _ _ (t11 _ _ hxp))
    refine u_rowB w13 (by simp) hx13 fun H14 w14 b14 h14 => ?_
    walk_at "qq"
    rename_i H15 w15 h15 b15 H16 w16 h16 b16 H17 w17 h17 b17
    exact good (by simp [rowFault, sgOk, sgErr, c1, c2, c3]) G13 H17 l11 l12 l13 (fun b o hn h => w17.kp b o (by simpa using hn) h) w17.gh w17.gr w17.fr (s13 _ _ (s12 _ _ h11)) (s13 _ _ h12) h13 h17

abbrev nFoundI : List Str := (["self", "tool", "moment", "is_sound"] : List Str)
theorem scFoundI : FnScS nFoundI (["self", "tool", "moment", "is_sound"] : List Str) (defScope sFoundI) := ⟨rfl, rfl, rfl, by decide +kernel, rfl, by decide +kernel, by decide +kernel, by decide +kernel, by decide +kernel, by decide +kernel⟩
theorem ok_FoundI {f fR : Addr} {fd fdR : FuncData} {psR : List Str} (F : SupD P K "__init__" "Found.__init__" sFoundI C f fd) (T : Bi mg) (RC : RwC K C (["tool", "moment", "is_sound"] : List Str)) (hsup : mg "super" = none) (htop : (P.main.scope.names.lookup ("super" : Str)).isSome = false)
    (DNN : Df P w K mg base (L2.CX P w) 3 "need_name" [] (spNeedN K Cn)) (DNM0 : Df P w K mg base (L2.CX P w) 3 "need_moment" [.int 0] (spNeedM K Cm)) (DNM1 : Df P w K mg base (L2.CX P w) 3 "need_moment" [] (spNeedM K Cm)) (ES : ErD P w K mg base "BadSaying" Cs (spErr1 Cs "value")) 
    (SC : SupC K C C fR) (GR : FnOk P w K mg base CX0 1 fR fdR psR (spRow C)) (BR : Binds K fdR psR []) : FnOk P w K mg base (L2.CX P w) 4 f fd (["self", "tool", "moment", "is_sound"] : List Str) (spRowI K C Cn Cm Cs "found" [] ([Sg.n, Sg.m 0, Sg.t] : List Sg) (["tool", "moment", "is_sound"] : List Str)) := by
  refine fnS_okX F scFoundI (by rfl) (by rfl) (by decide +kernel) hsup htop (fun vs H Q E h => ?_) (fun cda cc A outer s H vs Q E hr SUP h => ?_)
  · obtain ⟨G, x, dx, as, rfl, hl, _⟩ := h
    obtain ⟨v1, v2, v3, rfl⟩ := len_3 hl
    rfl
  · obtain ⟨G, x, dx, as, rfl, hl, sG, gx, hx, kd, sz, bad, good⟩ := h
    obtain ⟨v1, v2, v3, rfl⟩ := len_3 hl
    have hu64 := hr.units
    have cc := RC.c
    have passL0 : ∀ {X : Cx}, Passes CX0 X E0 := fun {X} => pass0
    have na1 := RC.own "tool" (by simp)
    have na2 := RC.own "moment" (by simp)
    have na3 := RC.own "is_sound" (by simp)
    obtain ⟨ty_1, k1⟩ := kd v1 (by simp)
    obtain ⟨ty_2, k2⟩ := kd v2 (by simp)
    obtain ⟨ty_3, k3⟩ := kd v3 (by simp)
    have outE : ∀ (cls : Addr) (f : Str) (v : V), rowFault Cn Cm Cs ([Sg.n, Sg.m 0, Sg.t] : List Sg) [v1, v2, v3] = some (cls, f, v) → ∀ (dd : Addr) (G' H' : Hp), Wd ⟨H, G, [x], []⟩ G' H' [x] → G' dd = some (.xd [(f, v)]) → E (.ref cls) (some dd) H' := fun cls f v hf dd G' H' w' hdd => by
      obtain ⟨_, ⟨o, ho⟩, _⟩ := w'.mu x (by simp)
      exact bad cls f v hf G' H' dd (fun b o hn h => w'.kp b o (by simpa using hn) h) ⟨o, ho, w'.mt x (by simp) o ho⟩ w'.gh w'.gr w'.fr hdd
    refine ⟨_, (pssF_cons (ps_expr (pe_callD DNN hr passS (pa_cons (pv 1) pa_nil)))
        (pssF_cons (ps_expr (pe_callD DNM0 hr passS (pa_cons (pv 2) pa_nil)))
        (pssF_cons (ps_if (pt_not (pt_val (pe_callB call_isi (by rfl) T.isinstance (by decide +kernel) (pa_cons (pv 3) (pa_cons (pe_bltn (v := .ty "bool") (by rfl) T.bool (by decide +kernel) rfl) pa_nil))))) (pss_one (ps_raiseD rfl takesS ES hr (pa_cons (pv 3) pa_nil))) pss_nil)
        (pss_sup SUP SC GR hr BR passL0 (pa_cons pe_str (pa_cons (pe_tup (pa_cons (pv 1) (pa_cons (pe_callTy q_strN (by rfl) T.str (by decide +kernel) (pa_cons (pv 2) pa_nil)) (pa_cons (pe_ifExp (pt_val (pv 3)) pe_str pe_str) pa_nil)))) (pa_cons (pe_tup (pa_cons (pv 1) pa_nil)) (pa_cons (pe_tup (pa_cons (pv 2) pa_nil)) pa_nil))))
        (pssF_of (pss_cons (ps_fld (pv 0) (pv 1) rfl)
        (pss_cons (ps_fld (pv 0) (pv 2) rfl)
        (pss_one (ps_fld (pv 0) (pv 3) rfl))))))))), ?_⟩
    have w0 : Wd ⟨H, G, [x], []⟩ G H [x] := wd_start sG (fun b h => by rw [List.mem_singleton.mp h]; exact ⟨gx, _, hx, rfl⟩) (by simp)
    walk_at "qq"
    refine u_needN w0 k1 (fun z e => sz z (by rw [← e]; simp)) (fun c1 G1 H1 w1 s1 t1 => ?_) (fun c1 d G' H' w' s' t' hd => outE _ _ _ (by simp [rowFault, sgOk, sgErr, c1]) d G' H' w' hd)
    obtain ⟨z1, rfl⟩ : ∃ z, v1 = .str z := name_text c1
    have lz1 : z1.length ≤ 8 := nmOk_len c1
    walk_at "qq"
    refine u_needM w1 (k2.same s1) (fun c2 G2 H2 w2 s2 t2 => ?_) (fun c2 d G' H' w' s' t' hd => outE _ _ _ (by simp [rowFault, sgOk, sgErr, c1, c2]) d G' H' w' hd)
    obtain ⟨z2, rfl, lo2, hi2⟩ := mom_num c2
    have lg2 : z2.natAbs.log2 < 1920 := logZ (by omega) hi2
    walk_at "qq"
    have ty3 := same_ty w2.le ((k3.same (s1.trans s2))).ty
    have tb3 := ((k3.same (s1.trans s2))).bool
    walk_at "qq"
    refine ite_nb (fun c3 => ?_) (fun c3 => ?_)
    · walk_at "qq"
      exact u_raise1 (by assumption) fun dd G' H' w' s' t' hdd => outE _ _ _ (by simp [rowFault, sgOk, sgErr, c1, c2, c3]) dd G' H' w' hdd
    obtain ⟨z3, rfl⟩ := bool_is c3
    walk_at "qq"
    cases z3 with
    | true =>
      have hxp := t2 _ _ (t1 _ _ (hx))
      refine r_sup rfl hxp ?_
      walk_at "qq"
      rename_i l11 G11 H11 n11 w11 s11 h11 t11 l12 G12 H12 n12 w12 s12 h12 t12 l13 G13 H13 n13 w13 s13 h13 t13
      have hx13 := t13 _ _ (t12 _ _ (t11 _ _ hxp))
      refine u_rowB w13 (by simp) hx13 fun H14 w14 b14 h14 => ?_
      walk_at "qq"
      rename_i H15 w15 h15 b15 H16 w16 h16 b16 H17 w17 h17 b17
      exact good (by simp [rowFault, sgOk, sgErr, c1, c2, c3]) G13 H17 l11 l12 l13 (fun b o hn h => w17.kp b o (by simpa using hn) h) w17.gh w17.gr w17.fr (s13 _ _ (s12 _ _ h11)) (s13 _ _ h12) h13 h17
    | false =>
      have hxp := t2 _ _ (t1 _ _ (hx))
      refine r_sup rfl hxp ?_
      walk_at "qq"
      rename_i l11 G11 H11 n11 w11 s11 h11 t11 l12 G12 H12 n12 w12 s12 h12 t12 l13 G13 H13 n13 w13 s13 h13 t13
      have hx13 := t13 _ _ (t12 _ _ (t11 _ _ hxp))
      refine u_rowB w13 (by simp) hx13 fun H14 w14 b14 h14 => ?_
      walk_at "qq"
      rename_i H15 w15 h15 b15 H16 w16 h16 b16 H17 w17 h17 b17
      exact good (by simp [rowFault, sgOk, sgErr, c1, c2, c3]) G13 H17 l11 l12 l13 (fun b o hn h => w17.kp b o (by simpa using hn) h) w17.gh w17.gr w17.fr (s13 _ _ (s12 _ _ h11)) (s13 _ _ h12) h13 h17

abbrev nTrustedI : List Str := (["self", "tool"] : List Str)
theorem scTrustedI : FnScS nTrustedI (["self", "tool"] : List Str) (defScope sTrustedI) := ⟨rfl, rfl, rfl, by decide +kernel, rfl, by decide +kernel, by decide +kernel, by decide +kernel, by decide +kernel, by decide +kernel⟩
theorem ok_TrustedI {f fR : Addr} {fd fdR : FuncData} {psR : List Str} (F : SupD P K "__init__" "Trusted.__init__" sTrustedI C f fd) (T : Bi mg) (RC : RwC K C (["tool"] : List Str)) (hsup : mg "super" = none) (htop : (P.main.scope.names.lookup ("super" : Str)).isSome = false)
    (DNN : Df P w K mg base (L2.CX P w) 3 "need_name" [] (spNeedN K Cn)) (DNM0 : Df P w K mg base (L2.CX P w) 3 "need_moment" [.int 0] (spNeedM K Cm)) (DNM1 : Df P w K mg base (L2.CX P w) 3 "need_moment" [] (spNeedM K Cm)) 
    (SC : SupC K C C fR) (GR : FnOk P w K mg base CX0 1 fR fdR psR (spRow C)) (BR : Binds K fdR psR []) : FnOk P w K mg base (L2.CX P w) 4 f fd (["self", "tool"] : List Str) (spRowI K C Cn Cm Cs "trusted" [] ([Sg.n] : List Sg) (["tool"] : List Str)) := by
  refine fnS_okX F scTrustedI (by rfl) (by rfl) (by decide +kernel) hsup htop (fun vs H Q E h => ?_) (fun cda cc A outer s H vs Q E hr SUP h => ?_)
  · obtain ⟨G, x, dx, as, rfl, hl, _⟩ := h
    obtain ⟨v1, rfl⟩ := len_1 hl
    rfl
  · obtain ⟨G, x, dx, as, rfl, hl, sG, gx, hx, kd, sz, bad, good⟩ := h
    obtain ⟨v1, rfl⟩ := len_1 hl
    have hu64 := hr.units
    have cc := RC.c
    have passL0 : ∀ {X : Cx}, Passes CX0 X E0 := fun {X} => pass0
    have na1 := RC.own "tool" (by simp)
    obtain ⟨ty_1, k1⟩ := kd v1 (by simp)
    have outE : ∀ (cls : Addr) (f : Str) (v : V), rowFault Cn Cm Cs ([Sg.n] : List Sg) [v1] = some (cls, f, v) → ∀ (dd : Addr) (G' H' : Hp), Wd ⟨H, G, [x], []⟩ G' H' [x] → G' dd = some (.xd [(f, v)]) → E (.ref cls) (some dd) H' := fun cls f v hf dd G' H' w' hdd => by
      obtain ⟨_, ⟨o, ho⟩, _⟩ := w'.mu x (by simp)
      exact bad cls f v hf G' H' dd (fun b o hn h => w'.kp b o (by simpa using hn) h) ⟨o, ho, w'.mt x (by simp) o ho⟩ w'.gh w'.gr w'.fr hdd
    refine ⟨_, (pssF_cons (ps_expr (pe_callD DNN hr passS (pa_cons (pv 1) pa_nil)))
        (pss_sup SUP SC GR hr BR passL0 (pa_cons pe_str (pa_cons (pe_tup (pa_cons (pv 1) pa_nil)) (pa_cons (pe_tup (pa_cons (pv 1) pa_nil)) (pa_cons (pe_tup pa_nil) pa_nil))))
        (pssF_of (pss_one (ps_fld (pv 0) (pv 1) rfl))))), ?_⟩
    have w0 : Wd ⟨H, G, [x], []⟩ G H [x] := wd_start sG (fun b h => by rw [List.mem_singleton.mp h]; exact ⟨gx, _, hx, rfl⟩) (by simp)
    walk_at "qq"
    refine u_needN w0 k1 (fun z e => sz z (by rw [← e]; simp)) (fun c1 G1 H1 w1 s1 t1 => ?_) (fun c1 d G' H' w' s' t' hd => outE _ _ _ (by simp [rowFault, sgOk, sgErr, c1]) d G' H' w' hd)
    obtain ⟨z1, rfl⟩ : ∃ z, v1 = .str z := name_text c1
    have lz1 : z1.length ≤ 8 := nmOk_len c1
    walk_at "qq"
    have hxp := t1 _ _ (hx)
    refine r_sup rfl hxp ?_
    walk_at "qq"
    rename_i l11 G11 H11 n11 w11 s11 h11 t11 l12 G12 H12 n12 w12 s12 h12 t12 l13 G13 H13 n13 w13 s13 h13 t13
    have hx13 := t13 _ _ (t12 _ _ (t11 _ _ hxp))
    refine u_rowB w13 (by simp) hx13 fun H14 w14 b14 h14 => ?_
    walk_at "qq"
    rename_i H15 w15 h15 b15
    exact good (by simp [rowFault, sgOk, sgErr, c1]) G13 H15 l11 l12 l13 (fun b o hn h => w15.kp b o (by simpa using hn) h) w15.gh w15.gr w15.fr (s13 _ _ (s12 _ _ h11)) (s13 _ _ h12) h13 h15

abbrev nPassedI : List Str := (["self", "tool", "moment", "by"] : List Str)
theorem scPassedI : FnScS nPassedI (["self", "tool", "moment", "by"] : List Str) (defScope sPassedI) := ⟨rfl, rfl, rfl, by decide +kernel, rfl, by decide +kernel, by decide +kernel, by decide +kernel, by decide +kernel, by decide +kernel⟩
theorem ok_PassedI {f fR : Addr} {fd fdR : FuncData} {psR : List Str} (F : SupD P K "__init__" "Passed.__init__" sPassedI C f fd) (T : Bi mg) (RC : RwC K C (["tool", "moment", "by"] : List Str)) (hsup : mg "super" = none) (htop : (P.main.scope.names.lookup ("super" : Str)).isSome = false)
    (DNN : Df P w K mg base (L2.CX P w) 3 "need_name" [] (spNeedN K Cn)) (DNM0 : Df P w K mg base (L2.CX P w) 3 "need_moment" [.int 0] (spNeedM K Cm)) (DNM1 : Df P w K mg base (L2.CX P w) 3 "need_moment" [] (spNeedM K Cm)) 
    (SC : SupC K C C fR) (GR : FnOk P w K mg base CX0 1 fR fdR psR (spRow C)) (BR : Binds K fdR psR []) : FnOk P w K mg base (L2.CX P w) 4 f fd (["self", "tool", "moment", "by"] : List Str) (spRowI K C Cn Cm Cs "passed" [] ([Sg.n, Sg.m 0, Sg.n] : List Sg) (["tool", "moment", "by"] : List Str)) := by
  refine fnS_okX F scPassedI (by rfl) (by rfl) (by decide +kernel) hsup htop (fun vs H Q E h => ?_) (fun cda cc A outer s H vs Q E hr SUP h => ?_)
  · obtain ⟨G, x, dx, as, rfl, hl, _⟩ := h
    obtain ⟨v1, v2, v3, rfl⟩ := len_3 hl
    rfl
  · obtain ⟨G, x, dx, as, rfl, hl, sG, gx, hx, kd, sz, bad, good⟩ := h
    obtain ⟨v1, v2, v3, rfl⟩ := len_3 hl
    have hu64 := hr.units
    have cc := RC.c
    have passL0 : ∀ {X : Cx}, Passes CX0 X E0 := fun {X} => pass0
    have na1 := RC.own "tool" (by simp)
    have na2 := RC.own "moment" (by simp)
    have na3 := RC.own "by" (by simp)
    obtain ⟨ty_1, k1⟩ := kd v1 (by simp)
    obtain ⟨ty_2, k2⟩ := kd v2 (by simp)
    obtain ⟨ty_3, k3⟩ := kd v3 (by simp)
    have outE : ∀ (cls : Addr) (f : Str) (v : V), rowFault Cn Cm Cs ([Sg.n, Sg.m 0, Sg.n] : List Sg) [v1, v2, v3] = some (cls, f, v) → ∀ (dd : Addr) (G' H' : Hp), Wd ⟨H, G, [x], []⟩ G' H' [x] → G' dd = some (.xd [(f, v)]) → E (.ref cls) (some dd) H' := fun cls f v hf dd G' H' w' hdd => by
      obtain ⟨_, ⟨o, ho⟩, _⟩ := w'.mu x (by simp)
      exact bad cls f v hf G' H' dd (fun b o hn h => w'.kp b o (by simpa using hn) h) ⟨o, ho, w'.mt x (by simp) o ho⟩ w'.gh w'.gr w'.fr hdd
    refine ⟨_, (pssF_cons (ps_expr (pe_callD DNN hr passS (pa_cons (pv 1) pa_nil)))
        (pssF_cons (ps_expr (pe_callD DNM0 hr passS (pa_cons (pv 2) pa_nil)))
        (pssF_cons (ps_expr (pe_callD DNN hr passS (pa_cons (pv 3) pa_nil)))
        (pss_sup SUP SC GR hr BR passL0 (pa_cons pe_str (pa_cons (pe_tup (pa_cons (pv 1) (pa_cons (pe_callTy q_strN (by rfl) T.str (by decide +kernel) (pa_cons (pv 2) pa_nil)) (pa_cons (pv 3) pa_nil)))) (pa_cons (pe_tup (pa_cons (pv 1) (pa_cons (pv 3) pa_nil))) (pa_cons (pe_tup (pa_cons (pv 2) pa_nil)) pa_nil))))
        (pssF_of (pss_cons (ps_fld (pv 0) (pv 1) rfl)
        (pss_cons (ps_fld (pv 0) (pv 2) rfl)
        (pss_one (ps_fld (pv 0) (pv 3) rfl))))))))), ?_⟩
    have w0 : Wd ⟨H, G, [x], []⟩ G H [x] := wd_start sG (fun b h => by rw [List.mem_singleton.mp h]; exact ⟨gx, _, hx, rfl⟩) (by simp)
    walk_at "qq"
    refine u_needN w0 k1 (fun z e => sz z (by rw [← e]; simp)) (fun c1 G1 H1 w1 s1 t1 => ?_) (fun c1 d G' H' w' s' t' hd => outE _ _ _ (by simp [rowFault, sgOk, sgErr, c1]) d G' H' w' hd)
    obtain ⟨z1, rfl⟩ : ∃ z, v1 = .str z := name_text c1
    have lz1 : z1.length ≤ 8 := nmOk_len c1
    walk_at "qq"
    refine u_needM w1 (k2.same s1) (fun c2 G2 H2 w2 s2 t2 => ?_) (fun c2 d G' H' w' s' t' hd => outE _ _ _ (by simp [rowFault, sgOk, sgErr, c1, c2]) d G' H' w' hd)
    obtain ⟨z2, rfl, lo2, hi2⟩ := mom_num c2
    have lg2 : z2.natAbs.log2 < 1920 := logZ (by omega) hi2
    walk_at "qq"
    refine u_needN w2 (k3.same (s1.trans s2)) (fun z e => sz z (by rw [← e]; simp)) (fun c3 G3 H3 w3 s3 t3 => ?_) (fun c3 d G' H' w' s' t' hd => outE _ _ _ (by simp [rowFault, sgOk, sgErr, c1, c2, c3]) d G' H' w' hd)
    obtain ⟨z3, rfl⟩ : ∃ z, v3 = .str z := name_text c3
    have lz3 : z3.length ≤ 8 := nmOk_len c3
    walk_at "qq"
    have hxp := t3 _ _ (t2 _ _ (t1 _ _ (hx)))
    refine r_sup rfl hxp ?_
    walk_at "qq"
    rename_i l11 G11 H11 n11 w11 s11 h11 t11 l12 G12 H12 n12 w12 s12 h12 t12 l13 G13 H13 n13 w13 s13 h13 t13
    have hx13 := t13 _ _ (t12 _ _ (t11 _ _ hxp))
    refine u_rowB w13 (by simp) hx13 fun H14 w14 b14 h14 => ?_
    walk_at "qq"
    rename_i H15 w15 h15 b15 H16 w16 h16 b16 H17 w17 h17 b17
    exact good (by simp [rowFault, sgOk, sgErr, c1, c2, c3]) G13 H17 l11 l12 l13 (fun b o hn h => w17.kp b o (by simpa using hn) h) w17.gh w17.gr w17.fr (s13 _ _ (s12 _ _ h11)) (s13 _ _ h12) h13 h17

abbrev nFailedI : List Str := (["self", "tool", "moment", "by"] : List Str)
theorem scFailedI : FnScS nFailedI (["self", "tool", "moment", "by"] : List Str) (defScope sFailedI) := ⟨rfl, rfl, rfl, by decide +kernel, rfl, by decide +kernel, by decide +kernel, by decide +kernel, by decide +kernel, by decide +kernel⟩
theorem ok_FailedI {f fR : Addr} {fd fdR : FuncData} {psR : List Str} (F : SupD P K "__init__" "Failed.__init__" sFailedI C f fd) (T : Bi mg) (RC : RwC K C (["tool", "moment", "by"] : List Str)) (hsup : mg "super" = none) (htop : (P.main.scope.names.lookup ("super" : Str)).isSome = false)
    (DNN : Df P w K mg base (L2.CX P w) 3 "need_name" [] (spNeedN K Cn)) (DNM0 : Df P w K mg base (L2.CX P w) 3 "need_moment" [.int 0] (spNeedM K Cm)) (DNM1 : Df P w K mg base (L2.CX P w) 3 "need_moment" [] (spNeedM K Cm)) 
    (SC : SupC K C C fR) (GR : FnOk P w K mg base CX0 1 fR fdR psR (spRow C)) (BR : Binds K fdR psR []) : FnOk P w K mg base (L2.CX P w) 4 f fd (["self", "tool", "moment", "by"] : List Str) (spRowI K C Cn Cm Cs "failed" [] ([Sg.n, Sg.m 0, Sg.n] : List Sg) (["tool", "moment", "by"] : List Str)) := by
  refine fnS_okX F scFailedI (by rfl) (by rfl) (by decide +kernel) hsup htop (fun vs H Q E h => ?_) (fun cda cc A outer s H vs Q E hr SUP h => ?_)
  · obtain ⟨G, x, dx, as, rfl, hl, _⟩ := h
    obtain ⟨v1, v2, v3, rfl⟩ := len_3 hl
    rfl
  · obtain ⟨G, x, dx, as, rfl, hl, sG, gx, hx, kd, sz, bad, good⟩ := h
    obtain ⟨v1, v2, v3, rfl⟩ := len_3 hl
    have hu64 := hr.units
    have cc := RC.c
    have passL0 : ∀ {X : Cx}, Passes CX0 X E0 := fun {X} => pass0
    have na1 := RC.own "tool" (by simp)
    have na2 := RC.own "moment" (by simp)
    have na3 := RC.own "by" (by simp)
    obtain ⟨ty_1, k1⟩ := kd v1 (by simp)
    obtain ⟨ty_2, k2⟩ := kd v2 (by simp)
    obtain ⟨ty_3, k3⟩ := kd v3 (by simp)
    have outE : ∀ (cls : Addr) (f : Str) (v : V), rowFault Cn Cm Cs ([Sg.n, Sg.m 0, Sg.n] : List Sg) [v1, v2, v3] = some (cls, f, v) → ∀ (dd : Addr) (G' H' : Hp), Wd ⟨H, G, [x], []⟩ G' H' [x] → G' dd = some (.xd [(f, v)]) → E (.ref cls) (some dd) H' := fun cls f v hf dd G' H' w' hdd => by
      obtain ⟨_, ⟨o, ho⟩, _⟩ := w'.mu x (by simp)
      exact bad cls f v hf G' H' dd (fun b o hn h => w'.kp b o (by simpa using hn) h) ⟨o, ho, w'.mt x (by simp) o ho⟩ w'.gh w'.gr w'.fr hdd
    refine ⟨_, (pssF_cons (ps_expr (pe_callD DNN hr passS (pa_cons (pv 1) pa_nil)))
        (pssF_cons (ps_expr (pe_callD DNM0 hr passS (pa_cons (pv 2) pa_nil)))
        (pssF_cons (ps_expr (pe_callD DNN hr passS (pa_cons (pv 3) pa_nil)))
        (pss_sup SUP SC GR hr BR passL0 (pa_cons pe_str (pa_cons (pe_tup (pa_cons (pv 1) (pa_cons (pe_callTy q_strN (by rfl) T.str (by decide +kernel) (pa_cons (pv 2) pa_nil)) (pa_cons (pv 3) pa_nil)))) (pa_cons (pe_tup (pa_cons (pv 1) (pa_cons (pv 3) pa_nil))) (pa_cons (pe_tup (pa_cons (pv 2) pa_nil)) pa_nil))))
        (pssF_of (pss_cons (ps_fld (pv 0) (pv 1) rfl)
        (pss_cons (ps_fld (pv 0) (pv 2) rfl)
        (pss_one (ps_fld (pv 0) (pv 3) rfl))))))))), ?_⟩
    have w0 : Wd ⟨H, G, [x], []⟩ G H [x] := wd_start sG (fun b h => by rw [List.mem_singleton.mp h]; exact ⟨gx, _, hx, rfl⟩) (by simp)
    walk_at "qq"
    refine u_needN w0 k1 (fun z e => sz z (by rw [← e]; simp)) (fun c1 G1 H1 w1 s1 t1 => ?_) (fun c1 d G' H' w' s' t' hd => outE _ _ _ (by simp [rowFault, sgOk, sgErr, c1]) d G' H' w' hd)
    obtain ⟨z1, rfl⟩ : ∃ z, v1 = .str z := name_text c1
    have lz1 : z1.length ≤ 8 := nmOk_len c1
    walk_at "qq"
    refine u_needM w1 (k2.same s1) (fun c2 G2 H2 w2 s2 t2 => ?_) (fun c2 d G' H' w' s' t' hd => outE _ _ _ (by simp [rowFault, sgOk, sgErr, c1, c2]) d G' H' w' hd)
    obtain ⟨z2, rfl, lo2, hi2⟩ := mom_num c2
    have lg2 : z2.natAbs.log2 < 1920 := logZ (by omega) hi2
    walk_at "qq"
    refine u_needN w2 (k3.same (s1.trans s2)) (fun z e => sz z (by rw [← e]; simp)) (fun c3 G3 H3 w3 s3 t3 => ?_) (fun c3 d G' H' w' s' t' hd => outE _ _ _ (by simp [rowFault, sgOk, sgErr, c1, c2, c3]) d G' H' w' hd)
    obtain ⟨z3, rfl⟩ : ∃ z, v3 = .str z := name_text c3
    have lz3 : z3.length ≤ 8 := nmOk_len c3
    walk_at "qq"
    have hxp := t3 _ _ (t2 _ _ (t1 _ _ (hx)))
    refine r_sup rfl hxp ?_
    walk_at "qq"
    rename_i l11 G11 H11 n11 w11 s11 h11 t11 l12 G12 H12 n12 w12 s12 h12 t12 l13 G13 H13 n13 w13 s13 h13 t13
    have hx13 := t13 _ _ (t12 _ _ (t11 _ _ hxp))
    refine u_rowB w13 (by simp) hx13 fun H14 w14 b14 h14 => ?_
    walk_at "qq"
    rename_i H15 w15 h15 b15 H16 w16 h16 b16 H17 w17 h17 b17
    exact good (by simp [rowFault, sgOk, sgErr, c1, c2, c3]) G13 H17 l11 l12 l13 (fun b o hn h => w17.kp b o (by simpa using hn) h) w17.gh w17.gr w17.fr (s13 _ _ (s12 _ _ h11)) (s13 _ _ h12) h13 h17

abbrev nMeetingI : List Str := (["self", "kind", "one", "moment", "other", "later"] : List Str)
theorem scMeetingI : FnScS nMeetingI (["self", "kind", "one", "moment", "other", "later"] : List Str) (defScope sMeetingI) := ⟨rfl, rfl, rfl, by decide +kernel, rfl, by decide +kernel, by decide +kernel, by decide +kernel, by decide +kernel, by decide +kernel⟩
theorem ok_MeetingI {f fR D : Addr} {fd fdR : FuncData} {psR : List Str} (kind : Str) (F : SupD P K "__init__" "Meeting.__init__" sMeetingI D f fd) (T : Bi mg) (RC : RwC K C (["one", "moment", "other", "later"] : List Str)) (hsup : mg "super" = none) (htop : (P.main.scope.names.lookup ("super" : Str)).isSome = false)
    (DNN : Df P w K mg base (L2.CX P w) 3 "need_name" [] (spNeedN K Cn)) (DNM0 : Df P w K mg base (L2.CX P w) 3 "need_moment" [.int 0] (spNeedM K Cm)) (DNM1 : Df P w K mg base (L2.CX P w) 3 "need_moment" [] (spNeedM K Cm)) 
    (SC : SupC K C D fR) (GR : FnOk P w K mg base CX0 1 fR fdR psR (spRow C)) (BR : Binds K fdR psR []) : FnOk P w K mg base (L2.CX P w) 4 f fd (["self", "kind", "one", "moment", "other", "later"] : List Str) (spRowI K C Cn Cm Cs kind [.str kind] ([Sg.n, Sg.m 0, Sg.n, Sg.m 0] : List Sg) (["one", "moment", "other", "later"] : List Str)) := by
  refine fnS_okX F scMeetingI (by rfl) (by rfl) (by decide +kernel) hsup htop (fun vs H Q E h => ?_) (fun cda cc A outer s H vs Q E hr SUP h => ?_)
  · obtain ⟨G, x, dx, as, rfl, hl, _⟩ := h
    obtain ⟨v1, v2, v3, v4, rfl⟩ := len_4 hl
    rfl
  · obtain ⟨G, x, dx, as, rfl, hl, sG, gx, hx, kd, sz, bad, good⟩ := h
    obtain ⟨v1, v2, v3, v4, rfl⟩ := len_4 hl
    have hu64 := hr.units
    have cc := RC.c
    have passL0 : ∀ {X : Cx}, Passes CX0 X E0 := fun {X} => pass0
    have na1 := RC.own "one" (by simp)
    have na2 := RC.own "moment" (by simp)
    have na3 := RC.own "other" (by simp)
    have na4 := RC.own "later" (by simp)
    obtain ⟨ty_1, k1⟩ := kd v1 (by simp)
    obtain ⟨ty_2, k2⟩ := kd v2 (by simp)
    obtain ⟨ty_3, k3⟩ := kd v3 (by simp)
    obtain ⟨ty_4, k4⟩ := kd v4 (by simp)
    have outE : ∀ (cls : Addr) (f : Str) (v : V), rowFault Cn Cm Cs ([Sg.n, Sg.m 0, Sg.n, Sg.m 0] : List Sg) [v1, v2, v3, v4] = some (cls, f, v) → ∀ (dd : Addr) (G' H' : Hp), Wd ⟨H, G, [x], []⟩ G' H' [x] → G' dd = some (.xd [(f, v)]) → E (.ref cls) (some dd) H' := fun cls f v hf dd G' H' w' hdd => by
      obtain ⟨_, ⟨o, ho⟩, _⟩ := w'.mu x (by simp)
      exact bad cls f v hf G' H' dd (fun b o hn h => w'.kp b o (by simpa using hn) h) ⟨o, ho, w'.mt x (by simp) o ho⟩ w'.gh w'.gr w'.fr hdd
    refine ⟨_, (pssF_cons (ps_expr (pe_callD DNN hr passS (pa_cons (pv 2) pa_nil)))
        (pssF_cons (ps_expr (pe_callD DNM0 hr passS (pa_cons (pv 3) pa_nil)))
        (pssF_cons (ps_expr (pe_callD DNN hr passS (pa_cons (pv 4) pa_nil)))
        (pssF_cons (ps_expr (pe_callD DNM0 hr passS (pa_cons (pv 5) pa_nil)))
        (pss_sup SUP SC GR hr BR passL0 (pa_cons (pv 1) (pa_cons (pe_tup (pa_cons (pv 2) (pa_cons (pe_callTy q_strN (by rfl) T.str (by decide +kernel) (pa_cons (pv 3) pa_nil)) (pa_cons (pv 4) (pa_cons (pe_callTy q_strN (by rfl) T.str (by decide +kernel) (pa_cons (pv 5) pa_nil)) pa_nil))))) (pa_cons (pe_tup (pa_cons (pv 2) (pa_cons (pv 4) pa_nil))) (pa_cons (pe_tup (pa_cons (pv 3) (pa_cons (pv 5) pa_nil))) pa_nil))))
        (pssF_of (pss_cons (ps_fld (pv 0) (pv 2) rfl)
        (pss_cons (ps_fld (pv 0) (pv 3) rfl)
        (pss_cons (ps_fld (pv 0) (pv 4) rfl)
        (pss_one (ps_fld (pv 0) (pv 5) rfl))))))))))), ?_⟩
    have w0 : Wd ⟨H, G, [x], []⟩ G H [x] := wd_start sG (fun b h => by rw [List.mem_singleton.mp h]; exact ⟨gx, _, hx, rfl⟩) (by simp)
    walk_at "qq"
    refine u_needN w0 k1 (fun z e => sz z (by rw [← e]; simp)) (fun c1 G1 H1 w1 s1 t1 => ?_) (fun c1 d G' H' w' s' t' hd => outE _ _ _ (by simp [rowFault, sgOk, sgErr, c1]) d G' H' w' hd)
    obtain ⟨z1, rfl⟩ : ∃ z, v1 = .str z := name_text c1
    have lz1 : z1.length ≤ 8 := nmOk_len c1
    walk_at "qq"
    refine u_needM w1 (k2.same s1) (fun c2 G2 H2 w2 s2 t2 => ?_) (fun c2 d G' H' w' s' t' hd => outE _ _ _ (by simp [rowFault, sgOk, sgErr, c1, c2]) d G' H' w' hd)
    obtain ⟨z2, rfl, lo2, hi2⟩ := mom_num c2
    have lg2 : z2.natAbs.log2 < 1920 := logZ (by omega) hi2
    walk_at "qq"
    refine u_needN w2 (k3.same (s1.trans s2)) (fun z e => sz z (by rw [← e]; simp)) (fun c3 G3 H3 w3 s3 t3 => ?_) (fun c3 d G' H' w' s' t' hd => outE _ _ _ (by simp [rowFault, sgOk, sgErr, c1, c2, c3]) d G' H' w' hd)
    obtain ⟨z3, rfl⟩ : ∃ z, v3 = .str z := name_text c3
    have lz3 : z3.length ≤ 8 := nmOk_len c3
    walk_at "qq"
    refine u_needM w3 (k4.same (s1.trans (s2.trans s3))) (fun c4 G4 H4 w4 s4 t4 => ?_) (fun c4 d G' H' w' s' t' hd => outE _ _ _ (by simp [rowFault, sgOk, sgErr, c1, c2, c3, c4]) d G' H' w' hd)
    obtain ⟨z4, rfl, lo4, hi4⟩ := mom_num c4
    have lg4 : z4.natAbs.log2 < 1920 := logZ (by omega) hi4
    walk_at "qq"
    have hxp := t4 _ _ (t3 _ _ (t2 _ _ (t1 _ _ (hx))))
    refine r_sup rfl hxp ?_
    walk_at "qq"
    rename_i l11 G11 H11 n11 w11 s11 h11 t11 l12 G12 H12 n12 w12 s12 h12 t12 l13 G13 H13 n13 w13 s13 h13 t13
    have hx13 := t13 _ _ (t12 _ _ (t11 _ _ hxp))
    refine u_rowB w13 (by simp) hx13 fun H14 w14 b14 h14 => ?_
    walk_at "qq"
    rename_i H15 w15 h15 b15 H16 w16 h16 b16 H17 w17 h17 b17 H18 w18 h18 b18
    exact good (by simp [rowFault, sgOk, sgErr, c1, c2, c3, c4]) G13 H18 l11 l12 l13 (fun b o hn h => w18.kp b o (by simpa using hn) h) w18.gh w18.gr w18.fr (s13 _ _ (s12 _ _ h11)) (s13 _ _ h12) h13 h18

abbrev nAgreedI : List Str := (["self", "one", "moment", "other", "later"] : List Str)
theorem scAgreedI : FnScS nAgreedI (["self", "one", "moment", "other", "later"] : List Str) (defScope sAgreedI) := ⟨rfl, rfl, rfl, by decide +kernel, rfl, by decide +kernel, by decide +kernel, by decide +kernel, by decide +kernel, by decide +kernel⟩
theorem ok_AgreedI {f fM : Addr} {fd fdM : FuncData} {psM : List Str} (F : SupD P K "__init__" "Agreed.__init__" sAgreedI C f fd) (hsup : mg "super" = none) (htop : (P.main.scope.names.lookup ("super" : Str)).isSome = false)
    (SC : SupC K C C fM) (GM : FnOk P w K mg base (L2.CX P w) 4 fM fdM psM (spRowI K C Cn Cm Cs "agreed" [.str "agreed"] ([Sg.n, Sg.m 0, Sg.n, Sg.m 0] : List Sg) (["one", "moment", "other", "later"] : List Str))) (BM : Binds K fdM psM []) : FnOk P w K mg base (L2.CX P w) 5 f fd (["self", "one", "moment", "other", "later"] : List Str) (spRowI K C Cn Cm Cs "agreed" [] ([Sg.n, Sg.m 0, Sg.n, Sg.m 0] : List Sg) (["one", "moment", "other", "later"] : List Str)) := by
  refine fnS_okX F scAgreedI (by rfl) (by rfl) (by decide +kernel) hsup htop (fun vs H Q E h => ?_) (fun cda cc A outer s H vs Q E hr SUP h => ?_)
  · obtain ⟨G, x, dx, as, rfl, hl, _⟩ := h
    obtain ⟨v1, v2, v3, v4, rfl⟩ := len_4 hl
    rfl
  · obtain ⟨G, x, dx, as, rfl, hl, sG, gx, hx, kd, sz, bad, good⟩ := h
    obtain ⟨v1, v2, v3, v4, rfl⟩ := len_4 hl
    have hu64 := hr.units
    refine ⟨_, (pss_sup SUP SC GM hr BM passS (pa_cons pe_str (pa_cons (pv 1) (pa_cons (pv 2) (pa_cons (pv 3) (pa_cons (pv 4) pa_nil)))))
        (pssF_of pss_nil)), ?_⟩
    refine r_sup rfl hx ?_
    walk_at "qq"
    exact ⟨G, x, dx, [v1, v2, v3, v4], rfl, hl, sG, gx, hx, kd, sz, bad, good⟩

abbrev nDifferedI : List Str := (["self", "one", "moment", "other", "later"] : List Str)
theorem scDifferedI : FnScS nDifferedI (["self", "one", "moment", "other", "later"] : List Str) (defScope sDifferedI) := ⟨rfl, rfl, rfl, by decide +kernel, rfl, by decide +kernel, by decide +kernel, by decide +kernel, by decide +kernel, by decide +kernel⟩
theorem ok_DifferedI {f fM : Addr} {fd fdM : FuncData} {psM : List Str} (F : SupD P K "__init__" "Differed.__init__" sDifferedI C f fd) (hsup : mg "super" = none) (htop : (P.main.scope.names.lookup ("super" : Str)).isSome = false)
    (SC : SupC K C C fM) (GM : FnOk P w K mg base (L2.CX P w) 4 fM fdM psM (spRowI K C Cn Cm Cs "differed" [.str "differed"] ([Sg.n, Sg.m 0, Sg.n, Sg.m 0] : List Sg) (["one", "moment", "other", "later"] : List Str))) (BM : Binds K fdM psM []) : FnOk P w K mg base (L2.CX P w) 5 f fd (["self", "one", "moment", "other", "later"] : List Str) (spRowI K C Cn Cm Cs "differed" [] ([Sg.n, Sg.m 0, Sg.n, Sg.m 0] : List Sg) (["one", "moment", "other", "later"] : List Str)) := by
  refine fnS_okX F scDifferedI (by rfl) (by rfl) (by decide +kernel) hsup htop (fun vs H Q E h => ?_) (fun cda cc A outer s H vs Q E hr SUP h => ?_)
  · obtain ⟨G, x, dx, as, rfl, hl, _⟩ := h
    obtain ⟨v1, v2, v3, v4, rfl⟩ := len_4 hl
    rfl
  · obtain ⟨G, x, dx, as, rfl, hl, sG, gx, hx, kd, sz, bad, good⟩ := h
    obtain ⟨v1, v2, v3, v4, rfl⟩ := len_4 hl
    have hu64 := hr.units
    refine ⟨_, (pss_sup SUP SC GM hr BM passS (pa_cons pe_str (pa_cons (pv 1) (pa_cons (pv 2) (pa_cons (pv 3) (pa_cons (pv 4) pa_nil)))))
        (pssF_of pss_nil)), ?_⟩
    refine r_sup rfl hx ?_
    walk_at "qq"
    exact ⟨G, x, dx, [v1, v2, v3, v4], rfl, hl, sG, gx, hx, kd, sz, bad, good⟩

abbrev nServedI : List Str := (["self", "one", "moment", "other", "later"] : List Str)
theorem scServedI : FnScS nServedI (["self", "one", "moment", "other", "later"] : List Str) (defScope sServedI) := ⟨rfl, rfl, rfl, by decide +kernel, rfl, by decide +kernel, by decide +kernel, by decide +kernel, by decide +kernel, by decide +kernel⟩
theorem ok_ServedI {f fM : Addr} {fd fdM : FuncData} {psM : List Str} (F : SupD P K "__init__" "Served.__init__" sServedI C f fd) (hsup : mg "super" = none) (htop : (P.main.scope.names.lookup ("super" : Str)).isSome = false)
    (SC : SupC K C C fM) (GM : FnOk P w K mg base (L2.CX P w) 4 fM fdM psM (spRowI K C Cn Cm Cs "served" [.str "served"] ([Sg.n, Sg.m 0, Sg.n, Sg.m 0] : List Sg) (["one", "moment", "other", "later"] : List Str))) (BM : Binds K fdM psM []) : FnOk P w K mg base (L2.CX P w) 5 f fd (["self", "one", "moment", "other", "later"] : List Str) (spRowI K C Cn Cm Cs "served" [] ([Sg.n, Sg.m 0, Sg.n, Sg.m 0] : List Sg) (["one", "moment", "other", "later"] : List Str)) := by
  refine fnS_okX F scServedI (by rfl) (by rfl) (by decide +kernel) hsup htop (fun vs H Q E h => ?_) (fun cda cc A outer s H vs Q E hr SUP h => ?_)
  · obtain ⟨G, x, dx, as, rfl, hl, _⟩ := h
    obtain ⟨v1, v2, v3, v4, rfl⟩ := len_4 hl
    rfl
  · obtain ⟨G, x, dx, as, rfl, hl, sG, gx, hx, kd, sz, bad, good⟩ := h
    obtain ⟨v1, v2, v3, v4, rfl⟩ := len_4 hl
    have hu64 := hr.units
    refine ⟨_, (pss_sup SUP SC GM hr BM passS (pa_cons pe_str (pa_cons (pv 1) (pa_cons (pv 2) (pa_cons (pv 3) (pa_cons (pv 4) pa_nil)))))
        (pssF_of pss_nil)), ?_⟩
    refine r_sup rfl hx ?_
    walk_at "qq"
    exact ⟨G, x, dx, [v1, v2, v3, v4], rfl, hl, sG, gx, hx, kd, sz, bad, good⟩

abbrev nBackedI : List Str := (["self", "one", "moment", "other", "later"] : List Str)
theorem scBackedI : FnScS nBackedI (["self", "one", "moment", "other", "later"] : List Str) (defScope sBackedI) := ⟨rfl, rfl, rfl, by decide +kernel, rfl, by decide +kernel, by decide +kernel, by decide +kernel, by decide +kernel, by decide +kernel⟩
theorem ok_BackedI {f fM : Addr} {fd fdM : FuncData} {psM : List Str} (F : SupD P K "__init__" "Backed.__init__" sBackedI C f fd) (hsup : mg "super" = none) (htop : (P.main.scope.names.lookup ("super" : Str)).isSome = false)
    (SC : SupC K C C fM) (GM : FnOk P w K mg base (L2.CX P w) 4 fM fdM psM (spRowI K C Cn Cm Cs "backed" [.str "backed"] ([Sg.n, Sg.m 0, Sg.n, Sg.m 0] : List Sg) (["one", "moment", "other", "later"] : List Str))) (BM : Binds K fdM psM []) : FnOk P w K mg base (L2.CX P w) 5 f fd (["self", "one", "moment", "other", "later"] : List Str) (spRowI K C Cn Cm Cs "backed" [] ([Sg.n, Sg.m 0, Sg.n, Sg.m 0] : List Sg) (["one", "moment", "other", "later"] : List Str)) := by
  refine fnS_okX F scBackedI (by rfl) (by rfl) (by decide +kernel) hsup htop (fun vs H Q E h => ?_) (fun cda cc A outer s H vs Q E hr SUP h => ?_)
  · obtain ⟨G, x, dx, as, rfl, hl, _⟩ := h
    obtain ⟨v1, v2, v3, v4, rfl⟩ := len_4 hl
    rfl
  · obtain ⟨G, x, dx, as, rfl, hl, sG, gx, hx, kd, sz, bad, good⟩ := h
    obtain ⟨v1, v2, v3, v4, rfl⟩ := len_4 hl
    have hu64 := hr.units
    refine ⟨_, (pss_sup SUP SC GM hr BM passS (pa_cons pe_str (pa_cons (pv 1) (pa_cons (pv 2) (pa_cons (pv 3) (pa_cons (pv 4) pa_nil)))))
        (pssF_of pss_nil)), ?_⟩
    refine r_sup rfl hx ?_
    walk_at "qq"
    exact ⟨G, x, dx, [v1, v2, v3, v4], rfl, hl, sG, gx, hx, kd, sz, bad, good⟩

end

/-! ### names, moments that a law draws -/
section
variable {P : Program} {w : World} {K : PySem.W.Frag} {mg : Str → Option Value} {base : Heap}
abbrev nWords : List Str := ["_law_some"]
theorem scWords : FnScope nWords [] (defScope sWords) := ⟨rfl, rfl, rfl, by decide +kernel, rfl, by decide +kernel, by decide +kernel⟩
theorem ok_words {f : Addr} {fd : FuncData} (F : FnP K "_law_words" "_law_words" sWords [] f fd) : FnOk P w K mg base CX0 1 f fd [] (spWords K) := by
  refine fnP_ok F scWords (fun vs H Q E h => ?_) (fun cdv A outer s H vs Q E hr h => ?_)
  · obtain ⟨G, rfl, _⟩ := h
    rfl
  · obtain ⟨G, rfl, sG, k⟩ := h
    have hu64 := hr.units
    refine ⟨_, (pss_cons (ps_set (i := 0) scWords.nd rfl (Or.inl rfl) (pe_lst (pa_cons pe_str (pa_cons pe_str (pa_cons pe_str (pa_cons pe_str (pa_cons pe_str (pa_cons pe_str (pa_cons pe_str (pa_cons pe_str (pa_cons pe_str (pa_cons pe_str pa_nil))))))))))))
        (pss_one (ps_ret (pe_op q_add (pv 0) (pe_lst (pa_cons pe_str (pa_cons pe_str (pa_cons pe_str (pa_cons pe_str (pa_cons pe_str (pa_cons pe_str (pa_cons pe_str (pa_cons pe_str (pa_cons pe_str (pa_cons pe_str pa_nil))))))))))))))), ?_⟩
    have w0 := wd_pure sG
    walk_at "qq"
    rename_i l G1 H1 n1 w1 s1 h1 t1
    exact ret_of k w1 ⟨l, rfl, h1⟩
abbrev nName : List Str := ["_law_pen_here", "_law_letters", "_law_made_here", "_law_k"]
theorem scName : FnScope nName ["_law_pen_here"] (defScope sName) := ⟨rfl, rfl, rfl, by decide +kernel, rfl, by decide +kernel, by decide +kernel⟩
theorem ok_name {f : Addr} {fd : FuncData} (F : FnP K "_law_name" "_law_name" sName [] f fd) (T : Bi mg) (Dp : Df P w K mg base CX0 3 "_law_pick" [] (spPick K)) (Dw : Df P w K mg base CX0 1 "_law_words" [] (spWords K)) :
    FnOk P w K mg base CX0 4 f fd ["_law_pen_here"] spName := by
  refine fnP_ok F scName (fun vs H Q E h => ?_) (fun cdv A outer s H vs Q E hr h => ?_)
  · obtain ⟨G, p, c, n, rfl, _⟩ := h
    rfl
  · obtain ⟨G, p, c, n, rfl, sG, gp, hc, hp, hn, k⟩ := h
    have hu64 := hr.units
    have w0 : Wd ⟨H, G, [p], []⟩ G H [p] := by
      obtain ⟨a, g, h1, _⟩ := id hp
      exact wd_start sG (fun a h => by rw [List.mem_singleton.mp h]; exact ⟨gp, _, h1, rfl⟩) (by simp)
    refine ⟨_, (pss_cons (ps_set (i := 1) scName.nd rfl (Or.inl rfl) pe_str)
        (pss_cons (ps_set (i := 2) scName.nd rfl (Or.inl rfl) (pe_callD Dp hr pass0 (pa_cons (pv 0) (pa_cons (pv 1) pa_nil))))
        (pss_cons (ps_for PassesOwn.never rfl (pi_range1 rfl T.range (pa_cons (pe_callD Dp hr pass0 (pa_cons (pv 0) (pa_cons (pe_lst (pa_cons pe_int (pa_cons pe_int (pa_cons pe_int (pa_cons pe_int (pa_cons pe_int pa_nil)))))) pa_nil))) pa_nil)) (pg_name (i := 3) scName.nd rfl (Or.inl rfl)) (pss_one (ps_set (i := 2) scName.nd rfl (Or.inl rfl) (pe_op q_add (pv 2) (pe_callD Dp hr pass0 (pa_cons (pv 0) (pa_cons (pe_op q_add (pv 1) pe_str) pa_nil)))))))
        (pss_one (ps_ret (pe_ifExp (pt_cmpR op_notIn_seq (pv 2) (pe_callD0 Dw hr pass0) (by rfl)) (pv 2) (pe_op q_add pe_str (pe_slice sl_str (pv 2) (po_some pe_int) po_none)))))))), ?_⟩
    walk_at "qq"
    refine u_pick w0 (by simp) hc hp (by omega) (.inr ⟨zLetters, rfl, by decide, rfl⟩) (by decide) (by decide) fun v1 G1 H1 w1 s1 b1 P1 m1 => ?_
    obtain ⟨c1, hc1, rfl⟩ := List.mem_map.mp m1
    have pre1 := NmPre.one hc1
    have hcl1 := hc.same s1
    walk_at "qq"
    rename_i l2 G2 H2 n2 w2 s2 h2 t2
    refine u_pick w2 (by simp) (hcl1.same s2) (P1.same t2) (by omega) (.inl ⟨l2, rfl, .inl (SqL.of h2)⟩) (by simp) (by decide) fun v3 G3 H3 w3 s3 b3 P3 m3 => ?_
    have hm : ∃ m : Nat, v3 = .int m ∧ m ≤ 7 := by
      simp only [List.mem_cons, List.not_mem_nil, or_false] at m3
      rcases m3 with rfl | rfl | rfl | rfl | rfl
      · exact ⟨0, rfl, by decide⟩
      · exact ⟨0, rfl, by decide⟩
      · exact ⟨1, rfl, by decide⟩
      · exact ⟨2, rfl, by decide⟩
      · exact ⟨7, rfl, by decide⟩
    obtain ⟨m, rfl, hm7⟩ := hm
    have hc3 := (hcl1.same s2).same s3
    walk_at "qq"
    rw [Int.toNat_natCast]
    refine for_go walk_range (fun i σ Hx => ∃ (Gi : Hp) (z : Str) (x : Option V), σ = [some (.ref p), some (.str zLetters), some (.str z), x] ∧ Wd ⟨H, G, [p], []⟩ Gi Hx [p] ∧ Same G3 Gi ∧ NmPre z (1 + i) ∧ PenAt p c (n + 2 + i) Hx)
      ⟨G3, _, none, rfl, w3, Same.refl _, pre1, P3⟩ (fun _ _ _ _ _ => trivial) ?_ ?_
    · rintro i x σ Ha Hb hi ⟨Gi, z, x3, rfl, wi, si, pre, Pi⟩ ⟨rfl, rfl⟩
      have hzl : z.length ≤ 9 := by
        obtain ⟨_, _, _, _, _, hz⟩ := pre
        omega
      have l26 : zLetters.length = 26 := by decide
      have l10 : (Str.ofString "0123456789").length = 10 := by decide
      walk_at "qq"
      refine u_pick wi (by simp) (hc3.same si) Pi (by omega) (.inr ⟨zBoth, rfl, by decide, rfl⟩) (by decide) (by decide) fun v4 G4 H4 w4 s4 b4 P4 m4 => ?_
      obtain ⟨c4, hc4, rfl⟩ := List.mem_map.mp m4
      have l1 : (⟨#[c4]⟩ : Str).length = 1 := rfl
      walk_at "qq"
      exact ⟨G4, _, _, rfl, w4, si.trans s4, pre.add hc4, P4⟩
    · rintro σ Ha ⟨Gi, z, x3, rfl, wi, si, pre, Pi⟩
      have pre8 : NmPre z 8 := pre.more (by omega)
      have hzl : z.length ≤ 8 := by
        obtain ⟨_, _, _, _, _, hz⟩ := pre8
        exact hz
      walk_at "qq"
      refine u_words wi fun l G5 H5 w5 s5 t5 h5 => ?_
      have P5 := (Pi.same t5).more (show n + 2 + m ≤ n + 9 by omega)
      walk_at "qq"
      refine ite_nb (fun e1 => ?_) (fun e1 => ?_)
      · walk_at "qq"
        exact retP_of k w5 P5 ⟨z, rfl, pre8.ok e1⟩
      · have lc := cutS_length z (some 1) none
        have lx : (Str.ofString "x").length = 1 := rfl
        walk_at "qq"
        exact retP_of k w5 P5 ⟨_, rfl, pre8.x⟩
end

/-! ### odd names, odd moments -/
section
variable {P : Program} {w : World} {K : PySem.W.Frag} {mg : Str → Option Value} {base : Heap}
abbrev nOddN : List Str := ["_law_pen_here", "_law_some"]
theorem scOddN : FnScope nOddN ["_law_pen_here"] (defScope sOddN) := ⟨rfl, rfl, rfl, by decide +kernel, rfl, by decide +kernel, by decide +kernel⟩
theorem ok_oddN {f : Addr} {fd : FuncData} (F : FnP K "_law_odd_name" "_law_odd_name" sOddN [] f fd) (Dp : Df P w K mg base CX0 3 "_law_pick" [] (spPick K)) (Dw : Df P w K mg base CX0 1 "_law_words" [] (spWords K)) : FnOk P w K mg base CX0 4 f fd ["_law_pen_here"] (spOddN K) := by
  refine fnP_ok F scOddN (fun vs H Q E h => ?_) (fun cdv A outer s H vs Q E hr h => ?_)
  · obtain ⟨G, p, c, n, rfl, _⟩ := h
    rfl
  · obtain ⟨G, p, c, n, rfl, sG, gp, hc, hp, hn, k⟩ := h
    have hu64 := hr.units
    have w0 : Wd ⟨H, G, [p], []⟩ G H [p] := by
      obtain ⟨a, g, h1, _⟩ := id hp
      exact wd_start sG (fun a h => by rw [List.mem_singleton.mp h]; exact ⟨gp, _, h1, rfl⟩) (by simp)
    refine ⟨_, (pss_cons (ps_set (i := 1) scOddN.nd rfl (Or.inl rfl) (pe_lst (pa_cons pe_str (pa_cons pe_str (pa_cons pe_str (pa_cons pe_str (pa_cons pe_str (pa_cons pe_str (pa_cons pe_str (pa_cons pe_str (pa_cons pe_str (pa_cons pe_str (pa_cons pe_non (pa_cons pe_int (pa_cons pe_bl (pa_cons (pe_lst (pa_cons pe_str pa_nil)) (pa_cons (pe_tup (pa_cons pe_str pa_nil)) (pa_cons pe_dnewK pa_nil))))))))))))))))))
        (pss_one (ps_ret (pe_callD Dp hr pass0 (pa_cons (pv 0) (pa_cons (pe_op q_add (pv 1) (pe_op op_rep (pe_lst (pa_cons (pe_callD Dp hr pass0 (pa_cons (pv 0) (pa_cons (pe_callD0 Dw hr pass0) pa_nil))) pa_nil)) pe_int)) pa_nil)))))), ?_⟩
    walk_at "qq"
    rename_i l1 G1 H1 n1 w1 s1 h1 t1 l2 G2 H2 n2 w2 s2 h2 t2 l3 G3 H3 n3 w3 s3 h3 t3 l4 G4 H4 n4 w4 s4 h4 t4
    refine u_words w4 fun l5 G5 H5 w5 s5 t5 h5 => ?_
    walk_at "qq"
    refine u_pick w5 (by simp) (hc.same (s1.trans (s2.trans (s3.trans (s4.trans s5))))) (hp.same (t1.trans (t2.trans (t3.trans (t4.trans t5))))) (by omega) (.inl ⟨l5, rfl, .inl (SqL.of h5)⟩) (by decide) (by decide) fun v6 G6 H6 w6 s6 b6 P6 m6 => ?_
    obtain ⟨wd, hwd, rfl⟩ := List.mem_map.mp m6
    obtain ⟨q1, q2, q3⟩ := words_odd wd hwd
    walk_at "qq"
    rename_i l7 G7 H7 n7 w7 s7 h7 t7 l8 G8 H8 n8 w8 s8 h8 t8 l9 G9 H9 n9 w9 s9 h9 t9
    have S5 := s1.trans (s2.trans (s3.trans (s4.trans s5)))
    have S9 := s6.trans (s7.trans (s8.trans s9))
    refine u_pick w9 (by simp) ((hc.same S5).same S9) (P6.same (t7.trans (t8.trans t9))) (by omega) (.inl ⟨l9, rfl, .inl (SqL.of h9)⟩) (by simp) (Nat.le_of_ble_eq_true rfl) fun v G10 H10 w10 s10 b10 P10 m10 => ?_
    refine retP_of k w10 P10 ?_
    have k1 : G10 l1 = some (.lst [.str "a"]) := s10 _ _ (S9 _ _ (s5 _ _ (s4 _ _ (s3 _ _ (s2 _ _ h1)))))
    have k2 : G10 l2 = some (.tup [.str "a"]) := s10 _ _ (S9 _ _ (s5 _ _ (s4 _ _ (s3 _ _ h2))))
    have k3 : G10 l3 = some (.dK []) := s10 _ _ (S9 _ _ (s5 _ _ (s4 _ _ h3)))
    rcases List.mem_append.mp m10 with m10 | m10
    · simp only [List.mem_cons, List.not_mem_nil, or_false] at m10
      rcases m10 with rfl | rfl | rfl | rfl | rfl | rfl | rfl | rfl | rfl | rfl | rfl | rfl | rfl | rfl | rfl | rfl
      · exact ⟨by decide +kernel, _, odd_str (by decide +kernel) (by decide)⟩
      · exact ⟨by decide +kernel, _, odd_str (by decide +kernel) (by decide)⟩
      · exact ⟨by decide +kernel, _, odd_str (by decide +kernel) (by decide)⟩
      · exact ⟨by decide +kernel, _, odd_str (by decide +kernel) (by decide)⟩
      · exact ⟨by decide +kernel, _, odd_str (by decide +kernel) (by decide)⟩
      · exact ⟨by decide +kernel, _, odd_str (by decide +kernel) (by decide)⟩
      · exact ⟨by decide +kernel, _, odd_str (by decide +kernel) (by decide)⟩
      · exact ⟨by decide +kernel, _, odd_str (by decide +kernel) (by decide)⟩
      · exact ⟨by decide +kernel, _, odd_str (by decide +kernel) (by decide)⟩
      · exact ⟨by decide +kernel, _, odd_str (by decide +kernel) (by decide)⟩
      · exact ⟨rfl, _, odd_non⟩
      · exact ⟨rfl, _, odd_int (by decide +kernel) (by decide +kernel)⟩
      · exact ⟨rfl, _, odd_bl⟩
      · exact ⟨rfl, _, odd_lst k1 (.cons (.str _) .nil) (by decide +kernel) (by decide +kernel) (by decide +kernel)⟩
      · exact ⟨rfl, _, odd_tup k2 (.cons (.str _) .nil) (by decide +kernel) (by decide +kernel) (by decide +kernel)⟩
      · exact ⟨rfl, _, odd_dic k3⟩
    · have e3 : (List.replicate (Int.toNat 3) [V.str wd]).flatten = [V.str wd, V.str wd, V.str wd] := rfl
      rw [e3] at m10
      simp only [List.mem_cons, List.not_mem_nil, or_false, or_self] at m10
      subst m10
      exact ⟨q1, _, odd_str q2 q3⟩
end

/-! ### odd moments of lives -/
section
variable {P : Program} {w : World} {K : PySem.W.Frag} {mg : Str → Option Value} {base : Heap}
abbrev nOddT : List Str := ["_law_pen_here"]
theorem scOddT : FnScope nOddT ["_law_pen_here"] (defScope sOddT) := ⟨rfl, rfl, rfl, by decide +kernel, rfl, by decide +kernel, by decide +kernel⟩
theorem ok_oddT {f : Addr} {fd : FuncData} (F : FnP K "_law_odd_tick" "_law_odd_tick" sOddT [] f fd) (Dp : Df P w K mg base CX0 3 "_law_pick" [] (spPick K)) : FnOk P w K mg base CX0 4 f fd ["_law_pen_here"] (spOddT K) := by
  refine fnP_ok F scOddT (fun vs H Q E h => ?_) (fun cdv A outer s H vs Q E hr h => ?_)
  · obtain ⟨G, p, c, n, rfl, _⟩ := h
    rfl
  · obtain ⟨G, p, c, n, rfl, sG, gp, hc, hp, hn, k⟩ := h
    have hu64 := hr.units
    have w0 : Wd ⟨H, G, [p], []⟩ G H [p] := by
      obtain ⟨a, g, h1, _⟩ := id hp
      exact wd_start sG (fun a h => by rw [List.mem_singleton.mp h]; exact ⟨gp, _, h1, rfl⟩) (by simp)
    refine ⟨_, (pss_one (ps_ret (pe_callD Dp hr pass0 (pa_cons (pv 0) (pa_cons (pe_lst (pa_cons pe_non (pa_cons pe_bl (pa_cons pe_bl (pa_cons pe_str (pa_cons (pe_un un_neg pe_int) (pa_cons (pe_op q_add (pe_op q_pow pe_int pe_int) pe_int) (pa_cons (pe_un un_neg (pe_op q_pow pe_int pe_int)) (pa_cons (pe_lst (pa_cons pe_int pa_nil)) (pa_cons (pe_tup pa_nil) (pa_cons pe_dnewK (pa_cons pe_str (pa_cons (pe_op q_pow pe_int pe_int) pa_nil))))))))))))) pa_nil))))), ?_⟩
    walk_at "qq"
    rename_i l1 G1 H1 n1 w1 s1 h1 t1 l2 G2 H2 n2 w2 s2 h2 t2 l3 G3 H3 n3 w3 s3 h3 t3 l4 G4 H4 n4 w4 s4 h4 t4
    have S4 := s1.trans (s2.trans (s3.trans s4))
    refine u_pick w4 (by simp) (hc.same S4) (hp.same (t1.trans (t2.trans (t3.trans t4)))) (by omega) (.inl ⟨l4, rfl, .inl (SqL.of h4)⟩) (by simp) (Nat.le_of_ble_eq_true rfl) fun v G5 H5 w5 s5 b5 P5 m5 => ?_
    refine retP_of k w5 P5 ?_
    have k1 : G5 l1 = some (.lst [.int 5]) := s5 _ _ (s4 _ _ (s3 _ _ (s2 _ _ h1)))
    have k2 : G5 l2 = some (.tup []) := s5 _ _ (s4 _ _ (s3 _ _ h2))
    have k3 : G5 l3 = some (.dK []) := s5 _ _ (s4 _ _ h3)
    simp only [List.mem_cons, List.not_mem_nil, or_false] at m5
    rcases m5 with rfl | rfl | rfl | rfl | rfl | rfl | rfl | rfl | rfl | rfl | rfl | rfl
    · exact ⟨rfl, rfl, _, odd_non⟩
    · exact ⟨rfl, rfl, _, odd_bl⟩
    · exact ⟨rfl, rfl, _, odd_bl⟩
    · exact ⟨rfl, rfl, _, odd_str (by decide +kernel) (by decide)⟩
    · exact ⟨by decide +kernel, by decide +kernel, _, odd_int (by decide +kernel) (by decide +kernel)⟩
    · exact ⟨by decide +kernel, by decide +kernel, _, odd_int (by decide +kernel) (by decide +kernel)⟩
    · exact ⟨by decide +kernel, by decide +kernel, _, odd_int (by decide +kernel) (by decide +kernel)⟩
    · exact ⟨rfl, rfl, _, odd_lst k1 (.cons (.int _) .nil) (by decide +kernel) (by decide +kernel) (by decide +kernel)⟩
    · exact ⟨rfl, rfl, _, odd_tup k2 .nil (by decide +kernel) (by decide +kernel) (by decide +kernel)⟩
    · exact ⟨rfl, rfl, _, odd_dic k3⟩
    · exact ⟨rfl, rfl, _, odd_str (by decide +kernel) (by decide)⟩
    · exact ⟨by decide +kernel, by decide +kernel, _, odd_int (by decide +kernel) (by decide +kernel)⟩
end

/-! ### moments, kinds, rows drawn, forms -/
section
variable {P : Program} {w : World} {K : PySem.W.Frag} {mg : Str → Option Value} {base : Heap}
abbrev nTick : List Str := ["_law_pen_here", "_law_some"]
theorem scTick : FnScope nTick ["_law_pen_here"] (defScope sTick) := ⟨rfl, rfl, rfl, by decide +kernel, rfl, by decide +kernel, by decide +kernel⟩
theorem ok_tick {f : Addr} {fd : FuncData} (F : FnP K "_law_tick" "_law_tick" sTick [] f fd) (Dd : Df P w K mg base CX0 2 "_law_draw" [] spDraw) (Dp : Df P w K mg base CX0 3 "_law_pick" [] (spPick K)) : FnOk P w K mg base CX0 4 f fd ["_law_pen_here"] spMom1 := by
  refine fnP_ok F scTick (fun vs H Q E h => ?_) (fun cdv A outer s H vs Q E hr h => ?_)
  · obtain ⟨G, p, c, n, rfl, _⟩ := h
    rfl
  · obtain ⟨G, p, c, n, rfl, sG, gp, hc, hp, hn, k⟩ := h
    have hu64 := hr.units
    have w0 : Wd ⟨H, G, [p], []⟩ G H [p] := by
      obtain ⟨a, g, h1, _⟩ := id hp
      exact wd_start sG (fun a h => by rw [List.mem_singleton.mp h]; exact ⟨gp, _, h1, rfl⟩) (by simp)
    have e30 : (10 : Int) ^ Int.toNat 30 = 1000000000000000000000000000000 := by decide
    refine ⟨_, (pss_cons (ps_set (i := 1) scTick.nd rfl (Or.inl rfl) (pe_lst (pa_cons pe_int (pa_cons pe_int (pa_cons pe_int (pa_cons pe_int (pa_cons pe_int (pa_cons pe_int (pa_cons pe_int (pa_cons pe_int (pa_cons (pe_op q_pow pe_int pe_int) (pa_cons (pe_op q_sub (pe_op q_pow pe_int pe_int) pe_int) pa_nil))))))))))))
        (pss_one (ps_ret (pe_callD Dp hr pass0 (pa_cons (pv 0) (pa_cons (pe_op q_add (pv 1) (pe_lst (pa_cons (pe_callD Dd hr pass0 (pa_cons (pv 0) (pa_cons pe_int pa_nil))) (pa_cons (pe_callD Dd hr pass0 (pa_cons (pv 0) (pa_cons (pe_op q_pow pe_int pe_int) pa_nil))) pa_nil)))) pa_nil)))))), ?_⟩
    walk_at "qq"
    rename_i l0 G0 H0 n0 w9 s0 h0 t0
    refine u_draw w9 (by simp) (hc.same s0) (hp.same t0) (by omega) (by decide) (by decide) fun d1 G1 H1 w1 s1 b1 P1 a1 a2 => ?_
    walk_at "qq"
    rw [e30]
    refine u_draw w1 (by simp) ((hc.same s0).same s1) P1 (by omega) (by decide) (by decide) fun d2 G2 H2 w2 s2 b2 P2 a3 a4 => ?_
    walk_at "qq"
    rename_i l2 G5 H5 n5 w5 s5 h5 t5 l3 G3 H3 n3 w3 s3 h3 t3
    refine u_pick w3 (by simp) (((((hc.same s0).same s1).same s2).same s5).same s3) ((P2.same t5).same t3) (by omega) (.inl ⟨l3, rfl, .inl (SqL.of h3)⟩) (by simp) (Nat.le_of_ble_eq_true rfl) fun v G4 H4 w4 s4 b4 P4 m4 => ?_
    refine retP_of k w4 P4 ?_
    simp only [List.cons_append, List.nil_append, List.mem_cons, List.not_mem_nil, or_false] at m4
    rcases m4 with rfl | rfl | rfl | rfl | rfl | rfl | rfl | rfl | rfl | rfl | rfl | rfl
    · exact ⟨_, rfl, by decide, by decide⟩
    · exact ⟨_, rfl, by decide, by decide⟩
    · exact ⟨_, rfl, by decide, by decide⟩
    · exact ⟨_, rfl, by decide, by decide⟩
    · exact ⟨_, rfl, by decide, by decide⟩
    · exact ⟨_, rfl, by decide, by decide⟩
    · exact ⟨_, rfl, by decide, by decide⟩
    · exact ⟨_, rfl, by decide, by decide⟩
    · exact ⟨_, rfl, by decide, by decide⟩
    · exact ⟨_, rfl, by decide, by decide⟩
    · exact ⟨_, rfl, by omega, by omega⟩
    · exact ⟨_, rfl, by omega, by omega⟩
abbrev nKinds : List Str := ["_law_some"]
theorem scKinds : FnScope nKinds [] (defScope sKinds) := ⟨rfl, rfl, rfl, by decide +kernel, rfl, by decide +kernel, by decide +kernel⟩
theorem ok_kinds {f : Addr} {fd : FuncData} (F : FnP K "_law_kinds" "_law_kinds" sKinds [] f fd) : FnOk P w K mg base CX0 1 f fd [] spKinds := by
  refine fnP_ok F scKinds (fun vs H Q E h => ?_) (fun cdv A outer s H vs Q E hr h => ?_)
  · obtain ⟨G, rfl, _⟩ := h
    rfl
  · obtain ⟨G, rfl, sG, k⟩ := h
    have hu64 := hr.units
    refine ⟨_, (pss_cons (ps_set (i := 0) scKinds.nd rfl (Or.inl rfl) (pe_lst (pa_cons pe_str (pa_cons pe_str (pa_cons pe_str (pa_cons pe_str (pa_cons pe_str (pa_cons pe_str pa_nil))))))))
        (pss_one (ps_ret (pe_op q_add (pv 0) (pe_lst (pa_cons pe_str (pa_cons pe_str (pa_cons pe_str (pa_cons pe_str pa_nil))))))))), ?_⟩
    have w0 := wd_pure sG
    walk_at "qq"
    rename_i l1 G1 H1 n1 w1 s1 h1 t1
    exact ret_of k w1 ⟨_, rfl, h1⟩
abbrev nForms : List Str := ["_law_kind", "_law_forms_here"]
theorem scForms : FnScope nForms ["_law_kind"] (defScope sForms) := ⟨rfl, rfl, rfl, by decide +kernel, rfl, by decide +kernel, by decide +kernel⟩
theorem form_get : ∀ i, i < 10 → valV (mergeK [] [((Sum.inr "begun" : Key), V.str "nm"), ((Sum.inr "setby" : Key), V.str "nmn"), ((Sum.inr "found" : Key), V.str "nmt"), ((Sum.inr "trusted" : Key), V.str "n"), ((Sum.inr "passed" : Key), V.str "nmn"), ((Sum.inr "failed" : Key), V.str "nmn")]) (Sum.inr (kindN i)) = (if i < 6 then some (V.str (formN i)) else none) ∧ (¬ i < 6 → formN i = "nmnm") := by decide +kernel
theorem ok_forms {f : Addr} {fd : FuncData} (F : FnP K "_law_forms" "_law_forms" sForms [] f fd) : FnOk P w K mg base CX0 1 f fd ["_law_kind"] spForms := by
  refine fnP_ok F scForms (fun vs H Q E h => ?_) (fun cdv A outer s H vs Q E hr h => ?_)
  · obtain ⟨G, i, rfl, _⟩ := h
    rfl
  · obtain ⟨G, i, rfl, hi, sG, k⟩ := h
    have hu64 := hr.units
    have hu1 : (A.deeper (envOfC "_law_forms" (defScope sForms) s.heap.objs.size f cdv)).units + 1 < cLine := by omega
    refine ⟨_, (pss_cons (ps_set (i := 1) scForms.nd rfl (Or.inl rfl) (pe_disp (pps_cons pe_str pe_str (pps_cons pe_str pe_str (pps_cons pe_str pe_str (pps_cons pe_str pe_str (pps_cons pe_str pe_str (pps_cons pe_str pe_str pps_nil)))))) rfl rfl (by simp) (by decide)))
        (pss_one (ps_ret (pe_dget2 hu1 (pv 1) (pv 0) pe_str ⟨rfl, rfl, rfl, rfl⟩)))), ?_⟩
    have w0 := wd_pure sG
    walk_at "qq"
    refine r_dispC [((Sum.inr "begun" : Key), V.str "nm"), ((Sum.inr "setby" : Key), V.str "nmn"), ((Sum.inr "found" : Key), V.str "nmt"), ((Sum.inr "trusted" : Key), V.str "n"), ((Sum.inr "passed" : Key), V.str "nmn"), ((Sum.inr "failed" : Key), V.str "nmn")] rfl w0 (by decide) fun p G1 H1 w1 s1 t1 h1 => ?_
    walk_at "qq"
    have hd := w1.le _ _ h1
    obtain ⟨g1, g2⟩ := form_get i hi
    refine ⟨p, rfl, .inl ⟨_, .inl hd⟩, ?_⟩
    walk_at "qq"
    refine ⟨_, DGet.k (k := .inr (kindN i)) hd, ?_⟩
    rw [g1]
    by_cases c : i < 6
    · rw [if_pos c]
      exact ret_of k w1 rfl
    · rw [if_neg c]
      exact ret_of k w1 (by rw [g2 c]; rfl)
abbrev nDrawn : List Str := ["_law_pen_here", "_law_crew", "_law_kinds_here", "_law_kind", "_law_left", "_law_right", "_law_tick_here", "_law_far"]
theorem scDrawn : FnScope nDrawn ["_law_pen_here", "_law_crew", "_law_kinds_here"] (defScope sDrawn) := ⟨rfl, rfl, rfl, by decide +kernel, rfl, by decide +kernel, by decide +kernel⟩
theorem ok_drawn {f : Addr} {fd : FuncData} (F : FnP K "_law_drawn" "_law_drawn" sDrawn [] f fd) (T : Bi mg) (Dd : Df P w K mg base CX0 2 "_law_draw" [] spDraw) (Dp : Df P w K mg base CX0 3 "_law_pick" [] (spPick K)) (Dt : Df P w K mg base CX0 4 "_law_tick" [] spMom1) : FnOk P w K mg base CX0 5 f fd ["_law_pen_here", "_law_crew", "_law_kinds_here"] spDrawn := by
  refine fnP_ok F scDrawn (fun vs H Q E h => ?_) (fun cdv A outer s H vs Q E hr h => ?_)
  · obtain ⟨G, p, c, cr, lk, n, ns, ks, rfl, _⟩ := h
    rfl
  · obtain ⟨G, p, c, cr, lk, n, ns, ks, rfl, sG, gp, hc, hp, hn, g1, g2, g3, g4, g5, g6, g7, g8, k⟩ := h
    have hu64 := hr.units
    have w0 : Wd ⟨H, G, [p], []⟩ G H [p] := by
      obtain ⟨a, g, h1, _⟩ := id hp
      exact wd_start sG (fun a h => by rw [List.mem_singleton.mp h]; exact ⟨gp, _, h1, rfl⟩) (by simp)
    refine ⟨_, (pss_cons (ps_set (i := 3) scDrawn.nd rfl (Or.inl rfl) (pe_callD Dp hr pass0 (pa_cons (pv 0) (pa_cons (pv 2) pa_nil))))
        (pss_cons (ps_par (i := 4) (j := 5) (by rfl) scDrawn.nd rfl rfl (by decide) rfl rfl (pa_cons (pe_callD Dp hr pass0 (pa_cons (pv 0) (pa_cons (pv 1) pa_nil))) (pa_cons (pe_callD Dp hr pass0 (pa_cons (pv 0) (pa_cons (pv 1) pa_nil))) pa_nil)) (by rfl))
        (pss_cons (ps_par (i := 6) (j := 7) (by rfl) scDrawn.nd rfl rfl (by decide) rfl rfl (pa_cons (pe_callD Dt hr pass0 (pa_cons (pv 0) pa_nil)) (pa_cons (pe_callD Dt hr pass0 (pa_cons (pv 0) pa_nil)) pa_nil)) (by rfl))
        (pss_cons (ps_if (pt_cmpR op_in_seq (pv 3) (pe_tup (pa_cons pe_str (pa_cons pe_str pa_nil))) (by rfl)) (pss_one (ps_set (i := 6) scDrawn.nd rfl (Or.inl rfl) (pe_op q_add (pv 6) (pe_callTy q_int (by rfl) T.int (by decide +kernel) (pa_cons (pe_cmpR (q_eq hu64) (pv 6) pe_int (nomark _)) pa_nil))))) pss_nil)
        (pss_cons (ps_if (pt_cmpR (q_eq hu64) (pv 3) pe_str (nomark _)) (pss_one (ps_ret (pe_tup (pa_cons (pv 3) (pa_cons (pv 4) (pa_cons (pv 6) pa_nil)))))) pss_nil)
        (pss_cons (ps_if (pt_cmpR (q_eq hu64) (pv 3) pe_str (nomark _)) (pss_one (ps_ret (pe_tup (pa_cons (pv 3) (pa_cons (pv 4) pa_nil))))) pss_nil)
        (pss_cons (ps_if (pt_cmpR (q_eq hu64) (pv 3) pe_str (nomark _)) (pss_one (ps_ret (pe_tup (pa_cons (pv 3) (pa_cons (pv 4) (pa_cons (pv 6) (pa_cons (pe_cmpR (q_eq hu64) (pe_callD Dd hr pass0 (pa_cons (pv 0) (pa_cons pe_int pa_nil))) pe_int (nomark _)) pa_nil))))))) pss_nil)
        (pss_cons (ps_if (pt_cmpR op_in_seq (pv 3) (pe_tup (pa_cons pe_str (pa_cons pe_str (pa_cons pe_str pa_nil)))) (by rfl)) (pss_one (ps_ret (pe_tup (pa_cons (pv 3) (pa_cons (pv 4) (pa_cons (pv 6) (pa_cons (pv 5) pa_nil))))))) pss_nil)
        (pss_one (ps_ret (pe_tup (pa_cons (pv 3) (pa_cons (pv 4) (pa_cons (pv 6) (pa_cons (pv 5) (pa_cons (pv 7) pa_nil)))))))))))))))), ?_⟩
    walk_at "qq"
    refine u_pick w0 (by simp) hc hp (by omega) (.inl ⟨lk, rfl, .inl (SqL.of g5)⟩) (by simpa using g6) (by rw [List.length_map]; omega) fun v1 G1 H1 w1 s1 b1 P1 m1 => ?_
    obtain ⟨z, hz, rfl⟩ := List.mem_map.mp m1
    obtain ⟨i, hi, rfl⟩ := g8 z hz
    walk_at "qq"
    have hc1 := hc.same s1
    refine u_pick w1 (by simp) hc1 P1 (by omega) (.inl ⟨cr, rfl, .inl (SqL.of (s1 _ _ g1))⟩) (by simpa using g2) (by rw [List.length_map]; omega) fun v2 G2 H2 w2 s2 b2 P2 m2 => ?_
    obtain ⟨z1, hz1, rfl⟩ := List.mem_map.mp m2
    replace hz1 := g4 z1 hz1
    walk_at "qq"
    have hc2 := hc1.same s2
    refine u_pick w2 (by simp) hc2 P2 (by omega) (.inl ⟨cr, rfl, .inl (SqL.of (s2 _ _ (s1 _ _ g1)))⟩) (by simpa using g2) (by rw [List.length_map]; omega) fun v3 G3 H3 w3 s3 b3 P3 m3 => ?_
    obtain ⟨z2, hz2, rfl⟩ := List.mem_map.mp m3
    replace hz2 := g4 z2 hz2
    walk_at "qq"
    have hc3 := hc2.same s3
    refine u_mom1 w3 (by simp) hc3 P3 (by omega) fun i1 G4 H4 w4 s4 b4 P4 o1 => ?_
    walk_at "qq"
    have hc4 := hc3.same s4
    refine u_mom1 w4 (by simp) hc4 P4 (by omega) fun i2 G5 H5 w5 s5 b5 P5 o2 => ?_
    have hc5 := hc4.same s5
    have hk := hz
    obtain ⟨oa, ob⟩ := o1
    obtain ⟨oc, od⟩ := o2
    rcases (by omega : i = 0 ∨ i = 1 ∨ i = 2 ∨ i = 3 ∨ i = 4 ∨ i = 5 ∨ i = 6 ∨ i = 7 ∨ i = 8 ∨ i = 9) with rfl | rfl | rfl | rfl | rfl | rfl | rfl | rfl | rfl | rfl
    · walk_at "qq"
      refine iteY (by first | rfl | decide +kernel) ?_
      walk_at "qq"
      refine iteY (by first | rfl | decide +kernel) ?_
      walk_at "qq"
      refine retP_of k (by assumption) (PenAt.more (n := n + 1 + 1 + 1 + 3 + 3) (by walk_at "pen") (by omega)) ⟨_, 0, _, rfl, by decide, hk, by assumption, ?_⟩
      refine ⟨rfl, ?_⟩
      simp [sgN, sgsT, sgOk, nameV, momV, isB, hz1, hz2]
      first | done | (split <;> omega) | omega
    · walk_at "qq"
      refine iteY (by first | rfl | decide +kernel) ?_
      walk_at "qq"
      refine iteN (by first | rfl | decide +kernel) ?_
      walk_at "qq"
      refine iteN (by first | rfl | decide +kernel) ?_
      walk_at "qq"
      refine iteN (by first | rfl | decide +kernel) ?_
      walk_at "qq"
      refine iteY (by first | rfl | decide +kernel) ?_
      walk_at "qq"
      refine retP_of k (by assumption) (PenAt.more (n := n + 1 + 1 + 1 + 3 + 3) (by walk_at "pen") (by omega)) ⟨_, 1, _, rfl, by decide, hk, by assumption, ?_⟩
      refine ⟨rfl, ?_⟩
      simp [sgN, sgsT, sgOk, nameV, momV, isB, hz1, hz2]
      first | done | (split <;> omega) | omega
    · walk_at "qq"
      refine iteN (by first | rfl | decide +kernel) ?_
      walk_at "qq"
      refine iteN (by first | rfl | decide +kernel) ?_
      walk_at "qq"
      refine iteN (by first | rfl | decide +kernel) ?_
      walk_at "qq"
      refine iteY (by first | rfl | decide +kernel) ?_
      walk_at "qq"
      refine u_draw (by assumption) (by simp) (by walk_at "cells") (by walk_at "pen") (by omega) (by decide) (by decide) fun d7 G7 H7 w7 s7 b7 P7 _ _ => ?_
      walk_at "qq"
      refine retP_of k (by assumption) (PenAt.more (n := n + 1 + 1 + 1 + 3 + 3 + 1) (by walk_at "pen") (by omega)) ⟨_, 2, _, rfl, by decide, hk, by assumption, ?_⟩
      refine ⟨rfl, ?_⟩
      simp [sgN, sgsT, sgOk, nameV, momV, isB, hz1, hz2]
      first | done | (split <;> omega) | omega
    · walk_at "qq"
      refine iteN (by first | rfl | decide +kernel) ?_
      walk_at "qq"
      refine iteN (by first | rfl | decide +kernel) ?_
      walk_at "qq"
      refine iteY (by first | rfl | decide +kernel) ?_
      walk_at "qq"
      refine retP_of k (by assumption) (PenAt.more (n := n + 1 + 1 + 1 + 3 + 3) (by walk_at "pen") (by omega)) ⟨_, 3, _, rfl, by decide, hk, by assumption, ?_⟩
      refine ⟨rfl, ?_⟩
      simp [sgN, sgsT, sgOk, nameV, momV, isB, hz1, hz2]
      first | done | (split <;> omega) | omega
    · walk_at "qq"
      refine iteN (by first | rfl | decide +kernel) ?_
      walk_at "qq"
      refine iteN (by first | rfl | decide +kernel) ?_
      walk_at "qq"
      refine iteN (by first | rfl | decide +kernel) ?_
      walk_at "qq"
      refine iteN (by first | rfl | decide +kernel) ?_
      walk_at "qq"
      refine iteY (by first | rfl | decide +kernel) ?_
      walk_at "qq"
      refine retP_of k (by assumption) (PenAt.more (n := n + 1 + 1 + 1 + 3 + 3) (by walk_at "pen") (by omega)) ⟨_, 4, _, rfl, by decide, hk, by assumption, ?_⟩
      refine ⟨rfl, ?_⟩
      simp [sgN, sgsT, sgOk, nameV, momV, isB, hz1, hz2]
      first | done | (split <;> omega) | omega
    · walk_at "qq"
      refine iteN (by first | rfl | decide +kernel) ?_
      walk_at "qq"
      refine iteN (by first | rfl | decide +kernel) ?_
      walk_at "qq"
      refine iteN (by first | rfl | decide +kernel) ?_
      walk_at "qq"
      refine iteN (by first | rfl | decide +kernel) ?_
      walk_at "qq"
      refine iteY (by first | rfl | decide +kernel) ?_
      walk_at "qq"
      refine retP_of k (by assumption) (PenAt.more (n := n + 1 + 1 + 1 + 3 + 3) (by walk_at "pen") (by omega)) ⟨_, 5, _, rfl, by decide, hk, by assumption, ?_⟩
      refine ⟨rfl, ?_⟩
      simp [sgN, sgsT, sgOk, nameV, momV, isB, hz1, hz2]
      first | done | (split <;> omega) | omega
    · walk_at "qq"
      refine iteN (by first | rfl | decide +kernel) ?_
      walk_at "qq"
      refine iteN (by first | rfl | decide +kernel) ?_
      walk_at "qq"
      refine iteN (by first | rfl | decide +kernel) ?_
      walk_at "qq"
      refine iteN (by first | rfl | decide +kernel) ?_
      walk_at "qq"
      refine iteN (by first | rfl | decide +kernel) ?_
      walk_at "qq"
      refine retP_of k (by assumption) (PenAt.more (n := n + 1 + 1 + 1 + 3 + 3) (by walk_at "pen") (by omega)) ⟨_, 6, _, rfl, by decide, hk, by assumption, ?_⟩
      refine ⟨rfl, ?_⟩
      simp [sgN, sgsT, sgOk, nameV, momV, isB, hz1, hz2]
      first | done | (split <;> omega) | omega
    · walk_at "qq"
      refine iteN (by first | rfl | decide +kernel) ?_
      walk_at "qq"
      refine iteN (by first | rfl | decide +kernel) ?_
      walk_at "qq"
      refine iteN (by first | rfl | decide +kernel) ?_
      walk_at "qq"
      refine iteN (by first | rfl | decide +kernel) ?_
      walk_at "qq"
      refine iteN (by first | rfl | decide +kernel) ?_
      walk_at "qq"
      refine retP_of k (by assumption) (PenAt.more (n := n + 1 + 1 + 1 + 3 + 3) (by walk_at "pen") (by omega)) ⟨_, 7, _, rfl, by decide, hk, by assumption, ?_⟩
      refine ⟨rfl, ?_⟩
      simp [sgN, sgsT, sgOk, nameV, momV, isB, hz1, hz2]
      first | done | (split <;> omega) | omega
    · walk_at "qq"
      refine iteN (by first | rfl | decide +kernel) ?_
      walk_at "qq"
      refine iteN (by first | rfl | decide +kernel) ?_
      walk_at "qq"
      refine iteN (by first | rfl | decide +kernel) ?_
      walk_at "qq"
      refine iteN (by first | rfl | decide +kernel) ?_
      walk_at "qq"
      refine iteN (by first | rfl | decide +kernel) ?_
      walk_at "qq"
      refine retP_of k (by assumption) (PenAt.more (n := n + 1 + 1 + 1 + 3 + 3) (by walk_at "pen") (by omega)) ⟨_, 8, _, rfl, by decide, hk, by assumption, ?_⟩
      refine ⟨rfl, ?_⟩
      simp [sgN, sgsT, sgOk, nameV, momV, isB, hz1, hz2]
      first | done | (split <;> omega) | omega
    · walk_at "qq"
      refine iteN (by first | rfl | decide +kernel) ?_
      walk_at "qq"
      refine iteN (by first | rfl | decide +kernel) ?_
      walk_at "qq"
      refine iteN (by first | rfl | decide +kernel) ?_
      walk_at "qq"
      refine iteN (by first | rfl | decide +kernel) ?_
      walk_at "qq"
      refine iteN (by first | rfl | decide +kernel) ?_
      walk_at "qq"
      refine retP_of k (by assumption) (PenAt.more (n := n + 1 + 1 + 1 + 3 + 3) (by walk_at "pen") (by omega)) ⟨_, 9, _, rfl, by decide, hk, by assumption, ?_⟩
      refine ⟨rfl, ?_⟩
      simp [sgN, sgsT, sgOk, nameV, momV, isB, hz1, hz2]
      first | done | (split <;> omega) | omega

end

/-! ### rows bent -/
section
variable {P : Program} {w : World} {K : PySem.W.Frag} {mg : Str → Option Value} {base : Heap}
abbrev nBent : List Str := ["_law_pen_here", "_law_kind", "_law_row", "_law_words_here", "_law_some", "_law_due", "_law_forms_here", "_law_k", "_law_part", "_law_odds"]
theorem scBent : FnScope nBent ["_law_pen_here", "_law_kind", "_law_row"] (defScope sBent) := ⟨rfl, rfl, rfl, by decide +kernel, rfl, by decide +kernel, by decide +kernel⟩
theorem ok_bent {f : Addr} {fd : FuncData} (F : FnP K "_law_bent" "_law_bent" sBent [] f fd) (T : Bi mg) (Dd : Df P w K mg base CX0 2 "_law_draw" [] spDraw) (Dp : Df P w K mg base CX0 3 "_law_pick" [] (spPick K)) (Do : Df P w K mg base CX0 4 "_law_odd_name" [] (spOddN K)) (Dt : Df P w K mg base CX0 4 "_law_odd_tick" [] (spOddT K))
    (Df : Df P w K mg base CX0 1 "_law_forms" [] spForms) : FnOk P w K mg base CX0 5 f fd ["_law_pen_here", "_law_kind", "_law_row"] (spBent K) := by
  refine fnP_ok F scBent (fun vs H Q E h => ?_) (fun cdv A outer s H vs Q E hr h => ?_)
  · obtain ⟨G, p, c, t, n, i, as, rfl, _⟩ := h
    rfl
  · obtain ⟨G, p, c, t, n, i, as, rfl, hi, sG, gp, hc, hp, hn, ht, ha, k⟩ := h
    have hu64 := hr.units
    have hu : (A.deeper (envOfC "_law_bent" (defScope sBent) s.heap.objs.size f cdv)).units + 1 < cLine := by omega
    have hu1 := hu
    have w0 : Wd ⟨H, G, [p], []⟩ G H [p] := by
      obtain ⟨a, g, h1, _⟩ := id hp
      exact wd_start sG (fun a h => by rw [List.mem_singleton.mp h]; exact ⟨gp, _, h1, rfl⟩) (by simp)
    refine ⟨_, (pss_cons (ps_set (i := 3) scBent.nd rfl (Or.inl rfl) (pe_disp (pps_cons pe_str pe_str (pps_cons pe_str pe_str (pps_cons pe_str pe_str pps_nil))) rfl rfl (by simp) (by decide)))
        (pss_cons (ps_par (i := 4) (j := 5) (by rfl) scBent.nd rfl rfl (by decide) rfl rfl (pa_cons (pe_lstM (pa_cons (pv 1) pa_nil)) (pa_cons pe_non pa_nil)) (by rfl))
        (pss_cons (ps_set (i := 6) scBent.nd rfl (Or.inl rfl) (pe_callD Df hr pass0 (pa_cons (pv 1) pa_nil)))
        (pss_cons (ps_for PassesOwn.never rfl (pi_range1 rfl T.range (pa_cons (pe_callB q_len (by rfl) T.len (by decide +kernel) (pa_cons (pv 6) pa_nil)) pa_nil)) (pg_name (i := 7) scBent.nd rfl (Or.inl rfl)) (pss_cons (ps_set (i := 8) scBent.nd rfl (Or.inl rfl) (pe_ix q_ix (pv 2) (pe_op q_add (pv 7) pe_int) (fun _ _ => rfl)))
        (pss_cons (ps_if (pt_cmpR (q_eq hu64) (pe_callD Dd hr pass0 (pa_cons (pv 0) (pa_cons pe_int pa_nil))) pe_int (nomark _)) (pss_cons (ps_set (i := 9) scBent.nd rfl (Or.inl rfl) (pe_disp (pps_cons pe_str (pe_callD Do hr pass0 (pa_cons (pv 0) pa_nil)) (pps_cons pe_str (pe_callD Dt hr pass0 (pa_cons (pv 0) pa_nil)) pps_nil)) rfl rfl (by simp) (by decide)))
        (pss_cons (ps_set (i := 8) scBent.nd rfl (Or.inl rfl) (pe_dget2 hu1 (pv 9) (pe_ix q_ix (pv 6) (pv 7) (fun _ _ => rfl)) (pe_callD Dp hr pass0 (pa_cons (pv 0) (pa_cons (pe_lst (pa_cons pe_non (pa_cons pe_int (pa_cons pe_int (pa_cons pe_str (pa_cons pe_str (pa_cons (pe_lst pa_nil) (pa_cons (pe_tup (pa_cons pe_bl pa_nil)) (pa_cons pe_str pa_nil))))))))) pa_nil))) ⟨rfl, rfl, rfl, rfl⟩))
        (pss_cons (ps_if (PW.pt (pw_and (pt_cmpR (q_eq hu64) (pe_ix q_ix (pv 6) (pv 7) (fun _ _ => rfl)) pe_str (nomark _)) (pw_and (pt_cmpR op_in_seq (pv 1) (pe_tup (pa_cons pe_str (pa_cons pe_str pa_nil))) (by rfl)) (pw_and1 (pt_cmpR (q_eq hu64) (pe_callD Dd hr pass0 (pa_cons (pv 0) (pa_cons pe_int pa_nil))) pe_int (nomark _)))))) (pss_one (ps_set (i := 8) scBent.nd rfl (Or.inl rfl) pe_int)) pss_nil)
        (pss_one (ps_if (pt_cmpR q_isN (pv 5) pe_non (nomark _)) (pss_one (ps_set (i := 5) scBent.nd rfl (Or.inl rfl) (pe_tup (pa_cons (pe_dget hu (pv 3) (pe_ix q_ix (pv 6) (pv 7) (fun _ _ => rfl)) (fun _ _ => rfl)) (pa_cons (pv 8) pa_nil))))) pss_nil))))) pss_nil)
        (pss_one (ps_expr (pe_bm PySem.F.plainAttrs_list PySem.F.slot_list_append PySem.F.type_list_append mt_append (pv 4) (pa_cons (pv 8) pa_nil)))))))
        (pss_one (ps_ret (pe_tup (pa_cons (pv 4) (pa_cons (pv 5) pa_nil))))))))), ?_⟩
    walk_at "qq"
    refine r_dispC [((Sum.inr "n" : Key), V.str "name"), ((Sum.inr "m" : Key), V.str "moment"), ((Sum.inr "t" : Key), V.str "saying")] rfl w0 (by decide) fun pw G1 H1 w1 s1 t1 hw => ?_
    walk_at "qq"
    rename_i pl H2 n2 w2 h2 s2 d2
    have h0 := w1.n0 n2
    have nep : pl ≠ p := d2 p (by simp)
    refine u_forms w2 hi fun G3 H3 w3 s3 t3 => ?_
    obtain ⟨lf, l4⟩ := form_sign i hi
    have S3 := s1.trans s3
    have hc3 := hc.same S3
    have ht3 := S3 _ _ ht
    have hw3 := s3 _ _ hw
    have P3 := (((hp.same t1).same s2).same t3 : PenAt p c n H3)
    have hl3 := t3 _ _ h2
    walk_at "qq"
    refine for_go walk_range (fun j σ Hx => ∃ (Gi : Hp) (bs : List V) (u : V) (y7 y8 y9 : Option V), σ = [some (.ref p), some (.str (kindN i)), some (.ref t), some (.ref pw), some (.ref pl), some u, some (.str (formN i)), y7, y8, y9] ∧ Wd ⟨H, G, [p], []⟩ Gi Hx [pl, p] ∧ Same G3 Gi ∧ PenAt p c (n + 9 * j) Hx ∧
      Hx pl = some (.lst (.str (kindN i) :: bs)) ∧ bs.length = j ∧ (∀ v ∈ bs, ∃ d, Odd K Gi v d) ∧ DueB Gi (rowBad ((sgN i).take j) bs) u)
      ⟨G3, [], _, _, _, _, rfl, w3, Same.refl _, P3, hl3, rfl, fun v h => (nomatch h), rfl⟩ (fun _ _ _ _ _ => trivial) ?_ ?_
    · rintro j xj σ Ha Hb hj ⟨Gi, bs, u, y7, y8, y9, rfl, wi, si, Pi, hli, hbl, hbo, hdu⟩ ⟨rfl, hxj⟩
      have hj4 : j < (sgN i).length := by
        have h : j < (((formN i).length : Int)).toNat := hj
        omega
      obtain rfl : xj = V.int (j : Int) := by rw [hxj]; simp
      obtain ⟨sg, hsg⟩ : ∃ sg, (sgN i)[j]? = some sg := ⟨_, List.getElem?_eq_getElem hj4⟩
      obtain ⟨v0, hv0⟩ : ∃ v, as[j]? = some v := ⟨_, List.getElem?_eq_getElem (by rw [ha.1]; exact hj4)⟩
      obtain ⟨f1, f2, f3, f4⟩ := form_at i hi j (by omega) sg hsg
      obtain ⟨cc, hcc, hcs⟩ : ∃ cc, (formN i).cps.toList[j]? = some cc ∧ (⟨#[cc]⟩ : Str) = sgSign sg := by
        cases e : (formN i).cps.toList[j]? with
        | none => rw [e] at f1; cases f1
        | some cc => rw [e] at f1; exact ⟨cc, rfl, Option.some.inj f1⟩
      have good : sgOk sg v0 = true := ha.2 (sg, v0) (List.mem_of_getElem? (i := j) (by rw [List.getElem?_zip_eq_some]; exact ⟨hsg, hv0⟩))
      have hti := si _ _ ht3
      have hwi := si _ _ hw3
      have ej : atI (.str (kindN i) :: as) (((j + 1 : Nat) : Int)) = some v0 := atI_nat (by simpa using hv0)
      have ej' : atI (.str (kindN i) :: as) ((j : Int) + 1) = some v0 := ej
      have fj : atI (formN i).cps.toList (j : Int) = some cc := atI_nat hcc
      have bads : ∀ {v : V}, sgOk sg v = false → ∀ {q : Option (Sg × V)}, rowBad ((sgN i).take j) bs = q → rowBad ((sgN i).take (j + 1)) (bs ++ [v]) = some (q.getD (sg, v)) := fun {v} h {q} hq => by
        rw [bad_add hbl hsg, hq]
        cases q with
        | none => simp [h]
        | some q => rfl
      have lbs : (V.str (kindN i) :: bs).length < sizeLine := by
        have : (V.str (kindN i) :: bs).length ≤ 5 := by simp; omega
        exact Nat.lt_of_le_of_lt this (by decide)
      have hci := hc3.same si
      walk_at "qq"
      refine u_draw wi (by simp) hci Pi (by omega) (by decide) (by decide) fun d4 G4 H4 w4 s4 b4 P4 _ _ => ?_
      have hl4 := b4 _ _ nep hli
      walk_at "qq"
      refine ite_d (fun _ => ?_) (fun _ => ?_)
      · walk_at "qq"
        refine r_dispM w4 fun pd H5 w5 s5 h5 h05 d5 => pairs_cons ?_
        have nepd : pd ≠ p := d5 p (by simp)
        have nepl : pd ≠ pl := d5 pl (by simp)
        walk_at "qq"
        refine u_oddN w5 (by simp) (hci.same s4) (P4.same s5) (by omega) fun v1 d1 G6 H6 w6 s6 b6 P6 n1 o1 => pairs_cons ?_
        walk_at "qq"
        refine u_oddT w6 (by simp) ((hci.same s4).same s6) P6 (by omega) fun v2 d2' G7 H7 w7 s7 b7 P7 m20 m21 o2 => pairs_nil ?_
        have hd7 := b7 _ _ nepd (b6 _ _ nepd h5)
        have hl7 := b7 _ _ nep (b6 _ _ nep (s5 _ _ hl4))
        refine r_dispK [(.inr "n", v1), (.inr "m", v2)] w7 h05 hd7 (by show 2 ≤ 15; decide) fun G8 H8 w8 s8 b8 h8 => ?_
        have hl8 := b8 _ _ nepl.symm hl7
        have P8 := P7.but b8 nepd.symm
        walk_at "qq"
        refine ⟨pd, rfl, .inl ⟨_, .inl (w8.le _ _ h8)⟩, ?_⟩
        walk_at "qq"
        rename_i l9 G9 H9 n9 w9 s9 h9 t9 l10 G10 H10 n10 w10 s10 h10 t10 l11 G11 H11 n11 w11 s11 h11 t11
        have S8 := s4.trans (s6.trans (s7.trans s8))
        have S11 := s9.trans (s10.trans s11)
        have T11 := t9.trans (t10.trans t11)
        have hl11 := T11 _ _ hl8
        refine u_pick w11 (by simp) ((hci.same S8).same S11) (P8.same T11) (by omega) (.inl ⟨l11, rfl, .inl (SqL.of h11)⟩) (by simp) (Nat.le_of_ble_eq_true rfl) fun v3 G12 H12 w12 s12 b12 P12 m3 => ?_
        have hl12 := b12 _ _ nep hl11
        have S12 := S8.trans (S11.trans s12)
        have o3 : isB v3 = false ∧ ∃ d, Odd K G12 v3 d := by
          have k1 : G12 l9 = some (.lst []) := s12 _ _ (s11 _ _ (s10 _ _ h9))
          have k2 : G12 l10 = some (.tup [.bl true]) := s12 _ _ (s11 _ _ h10)
          simp only [List.mem_cons, List.not_mem_nil, or_false] at m3
          rcases m3 with rfl | rfl | rfl | rfl | rfl | rfl | rfl | rfl
          · exact ⟨rfl, _, odd_non⟩
          · exact ⟨rfl, _, odd_int (by decide +kernel) (by decide +kernel)⟩
          · exact ⟨rfl, _, odd_int (by decide +kernel) (by decide +kernel)⟩
          · exact ⟨rfl, _, odd_str (by decide +kernel) (by decide)⟩
          · exact ⟨rfl, _, odd_str (by decide +kernel) (by decide)⟩
          · exact ⟨rfl, _, odd_lst k1 .nil (by decide +kernel) (by decide +kernel) (by decide +kernel)⟩
          · exact ⟨rfl, _, odd_tup k2 (.cons (.bl _) .nil) (by decide +kernel) (by decide +kernel) (by decide +kernel)⟩
          · exact ⟨rfl, _, odd_str (by decide +kernel) (by decide)⟩
        obtain ⟨o3a, d3, o3⟩ := o3
        have oo1 := o1.same (s7.trans (s8.trans (S11.trans s12)))
        have oo2 := o2.same (s8.trans (S11.trans s12))
        refine ⟨_, DGet.k (k := .inr (⟨#[cc]⟩ : Str)) (w12.le _ _ (s12 _ _ (S11 _ _ h8))), ?_⟩
        rw [hcs]
        have hw12 := w12.le _ _ (S12 _ _ hwi)
        cases sg with
        | n =>
          show gName 8 v1 _ _ _
          walk_at "qq"
          refine iteN (by rw [hcs]; decide) ?_
          walk_at "qq"
          have badv : sgOk .n v1 = false := n1
          have oddv : ∃ d, Odd K G12 v1 d := ⟨_, oo1⟩
          have oddA : ∀ (G' : Hp), Same G12 G' → ∀ v ∈ bs ++ [v1], ∃ d, Odd K G' v d := fun G' s' v hv => by
            rcases List.mem_append.mp hv with hv | hv
            · exact (hbo v hv).elim fun d o => ⟨d, o.same (S12.trans s')⟩
            · rw [List.mem_singleton.mp hv]
              exact oddv.elim fun d o => ⟨d, o.same s'⟩
          cases hb : rowBad ((sgN i).take j) bs with
          | none =>
            rw [hb] at hdu
            obtain rfl : u = .non := hdu
            refine iteY (by first | rfl | decide) ?_
            walk_at "qq"
            refine ⟨pw, _, rfl, .inl ⟨_, .inr (⟨#[cc]⟩ : Str), .inl hw12, rfl, (by rw [hcs]; rfl)⟩, ?_⟩
            walk_at "qq"
            rename_i l13 G13 H13 n13 w13 s13 h13 t13 H14 w14 h14 b14
            exact ⟨G13, bs ++ [v1], .ref l13, _, _, _, rfl, w14, si.trans (S12.trans s13), ((P12.same t13).but b14 nep.symm).more (by omega), h14, by simp [hbl], oddA _ s13, by rw [bads badv hb]; exact ⟨l13, rfl, h13⟩⟩
          | some q =>
            rw [hb] at hdu
            obtain ⟨sq, vq⟩ := q
            obtain ⟨lq, rfl, hq⟩ := hdu
            refine iteN (by first | rfl | decide | simp) ?_
            walk_at "qq"
            rename_i H14 w14 h14 b14
            exact ⟨G12, bs ++ [v1], .ref lq, _, _, _, rfl, w14, si.trans S12, (P12.but b14 nep.symm).more (by omega), h14, by simp [hbl], oddA _ (Same.refl _), by rw [bads badv hb]; exact ⟨lq, rfl, S12 _ _ hq⟩⟩
        | t =>
          show gName 8 v3 _ _ _
          walk_at "qq"
          refine iteN (by rw [hcs]; decide) ?_
          walk_at "qq"
          have badv : sgOk .t v3 = false := o3a
          have oddv : ∃ d, Odd K G12 v3 d := ⟨_, o3⟩
          have oddA : ∀ (G' : Hp), Same G12 G' → ∀ v ∈ bs ++ [v3], ∃ d, Odd K G' v d := fun G' s' v hv => by
            rcases List.mem_append.mp hv with hv | hv
            · exact (hbo v hv).elim fun d o => ⟨d, o.same (S12.trans s')⟩
            · rw [List.mem_singleton.mp hv]
              exact oddv.elim fun d o => ⟨d, o.same s'⟩
          cases hb : rowBad ((sgN i).take j) bs with
          | none =>
            rw [hb] at hdu
            obtain rfl : u = .non := hdu
            refine iteY (by first | rfl | decide) ?_
            walk_at "qq"
            refine ⟨pw, _, rfl, .inl ⟨_, .inr (⟨#[cc]⟩ : Str), .inl hw12, rfl, (by rw [hcs]; rfl)⟩, ?_⟩
            walk_at "qq"
            rename_i l13 G13 H13 n13 w13 s13 h13 t13 H14 w14 h14 b14
            exact ⟨G13, bs ++ [v3], .ref l13, _, _, _, rfl, w14, si.trans (S12.trans s13), ((P12.same t13).but b14 nep.symm).more (by omega), h14, by simp [hbl], oddA _ s13, by rw [bads badv hb]; exact ⟨l13, rfl, h13⟩⟩
          | some q =>
            rw [hb] at hdu
            obtain ⟨sq, vq⟩ := q
            obtain ⟨lq, rfl, hq⟩ := hdu
            refine iteN (by first | rfl | decide | simp) ?_
            walk_at "qq"
            rename_i H14 w14 h14 b14
            exact ⟨G12, bs ++ [v3], .ref lq, _, _, _, rfl, w14, si.trans S12, (P12.but b14 nep.symm).more (by omega), h14, by simp [hbl], oddA _ (Same.refl _), by rw [bads badv hb]; exact ⟨lq, rfl, S12 _ _ hq⟩⟩
        | m l =>
          show gName 8 v2 _ _ _
          walk_at "qq"
          refine iteY (by rw [hcs]; rfl) ?_
          walk_at "qq"
          rename_i l15 G15 H15 n15 w15 s15 h15 t15
          rw [kind_begun i hi]
          have S15 := S12.trans s15
          have P15 := P12.same t15
          have hl15 := t15 _ _ hl12
          have hw15 := w15.le _ _ (S15 _ _ hwi)
          have f4 : (l == 0 || l == 1) = true := f4
          have l01 : l = 0 ∨ l = 1 := by simpa using f4
          rcases l01 with rfl | rfl
          · have c2 : ¬ i < 2 := f3 rfl
            refine iteN (decide_eq_false c2) ?_
            walk_at "qq"
            have badv : sgOk (.m 0) v2 = false := m20
            have oddv : ∃ d, Odd K G15 v2 d := ⟨_, oo2.same s15⟩
            have oddA : ∀ (G' : Hp), Same G15 G' → ∀ v ∈ bs ++ [v2], ∃ d, Odd K G' v d := fun G' s' v hv => by
              rcases List.mem_append.mp hv with hv | hv
              · exact (hbo v hv).elim fun d o => ⟨d, o.same (S15.trans s')⟩
              · rw [List.mem_singleton.mp hv]
                exact oddv.elim fun d o => ⟨d, o.same s'⟩
            cases hb : rowBad ((sgN i).take j) bs with
            | none =>
              rw [hb] at hdu
              obtain rfl : u = .non := hdu
              refine iteY (by first | rfl | decide) ?_
              walk_at "qq"
              refine ⟨pw, _, rfl, .inl ⟨_, .inr (⟨#[cc]⟩ : Str), .inl hw15, rfl, (by rw [hcs]; rfl)⟩, ?_⟩
              walk_at "qq"
              rename_i l13 G13 H13 n13 w13 s13 h13 t13 H14 w14 h14 b14
              exact ⟨G13, bs ++ [v2], .ref l13, _, _, _, rfl, w14, si.trans (S15.trans s13), ((P15.same t13).but b14 nep.symm).more (by omega), h14, by simp [hbl], oddA _ s13, by rw [bads badv hb]; exact ⟨l13, rfl, h13⟩⟩
            | some q =>
              rw [hb] at hdu
              obtain ⟨sq, vq⟩ := q
              obtain ⟨lq, rfl, hq⟩ := hdu
              refine iteN (by first | rfl | decide | simp) ?_
              walk_at "qq"
              rename_i H14 w14 h14 b14
              exact ⟨G15, bs ++ [v2], .ref lq, _, _, _, rfl, w14, si.trans S15, (P15.but b14 nep.symm).more (by omega), h14, by simp [hbl], oddA _ (Same.refl _), by rw [bads badv hb]; exact ⟨lq, rfl, S15 _ _ hq⟩⟩
          · have c2 : i < 2 := f2 rfl
            refine iteY (decide_eq_true c2) ?_
            walk_at "qq"
            refine u_draw w15 (by simp) (hci.same S15) P15 (by omega) (by decide) (by decide) fun d16 G16 H16 w16 s16 b16 P16 _ _ => ?_
            have S16 := S15.trans s16
            have hl16 := b16 _ _ nep hl15
            have hw16 := w16.le _ _ (S16 _ _ hwi)
            walk_at "qq"
            refine ite_d (fun _ => ?_) (fun _ => ?_)
            · walk_at "qq"
              have badv : sgOk (.m 1) (V.int 0) = false := rfl
              have oddv : ∃ d, Odd K G16 (V.int 0) d := ⟨_, odd_pos (i := 0) (by decide) (by decide)⟩
              have oddA : ∀ (G' : Hp), Same G16 G' → ∀ v ∈ bs ++ [(V.int 0)], ∃ d, Odd K G' v d := fun G' s' v hv => by
                rcases List.mem_append.mp hv with hv | hv
                · exact (hbo v hv).elim fun d o => ⟨d, o.same (S16.trans s')⟩
                · rw [List.mem_singleton.mp hv]
                  exact oddv.elim fun d o => ⟨d, o.same s'⟩
              cases hb : rowBad ((sgN i).take j) bs with
              | none =>
                rw [hb] at hdu
                obtain rfl : u = .non := hdu
                refine iteY (by first | rfl | decide) ?_
                walk_at "qq"
                refine ⟨pw, _, rfl, .inl ⟨_, .inr (⟨#[cc]⟩ : Str), .inl hw16, rfl, (by rw [hcs]; rfl)⟩, ?_⟩
                walk_at "qq"
                rename_i l13 G13 H13 n13 w13 s13 h13 t13 H14 w14 h14 b14
                exact ⟨G13, bs ++ [(V.int 0)], .ref l13, _, _, _, rfl, w14, si.trans (S16.trans s13), ((P16.same t13).but b14 nep.symm).more (by omega), h14, by simp [hbl], oddA _ s13, by rw [bads badv hb]; exact ⟨l13, rfl, h13⟩⟩
              | some q =>
                rw [hb] at hdu
                obtain ⟨sq, vq⟩ := q
                obtain ⟨lq, rfl, hq⟩ := hdu
                refine iteN (by first | rfl | decide | simp) ?_
                walk_at "qq"
                rename_i H14 w14 h14 b14
                exact ⟨G16, bs ++ [(V.int 0)], .ref lq, _, _, _, rfl, w14, si.trans S16, (P16.but b14 nep.symm).more (by omega), h14, by simp [hbl], oddA _ (Same.refl _), by rw [bads badv hb]; exact ⟨lq, rfl, S16 _ _ hq⟩⟩
            · walk_at "qq"
              have badv : sgOk (.m 1) v2 = false := m21
              have oddv : ∃ d, Odd K G16 v2 d := ⟨_, oo2.same (s15.trans s16)⟩
              have oddA : ∀ (G' : Hp), Same G16 G' → ∀ v ∈ bs ++ [v2], ∃ d, Odd K G' v d := fun G' s' v hv => by
                rcases List.mem_append.mp hv with hv | hv
                · exact (hbo v hv).elim fun d o => ⟨d, o.same (S16.trans s')⟩
                · rw [List.mem_singleton.mp hv]
                  exact oddv.elim fun d o => ⟨d, o.same s'⟩
              cases hb : rowBad ((sgN i).take j) bs with
              | none =>
                rw [hb] at hdu
                obtain rfl : u = .non := hdu
                refine iteY (by first | rfl | decide) ?_
                walk_at "qq"
                refine ⟨pw, _, rfl, .inl ⟨_, .inr (⟨#[cc]⟩ : Str), .inl hw16, rfl, (by rw [hcs]; rfl)⟩, ?_⟩
                walk_at "qq"
                rename_i l13 G13 H13 n13 w13 s13 h13 t13 H14 w14 h14 b14
                exact ⟨G13, bs ++ [v2], .ref l13, _, _, _, rfl, w14, si.trans (S16.trans s13), ((P16.same t13).but b14 nep.symm).more (by omega), h14, by simp [hbl], oddA _ s13, by rw [bads badv hb]; exact ⟨l13, rfl, h13⟩⟩
              | some q =>
                rw [hb] at hdu
                obtain ⟨sq, vq⟩ := q
                obtain ⟨lq, rfl, hq⟩ := hdu
                refine iteN (by first | rfl | decide | simp) ?_
                walk_at "qq"
                rename_i H14 w14 h14 b14
                exact ⟨G16, bs ++ [v2], .ref lq, _, _, _, rfl, w14, si.trans S16, (P16.but b14 nep.symm).more (by omega), h14, by simp [hbl], oddA _ (Same.refl _), by rw [bads badv hb]; exact ⟨lq, rfl, S16 _ _ hq⟩⟩
      · walk_at "qq"
        rename_i H5 w5 h5 b5
        refine ⟨G4, bs ++ [v0], u, _, _, _, rfl, w5, si.trans s4, (P4.but b5 nep.symm).more (by omega), h5, by simp [hbl], fun v hv => ?_, ?_⟩
        · rcases List.mem_append.mp hv with hv | hv
          · exact (hbo v hv).elim fun d o => ⟨d, o.same s4⟩
          · rw [List.mem_singleton.mp hv]
            exact (sg_odd f4 good).elim fun d o => ⟨d, o⟩
        · have e := bad_add (v := v0) hbl hsg
          rw [good] at e
          rw [e]
          cases hb : rowBad ((sgN i).take j) bs with
          | none =>
            rw [hb] at hdu
            exact hdu
          | some q =>
            rw [hb] at hdu
            exact hdu.same s4
    · rintro σ Ha ⟨Gi, bs, u, y7, y8, y9, rfl, wi, si, Pi, hli, hbl, hbo, hdu⟩
      have eN : (((formN i).length : Int)).toNat = (sgN i).length := by omega
      rw [eN] at hbl hdu Pi
      rw [List.take_length] at hdu
      obtain ⟨w5, s5⟩ := wd_freeze wi hli h0
      walk_at "qq"
      rename_i l6 G6 H6 n6 w6 s6 h6 t6
      refine retP_of k w6 ((Pi.same t6).more (by omega)) ⟨l6, pl, bs, u, rfl, h6, s6 _ _ upd_same, hbl, fun v hv => (hbo v hv).elim fun d o => ⟨d, o.same (s5.trans s6)⟩, hdu.same (s5.trans s6)⟩
end

/-! ### the row that a sequence tells is made -/
section
variable {P : Program} {w : World} {K : PySem.W.Frag} {mg : Str → Option Value} {base : Heap} {CL : Nat → Addr} {Cn Cm Cs : Addr}
abbrev nMade : List Str := ["_law_row", "_law_kind"]
theorem scMade : FnScope nMade ["_law_row"] (defScope sMade) := ⟨rfl, rfl, rfl, by decide +kernel, rfl, by decide +kernel, by decide +kernel⟩
theorem ok_made {f : Addr} {fd : FuncData} (F : FnP K "_law_made" "_law_made" sMade [] f fd) (T : Bi mg) (MBegun : MkD P w K mg base (L2.CX P w) 4 "Begun" (CL 0) [] (spRowI K (CL 0) Cn Cm Cs "begun" [] (sgN 0) (flN 0))) (MSetBy : MkD P w K mg base (L2.CX P w) 4 "SetBy" (CL 1) [] (spRowI K (CL 1) Cn Cm Cs "setby" [] (sgN 1) (flN 1))) (MFound : MkD P w K mg base (L2.CX P w) 4 "Found" (CL 2) [] (spRowI K (CL 2) Cn Cm Cs "found" [] (sgN 2) (flN 2))) (MTrusted : MkD P w K mg base (L2.CX P w) 4 "Trusted" (CL 3) [] (spRowI K (CL 3) Cn Cm Cs "trusted" [] (sgN 3) (flN 3))) (MPassed : MkD P w K mg base (L2.CX P w) 4 "Passed" (CL 4) [] (spRowI K (CL 4) Cn Cm Cs "passed" [] (sgN 4) (flN 4))) (MFailed : MkD P w K mg base (L2.CX P w) 4 "Failed" (CL 5) [] (spRowI K (CL 5) Cn Cm Cs "failed" [] (sgN 5) (flN 5))) (MAgreed : MkD P w K mg base (L2.CX P w) 5 "Agreed" (CL 6) [] (spRowI K (CL 6) Cn Cm Cs "agreed" [] (sgN 6) (flN 6))) (MDiffered : MkD P w K mg base (L2.CX P w) 5 "Differed" (CL 7) [] (spRowI K (CL 7) Cn Cm Cs "differed" [] (sgN 7) (flN 7))) (MServed : MkD P w K mg base (L2.CX P w) 5 "Served" (CL 8) [] (spRowI K (CL 8) Cn Cm Cs "served" [] (sgN 8) (flN 8))) (MBacked : MkD P w K mg base (L2.CX P w) 5 "Backed" (CL 9) [] (spRowI K (CL 9) Cn Cm Cs "backed" [] (sgN 9) (flN 9))) : FnOk P w K mg base (L2.CX P w) 7 f fd ["_law_row"] (spMade K CL Cn Cm Cs) := by
  refine fnP_okX F scMade (fun vs H Q E h => ?_) (fun cdv A outer s H vs Q E hr h => ?_)
  · obtain ⟨G, r, i, as, rfl, _⟩ := h
    rfl
  · obtain ⟨G, r, i, as, rfl, hi, sG, hs, hl, kd, sz, bad, good⟩ := h
    have hu64 := hr.units
    refine ⟨_, (pss_cons (ps_set (i := 1) scMade.nd rfl (Or.inl rfl) (pe_ix q_ix (pv 0) pe_int (fun _ _ => rfl)))
        (pss_cons (ps_if (pt_cmpR (q_eq hu64) (pv 1) pe_str (nomark _)) (pss_one (ps_ret (pe_makeD MBegun hr passD (pa_cons (pe_ix q_ix (pv 0) pe_int (fun _ _ => rfl)) (pa_cons (pe_ix q_ix (pv 0) pe_int (fun _ _ => rfl)) pa_nil))))) pss_nil)
        (pss_cons (ps_if (pt_cmpR (q_eq hu64) (pv 1) pe_str (nomark _)) (pss_one (ps_ret (pe_makeD MSetBy hr passD (pa_cons (pe_ix q_ix (pv 0) pe_int (fun _ _ => rfl)) (pa_cons (pe_ix q_ix (pv 0) pe_int (fun _ _ => rfl)) (pa_cons (pe_ix q_ix (pv 0) pe_int (fun _ _ => rfl)) pa_nil)))))) pss_nil)
        (pss_cons (ps_if (pt_cmpR (q_eq hu64) (pv 1) pe_str (nomark _)) (pss_one (ps_ret (pe_makeD MFound hr passD (pa_cons (pe_ix q_ix (pv 0) pe_int (fun _ _ => rfl)) (pa_cons (pe_ix q_ix (pv 0) pe_int (fun _ _ => rfl)) (pa_cons (pe_ix q_ix (pv 0) pe_int (fun _ _ => rfl)) pa_nil)))))) pss_nil)
        (pss_cons (ps_if (pt_cmpR (q_eq hu64) (pv 1) pe_str (nomark _)) (pss_one (ps_ret (pe_makeD MTrusted hr passD (pa_cons (pe_ix q_ix (pv 0) pe_int (fun _ _ => rfl)) pa_nil)))) pss_nil)
        (pss_cons (ps_if (pt_cmpR (q_eq hu64) (pv 1) pe_str (nomark _)) (pss_one (ps_ret (pe_makeD MPassed hr passD (pa_cons (pe_ix q_ix (pv 0) pe_int (fun _ _ => rfl)) (pa_cons (pe_ix q_ix (pv 0) pe_int (fun _ _ => rfl)) (pa_cons (pe_ix q_ix (pv 0) pe_int (fun _ _ => rfl)) pa_nil)))))) pss_nil)
        (pss_cons (ps_if (pt_cmpR (q_eq hu64) (pv 1) pe_str (nomark _)) (pss_one (ps_ret (pe_makeD MFailed hr passD (pa_cons (pe_ix q_ix (pv 0) pe_int (fun _ _ => rfl)) (pa_cons (pe_ix q_ix (pv 0) pe_int (fun _ _ => rfl)) (pa_cons (pe_ix q_ix (pv 0) pe_int (fun _ _ => rfl)) pa_nil)))))) pss_nil)
        (pss_cons (ps_if (pt_cmpR (q_eq hu64) (pv 1) pe_str (nomark _)) (pss_one (ps_ret (pe_makeD MAgreed hr passD (pa_cons (pe_ix q_ix (pv 0) pe_int (fun _ _ => rfl)) (pa_cons (pe_ix q_ix (pv 0) pe_int (fun _ _ => rfl)) (pa_cons (pe_ix q_ix (pv 0) pe_int (fun _ _ => rfl)) (pa_cons (pe_ix q_ix (pv 0) pe_int (fun _ _ => rfl)) pa_nil))))))) pss_nil)
        (pss_cons (ps_if (pt_cmpR (q_eq hu64) (pv 1) pe_str (nomark _)) (pss_one (ps_ret (pe_makeD MDiffered hr passD (pa_cons (pe_ix q_ix (pv 0) pe_int (fun _ _ => rfl)) (pa_cons (pe_ix q_ix (pv 0) pe_int (fun _ _ => rfl)) (pa_cons (pe_ix q_ix (pv 0) pe_int (fun _ _ => rfl)) (pa_cons (pe_ix q_ix (pv 0) pe_int (fun _ _ => rfl)) pa_nil))))))) pss_nil)
        (pss_cons (ps_if (pt_cmpR (q_eq hu64) (pv 1) pe_str (nomark _)) (pss_one (ps_ret (pe_makeD MServed hr passD (pa_cons (pe_ix q_ix (pv 0) pe_int (fun _ _ => rfl)) (pa_cons (pe_ix q_ix (pv 0) pe_int (fun _ _ => rfl)) (pa_cons (pe_ix q_ix (pv 0) pe_int (fun _ _ => rfl)) (pa_cons (pe_ix q_ix (pv 0) pe_int (fun _ _ => rfl)) pa_nil))))))) pss_nil)
        (pss_one (ps_ret (pe_makeD MBacked hr passD (pa_cons (pe_ix q_ix (pv 0) pe_int (fun _ _ => rfl)) (pa_cons (pe_ix q_ix (pv 0) pe_int (fun _ _ => rfl)) (pa_cons (pe_ix q_ix (pv 0) pe_int (fun _ _ => rfl)) (pa_cons (pe_ix q_ix (pv 0) pe_int (fun _ _ => rfl)) pa_nil))))))))))))))))), ?_⟩
    have w0 := wd_pure sG
    replace hs := hs.of w0
    have fin : ∀ i, i < 10 → ∀ as : List V, as.length = (sgN i).length → (∀ v ∈ as, ∃ t, Kd K G v t) → (∀ s, V.str s ∈ as → s.length ≤ 1000000) → (∀ s v, rowBad (sgN i) as = some (s, v) → RetX G H (sgErr Cn Cm Cs s).1 (sgErr Cn Cm Cs s).2 v E) →
        (rowBad (sgN i) as = none → Ret G H (fun v G' => ∃ a, v = .ref a ∧ RowAt (CL i) G' a (kindN i) (sgN i) (flN i) as) Q) → MakeGo (CL i) (spRowI K (CL i) Cn Cm Cs (kindN i) [] (sgN i) (flN i)) as E H Q := fun i hi as hl kd sz bad good =>
      u_rowI w0 hl kd sz (fun cls f v hf d G' H' w' s' t' hd => by
        rw [fault_bad] at hf
        cases hb : rowBad (sgN i) as with
        | none => rw [hb] at hf; cases hf
        | some q =>
          rw [hb] at hf
          cases hf
          exact retX_of (bad q.1 q.2 hb) w' hd) fun hf a G' H' w' s' t' ha => by
        rw [fault_bad] at hf
        cases hb : rowBad (sgN i) as with
        | none => exact ret_of (good hb) w' ⟨a, rfl, ha⟩
        | some q => rw [hb] at hf; cases hf
    rcases (by omega : i = 0 ∨ i = 1 ∨ i = 2 ∨ i = 3 ∨ i = 4 ∨ i = 5 ∨ i = 6 ∨ i = 7 ∨ i = 8 ∨ i = 9) with rfl | rfl | rfl | rfl | rfl | rfl | rfl | rfl | rfl | rfl
    · obtain ⟨v1, v2, rfl⟩ := len_2 hl
      walk_at "qq"
      refine iteY (by first | rfl | decide +kernel) ?_
      walk_at "qq"
      exact fin 0 (by decide) [v1, v2] rfl kd sz bad good
    · obtain ⟨v1, v2, v3, rfl⟩ := len_3 hl
      walk_at "qq"
      refine iteN (by first | rfl | decide +kernel) ?_
      walk_at "qq"
      refine iteY (by first | rfl | decide +kernel) ?_
      walk_at "qq"
      exact fin 1 (by decide) [v1, v2, v3] rfl kd sz bad good
    · obtain ⟨v1, v2, v3, rfl⟩ := len_3 hl
      walk_at "qq"
      refine iteN (by first | rfl | decide +kernel) ?_
      walk_at "qq"
      refine iteN (by first | rfl | decide +kernel) ?_
      walk_at "qq"
      refine iteY (by first | rfl | decide +kernel) ?_
      walk_at "qq"
      exact fin 2 (by decide) [v1, v2, v3] rfl kd sz bad good
    · obtain ⟨v1, rfl⟩ := len_1 hl
      walk_at "qq"
      refine iteN (by first | rfl | decide +kernel) ?_
      walk_at "qq"
      refine iteN (by first | rfl | decide +kernel) ?_
      walk_at "qq"
      refine iteN (by first | rfl | decide +kernel) ?_
      walk_at "qq"
      refine iteY (by first | rfl | decide +kernel) ?_
      walk_at "qq"
      exact fin 3 (by decide) [v1] rfl kd sz bad good
    · obtain ⟨v1, v2, v3, rfl⟩ := len_3 hl
      walk_at "qq"
      refine iteN (by first | rfl | decide +kernel) ?_
      walk_at "qq"
      refine iteN (by first | rfl | decide +kernel) ?_
      walk_at "qq"
      refine iteN (by first | rfl | decide +kernel) ?_
      walk_at "qq"
      refine iteN (by first | rfl | decide +kernel) ?_
      walk_at "qq"
      refine iteY (by first | rfl | decide +kernel) ?_
      walk_at "qq"
      exact fin 4 (by decide) [v1, v2, v3] rfl kd sz bad good
    · obtain ⟨v1, v2, v3, rfl⟩ := len_3 hl
      walk_at "qq"
      refine iteN (by first | rfl | decide +kernel) ?_
      walk_at "qq"
      refine iteN (by first | rfl | decide +kernel) ?_
      walk_at "qq"
      refine iteN (by first | rfl | decide +kernel) ?_
      walk_at "qq"
      refine iteN (by first | rfl | decide +kernel) ?_
      walk_at "qq"
      refine iteN (by first | rfl | decide +kernel) ?_
      walk_at "qq"
      refine iteY (by first | rfl | decide +kernel) ?_
      walk_at "qq"
      exact fin 5 (by decide) [v1, v2, v3] rfl kd sz bad good
    · obtain ⟨v1, v2, v3, v4, rfl⟩ := len_4 hl
      walk_at "qq"
      refine iteN (by first | rfl | decide +kernel) ?_
      walk_at "qq"
      refine iteN (by first | rfl | decide +kernel) ?_
      walk_at "qq"
      refine iteN (by first | rfl | decide +kernel) ?_
      walk_at "qq"
      refine iteN (by first | rfl | decide +kernel) ?_
      walk_at "qq"
      refine iteN (by first | rfl | decide +kernel) ?_
      walk_at "qq"
      refine iteN (by first | rfl | decide +kernel) ?_
      walk_at "qq"
      refine iteY (by first | rfl | decide +kernel) ?_
      walk_at "qq"
      exact fin 6 (by decide) [v1, v2, v3, v4] rfl kd sz bad good
    · obtain ⟨v1, v2, v3, v4, rfl⟩ := len_4 hl
      walk_at "qq"
      refine iteN (by first | rfl | decide +kernel) ?_
      walk_at "qq"
      refine iteN (by first | rfl | decide +kernel) ?_
      walk_at "qq"
      refine iteN (by first | rfl | decide +kernel) ?_
      walk_at "qq"
      refine iteN (by first | rfl | decide +kernel) ?_
      walk_at "qq"
      refine iteN (by first | rfl | decide +kernel) ?_
      walk_at "qq"
      refine iteN (by first | rfl | decide +kernel) ?_
      walk_at "qq"
      refine iteN (by first | rfl | decide +kernel) ?_
      walk_at "qq"
      refine iteY (by first | rfl | decide +kernel) ?_
      walk_at "qq"
      exact fin 7 (by decide) [v1, v2, v3, v4] rfl kd sz bad good
    · obtain ⟨v1, v2, v3, v4, rfl⟩ := len_4 hl
      walk_at "qq"
      refine iteN (by first | rfl | decide +kernel) ?_
      walk_at "qq"
      refine iteN (by first | rfl | decide +kernel) ?_
      walk_at "qq"
      refine iteN (by first | rfl | decide +kernel) ?_
      walk_at "qq"
      refine iteN (by first | rfl | decide +kernel) ?_
      walk_at "qq"
      refine iteN (by first | rfl | decide +kernel) ?_
      walk_at "qq"
      refine iteN (by first | rfl | decide +kernel) ?_
      walk_at "qq"
      refine iteN (by first | rfl | decide +kernel) ?_
      walk_at "qq"
      refine iteN (by first | rfl | decide +kernel) ?_
      walk_at "qq"
      refine iteY (by first | rfl | decide +kernel) ?_
      walk_at "qq"
      exact fin 8 (by decide) [v1, v2, v3, v4] rfl kd sz bad good
    · obtain ⟨v1, v2, v3, v4, rfl⟩ := len_4 hl
      walk_at "qq"
      refine iteN (by first | rfl | decide +kernel) ?_
      walk_at "qq"
      refine iteN (by first | rfl | decide +kernel) ?_
      walk_at "qq"
      refine iteN (by first | rfl | decide +kernel) ?_
      walk_at "qq"
      refine iteN (by first | rfl | decide +kernel) ?_
      walk_at "qq"
      refine iteN (by first | rfl | decide +kernel) ?_
      walk_at "qq"
      refine iteN (by first | rfl | decide +kernel) ?_
      walk_at "qq"
      refine iteN (by first | rfl | decide +kernel) ?_
      walk_at "qq"
      refine iteN (by first | rfl | decide +kernel) ?_
      walk_at "qq"
      refine iteN (by first | rfl | decide +kernel) ?_
      walk_at "qq"
      exact fin 9 (by decide) [v1, v2, v3, v4] rfl kd sz bad good

end

/-! ### _law_heard of rows: told, or the error's sign and what it keeps -/
section
abbrev nHeard : List Str := ["_law_ask", "_law_caught", "error", "_law_heard_here"]
theorem scHeard : FnScope nHeard ["_law_ask"] (defScope sHeard) := ⟨rfl, rfl, rfl, by decide +kernel, rfl, by decide +kernel, by decide +kernel⟩
abbrev kdR (Cn Cm Cs : Addr) : List (Addr × Str × Str) := [(Cn, "name", "name"), (Cm, "moment", "moment"), (Cs, "saying", "value")]
theorem heard_givesR {X : Cx} {g Cb Cn Cm Cs : Addr} {cdg : Value} {q : Str} (T : Bi X.mg) (hTill : X.mg "TillError" = some (.ref Cb)) (hBadName : Gc X.mg "BadName" (.ref Cn)) (hBadMoment : Gc X.mg "BadMoment" (.ref Cm)) (hBadSaying : Gc X.mg "BadSaying" (.ref Cs))
    (M0 : HdC X.K Cn "name") (M1 : HdC X.K Cm "moment") (M2 : HdC X.K Cs "value") (ex : ∀ C ∈ [Cn, Cm, Cs], PySem.W.exmOne X.K (.ref C) (.ref Cb) = some true)
    (f00 : PySem.W.kitOne X.K (.ref Cn) (.ref Cn) = some true) (f01 : PySem.W.kitOne X.K (.ref Cn) (.ref Cm) = some false) (f02 : PySem.W.kitOne X.K (.ref Cn) (.ref Cs) = some false) (f10 : PySem.W.kitOne X.K (.ref Cm) (.ref Cn) = some false) (f11 : PySem.W.kitOne X.K (.ref Cm) (.ref Cm) = some true) (f12 : PySem.W.kitOne X.K (.ref Cm) (.ref Cs) = some false) (f20 : PySem.W.kitOne X.K (.ref Cs) (.ref Cn) = some false) (f21 : PySem.W.kitOne X.K (.ref Cs) (.ref Cm) = some false) (f22 : PySem.W.kitOne X.K (.ref Cs) (.ref Cs) = some true) :
    LamX.GivesTo X nHeard "_law_heard" (defScope sHeard) g cdg (defBody sHeard) "_law_ask" q (TTold (kdR Cn Cm Cs)) := by
  intro f c' s H Q tl act hc h
  refine ⟨_, (pss_cons (ps_set (i := 1) scHeard.nd rfl (Or.inl rfl) pe_non)
        (pss_cons (ps_askR (i := 2) act (fun _ => pe_str) scHeard.nd rfl rfl rfl rfl hTill fun b oe cls d pn _ _ => pss_one (ps_set (i := 1) scHeard.nd rfl (Or.inl rfl) (pv 2)))
        (pss_cons (ps_set (i := 3) scHeard.nd rfl (Or.inl rfl) (pe_lstM pa_nil))
        (pss_cons (ps_if (pt_val (pe_callB q_isi (by rfl) T.isinstance (by decide +kernel) (pa_cons (pv 1) (pa_cons (pe_gc hBadName) pa_nil)))) (pss_one (ps_expr (pe_bm PySem.F.plainAttrs_list PySem.F.slot_list_append PySem.F.type_list_append mt_append (pv 3) (pa_cons (pe_tup (pa_cons pe_str (pa_cons (pe_xv (pv 1)) pa_nil))) pa_nil)))) pss_nil)
        (pss_cons (ps_if (pt_val (pe_callB q_isi (by rfl) T.isinstance (by decide +kernel) (pa_cons (pv 1) (pa_cons (pe_gc hBadMoment) pa_nil)))) (pss_one (ps_expr (pe_bm PySem.F.plainAttrs_list PySem.F.slot_list_append PySem.F.type_list_append mt_append (pv 3) (pa_cons (pe_tup (pa_cons pe_str (pa_cons (pe_xv (pv 1)) pa_nil))) pa_nil)))) pss_nil)
        (pss_cons (ps_if (pt_val (pe_callB q_isi (by rfl) T.isinstance (by decide +kernel) (pa_cons (pv 1) (pa_cons (pe_gc hBadSaying) pa_nil)))) (pss_one (ps_expr (pe_bm PySem.F.plainAttrs_list PySem.F.slot_list_append PySem.F.type_list_append mt_append (pv 3) (pa_cons (pe_tup (pa_cons pe_str (pa_cons (pe_xv (pv 1)) pa_nil))) pa_nil)))) pss_nil)
        (pss_one (ps_ret (pe_ifExp (PW.pt (pw_and (pt_cmpR op_eq (pe_callB q_len (by rfl) T.len (by decide +kernel) (pa_cons (pv 3) pa_nil)) pe_int (nomark _)) (pw_and1 (pt_val (pe_callB q_isi (by rfl) T.isinstance (by decide +kernel) (pa_cons (pv 1) (pa_cons (pe_bltn (v := .ty "ValueError") (by rfl) T.ValueError (by decide +kernel) rfl) pa_nil))))))) (pe_ix q_ix (pv 3) pe_int (fun _ _ => rfl)) pe_str))))))))), ?_⟩
  walk_at "qq"
  refine ⟨HearX _ Q, fun cls d σ' H' told => ?_, rfl, hc, h _ _ (fun _ _ _ z => z) fun v H1 told => ?_⟩
  · obtain ⟨e, G, M0', C, sg, fl, v, dd, w, rfl, rfl, hdd, hk, k⟩ := told
    refine ⟨?_, fun a ha hl => ?_⟩
    · simp only [List.mem_cons, List.not_mem_nil, or_false, Prod.mk.injEq] at hk
      rcases hk with ⟨rfl, _⟩ | ⟨rfl, _⟩ | ⟨rfl, _⟩ <;> exact ex _ (by simp)
    · match σ', hl with
      | [x0, x1, x2, x3], _ =>
        have w1 := wd_lay (o := ExK (.ref C) (some dd) a) w ha exK_nt
        have s1 : Same G (upd G a (ExK (.ref C) (some dd) a)) := same_upd (w.g ha)
        have t1 : Same H' (upd H' a (ExK (.ref C) (some dd) a)) := same_upd ha
        have g1 : upd G a (ExK (.ref C) (some dd) a) a = some (ExK (.ref C) (some dd) a) := upd_same
        have gd := s1 _ _ hdd
        generalize upd G a (ExK (.ref C) (some dd) a) = G1 at *
        generalize hH1 : upd H' a (ExK (.ref C) (some dd) a) = H1 at *
        walk_at "qq"
        rw [hH1]
        walk_at "qq"
        simp only [List.mem_cons, List.not_mem_nil, or_false, Prod.mk.injEq] at hk
        rcases hk with ⟨rfl, rfl, rfl⟩ | ⟨rfl, rfl, rfl⟩ | ⟨rfl, rfl, rfl⟩
        · have M := M0
          refine r_isuK (by walk_at "at") (by walk_at "at") M.e f00 ?_
          walk_at "qq"
          refine r_fldX (by walk_at "at") (by walk_at "at") M.x M.n rfl ?_
          walk_at "qq"
          refine r_isuK (by walk_at "at") (by walk_at "at") M.e f01 ?_
          walk_at "qq"
          refine r_isuK (by walk_at "at") (by walk_at "at") M.e f02 ?_
          walk_at "qq"
          refine ite_d (fun _ => ?_) fun z => absurd rfl z
          walk_at "qq"
          refine r_isuT (by walk_at "at") (by walk_at "at") M.e M.v ?_
          walk_at "qq"
          exact k _ _ _ (wd_drop (by assumption) (List.sublist_cons_self _ _)) (by walk_at "sg") (by refine' same_new ?s ?n ?t ?b; (case b => assumption); (case n => assumption); (case s => exact t1); (case t => walk_at "sg")) (by walk_at "atg")
        · have M := M1
          refine r_isuK (by walk_at "at") (by walk_at "at") M.e f10 ?_
          walk_at "qq"
          refine r_isuK (by walk_at "at") (by walk_at "at") M.e f11 ?_
          walk_at "qq"
          refine r_fldX (by walk_at "at") (by walk_at "at") M.x M.n rfl ?_
          walk_at "qq"
          refine r_isuK (by walk_at "at") (by walk_at "at") M.e f12 ?_
          walk_at "qq"
          refine ite_d (fun _ => ?_) fun z => absurd rfl z
          walk_at "qq"
          refine r_isuT (by walk_at "at") (by walk_at "at") M.e M.v ?_
          walk_at "qq"
          exact k _ _ _ (wd_drop (by assumption) (List.sublist_cons_self _ _)) (by walk_at "sg") (by refine' same_new ?s ?n ?t ?b; (case b => assumption); (case n => assumption); (case s => exact t1); (case t => walk_at "sg")) (by walk_at "atg")
        · have M := M2
          refine r_isuK (by walk_at "at") (by walk_at "at") M.e f20 ?_
          walk_at "qq"
          refine r_isuK (by walk_at "at") (by walk_at "at") M.e f21 ?_
          walk_at "qq"
          refine r_isuK (by walk_at "at") (by walk_at "at") M.e f22 ?_
          walk_at "qq"
          refine r_fldX (by walk_at "at") (by walk_at "at") M.x M.n rfl ?_
          walk_at "qq"
          refine ite_d (fun _ => ?_) fun z => absurd rfl z
          walk_at "qq"
          refine r_isuT (by walk_at "at") (by walk_at "at") M.e M.v ?_
          walk_at "qq"
          exact k _ _ _ (wd_drop (by assumption) (List.sublist_cons_self _ _)) (by walk_at "sg") (by refine' same_new ?s ?n ?t ?b; (case b => assumption); (case n => assumption); (case s => exact t1); (case t => walk_at "sg")) (by walk_at "atg")

  · obtain ⟨e, G, M0', w, k⟩ := told
    exact r_lay w (sz_m (by decide)) (by intro ps z; cases z) fun l G' H' n' w' s' h' t' => k l G' H' w' s' t' h'
end

/-! ### the law -/
section
variable {P : Program} {w : World} {K : PySem.W.Frag} {mg : Str → Option Value} {base : Heap} {CL : Nat → Addr} {Cn Cm Cs : Addr}
theorem kinds_mem : ∀ {v : V}, v ∈ kindsS.map V.str ++ kindsS.map V.str → ∃ i, i < 10 ∧ v = .str (kindN i) := by
  intro v hv
  have hv : v ∈ kindsS.map V.str := by simpa using hv
  obtain ⟨z, hz, rfl⟩ := List.mem_map.mp hv
  have key : ∀ z ∈ kindsS, ∃ i, i < 10 ∧ z = kindN i := by decide +kernel
  obtain ⟨i, hi, rfl⟩ := key z hz
  exact ⟨i, hi, rfl⟩
theorem bad_mem : ∀ {sg : List Sg} {as : List V} {s : Sg} {v : V}, rowBad sg as = some (s, v) → v ∈ as
  | [], _, _, _, h => by cases h
  | _ :: _, [], _, _, h => by cases h
  | x :: sg, a :: as, s, v, h => by
    by_cases c : sgOk x a = true
    · simp only [rowBad, c, if_true] at h
      exact List.mem_cons_of_mem _ (bad_mem h)
    · simp only [rowBad, c] at h
      cases h
      exact List.mem_cons_self
theorem kind_inj : ∀ i, i < 10 → ∀ j, j < 10 → kindN i = kindN j → i = j := by decide +kernel
theorem kind_show : ∀ i, i < 10 → (PyData.str (kindN i)).shown.length ≤ 1000 ∧ (kindN i).length ≤ 1000 := by decide +kernel
abbrev nLaw : List Str := ["_law_script", "_law_pen_here", "_law_crew", "_law_kind", "_law_due", "_law_heard_here", "_law_some"]
theorem scLaw : FnScope nLaw ["_law_script"] (defScope sLaw) := ⟨rfl, rfl, rfl, by decide +kernel, rfl, by decide +kernel, by decide +kernel⟩
abbrev qLam (n : Nat) (f c : Addr) : Str := (envOfC "law" (defScope sLaw) n f (.ref c)).qual ++ ("<lambda>" : Str)
def spLaw (K : PySem.W.Frag) (cs : List (Addr × Addr)) : Sp := fun vs H Q _ => ∃ (a : Addr) (ns : List Int), vs = [.ref a] ∧ SqL K H a (ns.map V.int) ∧ ns.length ≤ 63 ∧ OnlyT cs H ∧ (∀ p ∈ cs, H p.2 = some (.tbl #[])) ∧ ∀ H', Q (.bl true) H'
theorem ok_law {f fh pT : Addr} {fd fdh : FuncData} (F : FnP K "law" "law" sLaw [] f fd) (T : Bi mg) (SM : SmK K) (RK : ∀ i, i < 10 → Cls K (CL i) ∧ NoAttr K (CL i) "kind")
    (De : Df P w K mg base CX0 1 "_law_pen" [] (spPen K)) (Dn : Df P w K mg base CX0 4 "_law_name" [] spName) (Dk : Df P w K mg base CX0 1 "_law_kinds" [] spKinds) (Dw : Df P w K mg base CX0 5 "_law_drawn" [] spDrawn) (Db : Df P w K mg base CX0 5 "_law_bent" [] (spBent K))
    (Dmk : Df P w K mg base (L2.CX P w) 7 "_law_made" [] (spMade K CL Cn Cm Cs))
    (Fh : FnP K "_law_heard" "_law_heard" sHeard [] fh fdh) (hmH : mg "_law_heard" = some (.ref fh)) (hbH : Binds K fdh ["_law_ask"] [])
    (HG : ∀ (X : Cx) (cdg : Value) (q : Str), X.K = K → X.mg = mg → LamX.GivesTo X nHeard "_law_heard" (defScope sHeard) fh cdg (defBody sHeard) "_law_ask" q (TTold (kdR Cn Cm Cs)))
    (TB : LamX.TabB base mg (codeA K f) pT) : FnA P w K mg base CX0 12 f fd ["_law_script"] (spLaw K [(codeA K f, pT)]) := by
  obtain ⟨oc, od, dV, kV, doc, pm, an, cdvH, ct, osl, rfl, lkH, hcdH, _, _⟩ := id Fh.ex
  have kpH := Fh.kp
  refine fnP_okAT F scLaw (fun vs H Q E h => ?_) (fun A outer s H vs Q E g0 hr h => ?_)
  · obtain ⟨a, ns, rfl, _⟩ := h
    rfl
  · obtain ⟨a, ns, rfl, ha, hl, only, htb, k⟩ := h
    have hu64 := hr.units
    have passL : ∀ {A2 : Around} {outer2 : List Env} {s2 : Shared} {H2 : Hp} {E2 : XK} {sc2 : Scope} {f2 c2 : Addr}, Passes (L2.CX P w) (LamX.lamCx (cxOf CX0 P w K mg base nLaw "law" (defScope sLaw) f (.ref (codeA K f)) A outer s H E).nox A2 outer2 s2 H2 E2 sc2 f2 c2) E2 :=
      fun {A2 outer2 s2 H2 E2 sc2 f2 c2} => passes_call (W := fun cls d _ H' => E2 cls d H') (takes_of rfl rfl rfl rfl) fun _ _ _ _ h => h
    refine ⟨_, (pss_cons (ps_set (i := 1) scLaw.nd rfl (Or.inl rfl) (pe_callD De hr pass0 (pa_cons (pv 0) pa_nil)))
        (pss_cons (ps_set (i := 2) scLaw.nd rfl (Or.inl rfl) (pe_lst (pa_cons (pe_callD Dn hr pass0 (pa_cons (pv 1) pa_nil)) (pa_cons (pe_callD Dn hr pass0 (pa_cons (pv 1) pa_nil)) pa_nil))))
        (pss_cons (ps_for PassesOwn.never rfl (pi_list (pe_op q_add (pe_callD0 Dk hr pass0) (pe_callD0 Dk hr pass0))) (pg_name (i := 3) scLaw.nd rfl (Or.inl rfl)) (pss_cons (ps_asg (pe_callD Db hr pass0 (pa_cons (pv 1) (pa_cons (pv 3) (pa_cons (pe_callD Dw hr pass0 (pa_cons (pv 1) (pa_cons (pv 2) (pa_cons (pe_lst (pa_cons (pv 3) pa_nil)) pa_nil)))) pa_nil)))) (pg_tup rfl (pgs_cons (pg_name (i := 6) scLaw.nd rfl (Or.inr rfl)) (pgs_cons (pg_name (i := 4) scLaw.nd rfl (Or.inl rfl)) pgs_nil))))
        (pss_cons (ps_set (i := 5) scLaw.nd rfl (Or.inl rfl) (LamX.pe_lamcall (k := 9) (T := [(pT, qLam s.heap.objs.size f (codeA K f))]) rfl hmH kpH lkH hcdH hbH scHeard rfl (Or.inl rfl) (HG _ _ _ rfl rfl) TB rfl (List.mem_singleton.mpr rfl) (fun p hp _ => by rw [List.mem_singleton.mp hp] <;> rfl) hr (LamX.lamS_by (sc := defScope sLaw) (by decide +kernel)) rfl (fun _ _ _ _ _ => rfl) (fun A2 outer2 s2 H2 E2 f2 c2 hr2 => (pe_fldK (K := K) rfl (pe_callD Dmk hr2 passL (pa_cons (pv 6) pa_nil)) rfl))))
        (pss_one (ps_if (pt_cmpR (q_ne hu64) (pe_callB (call_reprQ SM g0 hu64) (by rfl) T.repr (by decide +kernel) (pa_cons (pv 5) pa_nil)) (pe_callB (call_reprQ SM g0 hu64) (by rfl) T.repr (by decide +kernel) (pa_cons (pe_ifExp (pt_cmpR q_notN (pv 4) pe_non (nomark _)) (pv 4) (pe_tup (pa_cons pe_str (pa_cons (pv 3) pa_nil)))) pa_nil)) (nomark _)) (pss_one (ps_ret pe_bl)) pss_nil)))))
        (pss_one (ps_ret pe_bl))))), ?_⟩
    obtain ⟨en, G0, w0, ha0, enT, cov', inP'⟩ := law_start (qLam s.heap.objs.size f (codeA K f)) only (htb _ (List.mem_singleton.mpr rfl)) ha
    walk_at "qq"
    refine u_pen w0 ha0 hl fun p c G1 H1 w1 s1 t1 hc P1 => ?_
    walk_at "qq"
    refine u_name w1 (by simp) hc P1 (by omega) fun z1 G2 H2 w2 s2 b2 P2 o1 => ?_
    walk_at "qq"
    have hc2 := hc.same s2
    refine u_name w2 (by simp) hc2 P2 (by omega) fun z2 G3 H3 w3 s3 b3 P3 o2 => ?_
    have hc3 := hc2.same s3
    walk_at "qq"
    rename_i l4 G4 H4 n4 w4 s4 h4 t4
    refine u_kinds w4 fun l5 G5 H5 w5 s5 t5 h5 => ?_
    walk_at "qq"
    refine u_kinds w5 fun l6 G6 H6 w6 s6 t6 h6 => ?_
    have h56 := s6 _ _ h5
    walk_at "qq"
    rename_i l7 G7 H7 n7 w7 s7 h7 t7
    have hc7 := hc3.same (s4.trans (s5.trans (s6.trans s7)))
    have hcr := (s5.trans (s6.trans s7)) _ _ h4
    have P7 := ((P3.same t4).same (t5.trans t6)).same t7
    have crO : ∀ z ∈ ([z1, z2] : List Str), nmOk z = true := fun z hz => by
      simp only [List.mem_cons, List.not_mem_nil, or_false] at hz
      rcases hz with rfl | rfl
      · exact o1
      · exact o2
    refine for_go (walk_list (xs := kindsS.map V.str ++ kindsS.map V.str)) (fun j σ Hx => ∃ (Gi : Hp) (x3 x4 x5 x6 : Option V), σ = [some (.ref a), some (.ref p), some (.ref l4), x3, x4, x5, x6] ∧ Wd en Gi Hx [p] ∧ Same G7 Gi ∧ PenAt p c (1000 + 60 * j) Hx)
      ⟨G7, _, _, _, _, rfl, w7, Same.refl _, P7.more (by omega)⟩ (fun j σ Hx _ ⟨Gi, _, _, _, _, _, wi, si, _⟩ => wd_sqL wi (SqL.of (si _ _ h7))) ?_ ?_
    · rintro j xj σ Ha Hb hj ⟨Gi, x3, x4, x5, x6, rfl, wi, si, Pi⟩ ⟨rfl, hx⟩
      have hj20 : j < 20 := hj
      obtain ⟨i, hi, rfl⟩ := kinds_mem (List.mem_of_getElem? hx)
      have hci := hc7.same si
      walk_at "qq"
      rename_i l8 G8 H8 n8 w8 s8 h8 t8
      refine u_drawn w8 (by simp) (hci.same s8) (Pi.same t8) (by omega) (ns := [z1, z2]) (ks := [kindN i]) (s8 _ _ (si _ _ hcr)) (by simp) (by simp) crO h8 (by simp) (by simp) (fun z hz => ⟨i, hi, List.mem_singleton.mp hz⟩) fun tr i' as G9 H9 w9 s9 b9 P9 hi' hk' h9 sg9 => ?_
      obtain rfl : i = i' := kind_inj i hi i' hi' (List.mem_singleton.mp hk').symm
      walk_at "qq"
      have hc9 := (hci.same s8).same s9
      refine u_bent w9 (by simp) hc9 P9 (by omega) hi h9 sg9 fun r l bs u G10 H10 w10 s10 b10 P10 h10 hb10 => ?_
      have S10 := si.trans (s8.trans (s9.trans s10))
      walk_at "qq"
      refine r_lamT w10 enT cov' inP' fun H11 E11 Q11 w11 x11 hE hQ => ?_
      have P11 := P10.ext x11
      obtain ⟨hl10, hlen, hodd, hdue⟩ := id hb10
      walk_at "qq"
      refine u_made w11 hi (.inl (SqL.of hl10)) hlen (fun v hv => (hodd v hv).elim fun d o => o.kd) (fun z hz => (hodd _ hz).elim fun d o => Nat.le_trans (o.st z rfl) (by decide)) (fun s v hbad d G12 H12 w12 s12 t12 hd12 => ?_) (fun hbad a2 G12 H12 w12 s12 t12 ha2 => ?_)
      · rw [hbad] at hdue
        obtain ⟨lq, rfl, hq⟩ := hdue
        obtain ⟨dv, ov⟩ := hodd v (bad_mem hbad)
        have sl : (PyData.str (sgWord s)).shown.length ≤ 20 := by
          cases s with
          | n => decide +kernel
          | t => decide +kernel
          | m l =>
            show (PyData.str "moment").shown.length ≤ 20
            decide +kernel
        have q1 := ov.sz
        have q2 := ov.dp
        have sh1 : (PyData.tuple [.str (sgWord s), dv]).showable = true := by simp [PyData.showable, PyData.showableAll, ov.sh]
        have sh2 : (PyData.tuple [.str (sgWord s), dv]).depth ≤ 60 := by simp [PyData.depth, PyData.depthAll]; omega
        have sh3 : (PyData.tuple [.str (sgWord s), dv]).shown.length ≤ sizeLine := sz_m (by
          have a3 := sh_tup [.str (sgWord s), dv] (m := 1020) (by simp; omega)
          exact Nat.le_trans a3 (by simp))
        have mem : ((sgErr Cn Cm Cs s).1, sgWord s, (sgErr Cn Cm Cs s).2) ∈ kdR Cn Cm Cs := by cases s <;> simp [sgErr, sgWord]
        refine hE _ _ _ ⟨en, G12, [p], _, _, _, v, d, w12, rfl, rfl, hd12, mem, fun l7 G13 H13 w13 s13 t13 h13 => ?_⟩
        have S13 := s12.trans s13
        walk_at "qq"
        refine r_reprQ (.tup (SqT.of (w13.le _ _ h13)) (.cons (.str _) (.cons (wd_dq w13 (same_dq S13 ov.dq)) .nil))) sh1 sh2 sh3 ?_
        walk_at "qq"
        refine ite_nd (fun _ => ?_) fun h => by cases h
        walk_at "qq"
        refine r_reprQ (.tup (SqT.of (w13.le _ _ (S13 _ _ hq))) (.cons (.str _) (.cons (wd_dq w13 (same_dq S13 ov.dq)) .nil))) sh1 sh2 sh3 ?_
        walk_at "qq"
        refine ite_nd (fun h => absurd rfl h) fun _ => ?_
        walk_at "qq"
        exact ⟨G13, _, _, _, _, rfl, w13, S10.trans S13, ((P11.same t12).same t13).more (by omega)⟩
      · rw [hbad] at hdue
        obtain rfl : u = .non := hdue
        obtain ⟨dx, aw, an, am, ga, _⟩ := id ha2
        obtain ⟨rc, rk⟩ := RK i hi
        obtain ⟨q1, q2⟩ := kind_show i hi
        have sh1 : (PyData.tuple [.str "told", .str (kindN i)]).showable = true := rfl
        have sh2 : (PyData.tuple [.str "told", .str (kindN i)]).depth ≤ 60 := by simp [PyData.depth, PyData.depthAll]
        have a2' : (PyData.str "told").shown.length ≤ 20 := by decide +kernel
        have sh3 : (PyData.tuple [.str "told", .str (kindN i)]).shown.length ≤ sizeLine := sz_m (by
          have a3 := sh_tup [.str "told", .str (kindN i)] (m := 1020) (by simp; omega)
          exact Nat.le_trans a3 (by simp))
        walk_at "qq"
        refine hQ _ _ ⟨en, G12, [p], w12, fun l7 G13 H13 w13 s13 t13 h13 => ?_⟩
        walk_at "qq"
        refine r_reprQ (.tup (SqT.of (w13.le _ _ h13)) (.cons (.str _) (.cons (.str _) .nil))) sh1 sh2 sh3 ?_
        walk_at "qq"
        refine ite_nd (fun h => absurd rfl h) fun _ => ?_
        walk_at "qq"
        rename_i l14 G14 H14 n14 w14 s14 h14 t14
        refine r_reprQ (.tup (SqT.of (w14.le _ _ h14)) (.cons (.str _) (.cons (.str _) .nil))) sh1 sh2 sh3 ?_
        walk_at "qq"
        refine ite_nd (fun h => absurd rfl h) fun _ => ?_
        walk_at "qq"
        exact ⟨G14, _, _, _, _, rfl, w14, S10.trans (s12.trans (s13.trans s14)), (((P11.same t12).same t13).same t14).more (by omega)⟩
    · rintro σ Ha ⟨Gi, x3, x4, x5, x6, rfl, wi, si, Pi⟩
      walk_at "qq"
      exact k _
end

open PySem PySem.Spec PyProof.Rows L2 Q
/-! ### the head -/
theorem factsL {P : Program} {w : World} {K : PySem.W.Frag} {h : Heap} {mg : Str → Option Value} {f : Addr} (X : K.In h) (G : h.Ns mainGlobals mg) (hfa : mg ("law" : Str) = some (.ref f)) (c : SaysR faL fnL tfL exL h K) (dq : ∀ t ∈ tsL, DicAt K w (t.1 K) t.2) (sq : ∀ d ∈ dsL, fnC K (d.at_ K) = d.val) (hfile : (P.main.file : Str) = fileL) (htop : (P.main.scope.names.lookup ("super" : Str)).isSome = false) :
    f = He.ga K "law" ∧ ∃ fd : FuncData, (∀ (s : Shared) (v : Value), BindsTo s fd ⟨[v], []⟩ [("_law_script", v)]) ∧ ∀ base : Heap, K.In base → base.Ns mainGlobals mg → LamX.TabB base mg (cTA K (He.ga K "law")).1 (cTA K (He.ga K "law")).2 → FnA P w K mg base CX0 12 f fd ["_law_script"] (spLaw K [cTA K (He.ga K "law")]) := by
  have e := c.more
  unfold exL at e
  have T : Bi mg := ⟨He.free_ok X G (c.t.fact 0 (f := .free "int") rfl), He.free_ok X G (c.t.fact 1 (f := .free "len") rfl), He.free_ok X G (c.t.fact 2 (f := .free "abs") rfl), He.free_ok X G (c.t.fact 3 (f := .free "list") rfl), He.free_ok X G (c.t.fact 4 (f := .free "range") rfl), He.free_ok X G (c.t.fact 5 (f := .free "repr") rfl), He.free_ok X G (c.t.fact 6 (f := .free "str") rfl), He.free_ok X G (c.t.fact 7 (f := .free "isinstance") rfl), He.free_ok X G (c.t.fact 8 (f := .free "all") rfl), He.free_ok X G (c.t.fact 9 (f := .free "any") rfl), He.free_ok X G (c.t.fact 10 (f := .free "bool") rfl), He.free_ok X G (c.t.fact 11 (f := .free "tuple") rfl), He.free_ok X G (c.t.fact 12 (f := .free "sorted") rfl), He.free_ok X G (c.t.fact 13 (f := .free "set") rfl), He.free_ok X G (c.t.fact 14 (f := .free "dict") rfl), He.free_ok X G (c.t.fact 15 (f := .free "enumerate") rfl), He.free_ok X G (c.t.fact 16 (f := .free "zip") rfl), He.free_ok X G (c.t.fact 17 (f := .free "min") rfl), He.free_ok X G (c.t.fact 18 (f := .free "max") rfl), He.free_ok X G (c.t.fact 19 (f := .free "ValueError") rfl)⟩
  obtain ⟨xRes, e⟩ := He.ba e
  obtain ⟨xoEN, e⟩ := He.ba e
  obtain ⟨xhEN, e⟩ := He.ba e
  obtain ⟨xoEM, e⟩ := He.ba e
  obtain ⟨xhEM, e⟩ := He.ba e
  obtain ⟨xoES, e⟩ := He.ba e
  obtain ⟨xhES, e⟩ := He.ba e
  obtain ⟨xSMt, e⟩ := He.ba e
  obtain ⟨xSIBegun, e⟩ := He.ba e
  obtain ⟨xUBegun, e⟩ := He.ba e
  obtain ⟨xSISetBy, e⟩ := He.ba e
  obtain ⟨xUSetBy, e⟩ := He.ba e
  obtain ⟨xSIFound, e⟩ := He.ba e
  obtain ⟨xUFound, e⟩ := He.ba e
  obtain ⟨xSITrusted, e⟩ := He.ba e
  obtain ⟨xUTrusted, e⟩ := He.ba e
  obtain ⟨xSIPassed, e⟩ := He.ba e
  obtain ⟨xUPassed, e⟩ := He.ba e
  obtain ⟨xSIFailed, e⟩ := He.ba e
  obtain ⟨xUFailed, e⟩ := He.ba e
  obtain ⟨xSIAgreed, e⟩ := He.ba e
  obtain ⟨xUAgreed, e⟩ := He.ba e
  obtain ⟨xVAgreed, e⟩ := He.ba e
  obtain ⟨xSIDiffered, e⟩ := He.ba e
  obtain ⟨xUDiffered, e⟩ := He.ba e
  obtain ⟨xVDiffered, e⟩ := He.ba e
  obtain ⟨xSIServed, e⟩ := He.ba e
  obtain ⟨xUServed, e⟩ := He.ba e
  obtain ⟨xVServed, e⟩ := He.ba e
  obtain ⟨xSIBacked, e⟩ := He.ba e
  obtain ⟨xUBacked, e⟩ := He.ba e
  obtain ⟨xVBacked, e⟩ := He.ba e
  obtain ⟨xSm, e⟩ := He.ba e
  have xHt := e
  obtain ⟨fdL, FL⟩ : ∃ fd, FnP K "law" "law" sLaw [] (He.ga K "law") fd := c.t.def_ 0
  have z := hfa.symm.trans (He.glo_ok X G (c.t.fact 20 (f := .glo "law") rfl))
  cases z
  have b := FunD.bindsA (ps := ["_law_script"]) FL fun _ _ _ _ _ _ us hl => match us, hl with | [_], _ => rfl
  refine ⟨rfl, fdL, fun s v => b s [v] rfl, fun base _ _ TB => ?_⟩
  obtain ⟨fd0, F0⟩ : ∃ fd, FnP K "is_integer" "is_integer" sIsInt [] (He.ga K "is_integer") fd := c.t.def_ 1
  obtain ⟨fd1, F1⟩ : ∃ fd, FnP K "is_moment" "is_moment" sMoment [.int 0] (He.ga K "is_moment") fd := c.t.def_ 2
  obtain ⟨fd2, F2⟩ : ∃ fd, FnP K "is_name" "is_name" sIsName [] (He.ga K "is_name") fd := c.t.def_ 3
  have NM : Nm K mg := ⟨⟨_, ⟨_, (He.glo_ok X G (c.t.fact 24 (f := .glo "RESERVED") rfl)), rfl⟩, fun H => He.tupB_ok xRes H⟩, (He.str_ok X G (c.t.fact 25 (f := .str "LETTERS" zLetters) rfl)).elim fun t z => ⟨_, z, t, rfl⟩, (He.str_ok X G (c.t.fact 26 (f := .str "FIGURES" zFigures) rfl)).elim fun t z => ⟨_, z, t, rfl⟩,
    (He.int_ok X G (c.t.fact 27 (f := .int "MOST_SIGNS" 8) rfl)).elim fun t z => ⟨_, z, t, rfl⟩, (He.int_ok X G (c.t.fact 28 (f := .int "MOST_MOMENT" 1000000000000000000000000000000) rfl)).elim fun t z => ⟨_, z, t, rfl⟩⟩
  have D0 : Df P w K mg base CX0 1 "is_integer" [] (spIsInt K) := df_of F0 (He.glo_ok X G (c.t.fact 21 (f := .glo "is_integer") rfl)) (ok_isInt F0 T) fun _ _ _ _ _ _ us hl => match us, hl with | [_], _ => rfl
  have D1 : Df P w K mg base CX0 2 "is_moment" [.int 0] (spMoment K) := by
    obtain ⟨ds, vd, bd⟩ := FunD.binds1 (ps := ["thing", "least"]) F1 1 0 (by simp) rfl fun _ _ _ _ _ _ _ us its hl hi => match us, its, hl, hi with | [_], [_], _, _ => ⟨_, rfl, rfl⟩
    exact ⟨_, fd1, _, ds, (He.glo_ok X G (c.t.fact 22 (f := .glo "is_moment") rfl)), F1.kp, bd, vd, ok_moment F1 T NM D0⟩
  have D2 : Df P w K mg base CX0 1 "is_name" [] (spIsName K) := df_of F2 (He.glo_ok X G (c.t.fact 23 (f := .glo "is_name") rfl)) (ok_isName F2 T NM) fun _ _ _ _ _ _ us hl => match us, hl with | [_], _ => rfl
  have Dm2 : Df P w K mg base CX0 2 "is_moment" [] (spMoment K) := by
    obtain ⟨ds, vd, bd⟩ := FunD.binds1 (ps := ["thing", "least"]) F1 2 1 (by simp) rfl fun _ _ _ _ _ _ _ us its hl hi => match us, its, hl, hi with | [_, _], [_], _, _ => ⟨_, rfl, rfl⟩
    exact ⟨_, fd1, _, ds, (He.glo_ok X G (c.t.fact 22 (f := .glo "is_moment") rfl)), F1.kp, bd, vd, ok_moment F1 T NM D0⟩
  obtain ⟨fdEN, FEN⟩ : ∃ fd, FnP K "__init__" "BadName.__init__" sErrN [] (He.ma K (He.ga K "BadName") "__init__") fd := c.t.def_ 4
  have oEN := oexB_ok xoEN
  have hEN := hdB_ok xhEN
  have gEN := (He.glo_ok X G (c.t.fact 30 (f := .glo "BadName") rfl))
  have mEN := He.meth_ok (c.t.fact 29 (f := .meth "BadName" "__init__") rfl)
  have EN : ErD P w K mg base "BadName" (He.ga K "BadName") (spErr1 (He.ga K "BadName") "name") := ⟨_, fdEN, _, oEN, mEN.at_, isFn_ty mEN.fn, gEN, (FEN.bindsN fun _ _ _ _ _ _ us hl => match us, hl with | [_, _], _ => rfl), ok_errN FEN oEN hEN.n⟩
  obtain ⟨fdEM, FEM⟩ : ∃ fd, FnP K "__init__" "BadMoment.__init__" sErrM [] (He.ma K (He.ga K "BadMoment") "__init__") fd := c.t.def_ 5
  have oEM := oexB_ok xoEM
  have hEM := hdB_ok xhEM
  have gEM := (He.glo_ok X G (c.t.fact 32 (f := .glo "BadMoment") rfl))
  have mEM := He.meth_ok (c.t.fact 31 (f := .meth "BadMoment" "__init__") rfl)
  have EM : ErD P w K mg base "BadMoment" (He.ga K "BadMoment") (spErr1 (He.ga K "BadMoment") "moment") := ⟨_, fdEM, _, oEM, mEM.at_, isFn_ty mEM.fn, gEM, (FEM.bindsN fun _ _ _ _ _ _ us hl => match us, hl with | [_, _], _ => rfl), ok_errM FEM oEM hEM.n⟩
  obtain ⟨fdES, FES⟩ : ∃ fd, FnP K "__init__" "BadSaying.__init__" sErrS [] (He.ma K (He.ga K "BadSaying") "__init__") fd := c.t.def_ 6
  have oES := oexB_ok xoES
  have hES := hdB_ok xhES
  have gES := (He.glo_ok X G (c.t.fact 34 (f := .glo "BadSaying") rfl))
  have mES := He.meth_ok (c.t.fact 33 (f := .meth "BadSaying" "__init__") rfl)
  have ES : ErD P w K mg base "BadSaying" (He.ga K "BadSaying") (spErr1 (He.ga K "BadSaying") "value") := ⟨_, fdES, _, oES, mES.at_, isFn_ty mES.fn, gES, (FES.bindsN fun _ _ _ _ _ _ us hl => match us, hl with | [_, _], _ => rfl), ok_errS FES oES hES.n⟩
  have hsup : mg "super" = none := He.free_ok X G (c.t.fact 35 (f := .free "super") rfl)
  obtain ⟨fdnN, FnN⟩ : ∃ fd, FnP K "need_name" "need_name" sNeedN [] (He.ga K "need_name") fd := c.t.def_ 7
  have DNN : Df P w K mg base (L2.CX P w) 3 "need_name" [] (spNeedN K (He.ga K "BadName")) := df_of FnN (He.glo_ok X G (c.t.fact 36 (f := .glo "need_name") rfl)) (ok_needN FnN D2 EN) fun _ _ _ _ _ _ us hl => match us, hl with | [_], _ => rfl
  obtain ⟨fdnM, FnM⟩ : ∃ fd, FnP K "need_moment" "need_moment" sNeedM [.int 0] (He.ga K "need_moment") fd := c.t.def_ 8
  have DNM0 : Df P w K mg base (L2.CX P w) 3 "need_moment" [.int 0] (spNeedM K (He.ga K "BadMoment")) := by
    obtain ⟨ds, vd, bd⟩ := FunD.binds1 (ps := ["thing", "least"]) FnM 1 0 (by simp) rfl fun _ _ _ _ _ _ _ us its hl hi => match us, its, hl, hi with | [_], [_], _, _ => ⟨_, rfl, rfl⟩
    exact ⟨_, fdnM, _, ds, (He.glo_ok X G (c.t.fact 37 (f := .glo "need_moment") rfl)), FnM.kp, bd, vd, ok_needM FnM Dm2 EM⟩
  have DNM1 : Df P w K mg base (L2.CX P w) 3 "need_moment" [] (spNeedM K (He.ga K "BadMoment")) := by
    obtain ⟨ds, vd, bd⟩ := FunD.binds1 (ps := ["thing", "least"]) FnM 2 1 (by simp) rfl fun _ _ _ _ _ _ _ us its hl hi => match us, its, hl, hi with | [_, _], [_], _, _ => ⟨_, rfl, rfl⟩
    exact ⟨_, fdnM, _, ds, (He.glo_ok X G (c.t.fact 37 (f := .glo "need_moment") rfl)), FnM.kp, bd, vd, ok_needM FnM Dm2 EM⟩
  obtain ⟨fdRw, FRw⟩ : ∃ fd, FnP K "__init__" "Row.__init__" sRowI [] (He.ma K (He.ga K "Row") "__init__") fd := c.t.def_ 9
  obtain ⟨fdMt, FMt⟩ : ∃ fd, SupD P K "__init__" "Meeting.__init__" sMeetingI (He.ga K "Meeting") (He.ma K (He.ga K "Meeting") "__init__") fd := DefS.sup hfile (sq (dsL.getD 0 default) (List.mem_of_getElem? (i := 0) rfl)) xSMt
  have rcBegun : RwC K (He.ga K "Begun") (["tool", "moment"] : List Str) := ⟨He.cls_ok (c.t.fact 41 (f := .cls "Begun") rfl), He.noat_ok (c.t.fact 43 (f := .noat "Begun" "kind") rfl), He.noat_ok (c.t.fact 44 (f := .noat "Begun" "words") rfl), He.noat_ok (c.t.fact 45 (f := .noat "Begun" "named") rfl), He.noat_ok (c.t.fact 46 (f := .noat "Begun" "told_at") rfl), fun f hf => by
    simp only [List.mem_cons, List.not_mem_nil, or_false] at hf
    rcases hf with rfl | rfl
    · exact He.noat_ok (c.t.fact 47 (f := .noat "Begun" "tool") rfl)
    · exact He.noat_ok (c.t.fact 48 (f := .noat "Begun" "moment") rfl)⟩
  obtain ⟨fdIBegun, FIBegun⟩ : ∃ fd, SupD P K "__init__" "Begun.__init__" sBegunI (He.ga K "Begun") (He.ma K (He.ga K "Begun") "__init__") fd := DefS.sup hfile (sq (dsL.getD 1 default) (List.mem_of_getElem? (i := 1) rfl)) xSIBegun
  have okIBegun := ok_BegunI (Cn := (He.ga K "BadName")) (Cm := (He.ga K "BadMoment")) (Cs := (He.ga K "BadSaying")) FIBegun T rcBegun hsup htop DNN DNM0 DNM1 (supB_ok xUBegun) (ok_rowI (P := P) (w := w) (mg := mg) (base := base) FRw rcBegun) (FRw.bindsN fun _ _ _ _ _ _ us hl => match us, hl with | [_, _, _, _, _], _ => rfl)
  have KBegun : MkD P w K mg base (L2.CX P w) 4 "Begun" (He.ga K "Begun") [] (spRowI K (He.ga K "Begun") (He.ga K "BadName") (He.ga K "BadMoment") (He.ga K "BadSaying") "begun" [] ([Sg.n, Sg.m 1] : List Sg) (["tool", "moment"] : List Str)) := ⟨_, fdIBegun, _, [], (He.glo_ok X G (c.t.fact 40 (f := .glo "Begun") rfl)), He.mkr_ok (c.t.fact 42 (f := .mkr "Begun") rfl), (FIBegun.binds fun _ _ _ _ _ _ _ us hl => match us, hl with | [_, _, _], _ => rfl), .nil, okIBegun⟩
  have rcSetBy : RwC K (He.ga K "SetBy") (["tool", "moment", "by"] : List Str) := ⟨He.cls_ok (c.t.fact 51 (f := .cls "SetBy") rfl), He.noat_ok (c.t.fact 53 (f := .noat "SetBy" "kind") rfl), He.noat_ok (c.t.fact 54 (f := .noat "SetBy" "words") rfl), He.noat_ok (c.t.fact 55 (f := .noat "SetBy" "named") rfl), He.noat_ok (c.t.fact 56 (f := .noat "SetBy" "told_at") rfl), fun f hf => by
    simp only [List.mem_cons, List.not_mem_nil, or_false] at hf
    rcases hf with rfl | rfl | rfl
    · exact He.noat_ok (c.t.fact 57 (f := .noat "SetBy" "tool") rfl)
    · exact He.noat_ok (c.t.fact 58 (f := .noat "SetBy" "moment") rfl)
    · exact He.noat_ok (c.t.fact 59 (f := .noat "SetBy" "by") rfl)⟩
  obtain ⟨fdISetBy, FISetBy⟩ : ∃ fd, SupD P K "__init__" "SetBy.__init__" sSetByI (He.ga K "SetBy") (He.ma K (He.ga K "SetBy") "__init__") fd := DefS.sup hfile (sq (dsL.getD 2 default) (List.mem_of_getElem? (i := 2) rfl)) xSISetBy
  have okISetBy := ok_SetByI (Cn := (He.ga K "BadName")) (Cm := (He.ga K "BadMoment")) (Cs := (He.ga K "BadSaying")) FISetBy T rcSetBy hsup htop DNN DNM0 DNM1 (supB_ok xUSetBy) (ok_rowI (P := P) (w := w) (mg := mg) (base := base) FRw rcSetBy) (FRw.bindsN fun _ _ _ _ _ _ us hl => match us, hl with | [_, _, _, _, _], _ => rfl)
  have KSetBy : MkD P w K mg base (L2.CX P w) 4 "SetBy" (He.ga K "SetBy") [] (spRowI K (He.ga K "SetBy") (He.ga K "BadName") (He.ga K "BadMoment") (He.ga K "BadSaying") "setby" [] ([Sg.n, Sg.m 1, Sg.n] : List Sg) (["tool", "moment", "by"] : List Str)) := ⟨_, fdISetBy, _, [], (He.glo_ok X G (c.t.fact 50 (f := .glo "SetBy") rfl)), He.mkr_ok (c.t.fact 52 (f := .mkr "SetBy") rfl), (FISetBy.binds fun _ _ _ _ _ _ _ us hl => match us, hl with | [_, _, _, _], _ => rfl), .nil, okISetBy⟩
  have rcFound : RwC K (He.ga K "Found") (["tool", "moment", "is_sound"] : List Str) := ⟨He.cls_ok (c.t.fact 62 (f := .cls "Found") rfl), He.noat_ok (c.t.fact 64 (f := .noat "Found" "kind") rfl), He.noat_ok (c.t.fact 65 (f := .noat "Found" "words") rfl), He.noat_ok (c.t.fact 66 (f := .noat "Found" "named") rfl), He.noat_ok (c.t.fact 67 (f := .noat "Found" "told_at") rfl), fun f hf => by
    simp only [List.mem_cons, List.not_mem_nil, or_false] at hf
    rcases hf with rfl | rfl | rfl
    · exact He.noat_ok (c.t.fact 68 (f := .noat "Found" "tool") rfl)
    · exact He.noat_ok (c.t.fact 69 (f := .noat "Found" "moment") rfl)
    · exact He.noat_ok (c.t.fact 70 (f := .noat "Found" "is_sound") rfl)⟩
  obtain ⟨fdIFound, FIFound⟩ : ∃ fd, SupD P K "__init__" "Found.__init__" sFoundI (He.ga K "Found") (He.ma K (He.ga K "Found") "__init__") fd := DefS.sup hfile (sq (dsL.getD 3 default) (List.mem_of_getElem? (i := 3) rfl)) xSIFound
  have okIFound := ok_FoundI (Cn := (He.ga K "BadName")) (Cm := (He.ga K "BadMoment")) (Cs := (He.ga K "BadSaying")) FIFound T rcFound hsup htop DNN DNM0 DNM1 ES (supB_ok xUFound) (ok_rowI (P := P) (w := w) (mg := mg) (base := base) FRw rcFound) (FRw.bindsN fun _ _ _ _ _ _ us hl => match us, hl with | [_, _, _, _, _], _ => rfl)
  have KFound : MkD P w K mg base (L2.CX P w) 4 "Found" (He.ga K "Found") [] (spRowI K (He.ga K "Found") (He.ga K "BadName") (He.ga K "BadMoment") (He.ga K "BadSaying") "found" [] ([Sg.n, Sg.m 0, Sg.t] : List Sg) (["tool", "moment", "is_sound"] : List Str)) := ⟨_, fdIFound, _, [], (He.glo_ok X G (c.t.fact 61 (f := .glo "Found") rfl)), He.mkr_ok (c.t.fact 63 (f := .mkr "Found") rfl), (FIFound.binds fun _ _ _ _ _ _ _ us hl => match us, hl with | [_, _, _, _], _ => rfl), .nil, okIFound⟩
  have rcTrusted : RwC K (He.ga K "Trusted") (["tool"] : List Str) := ⟨He.cls_ok (c.t.fact 73 (f := .cls "Trusted") rfl), He.noat_ok (c.t.fact 75 (f := .noat "Trusted" "kind") rfl), He.noat_ok (c.t.fact 76 (f := .noat "Trusted" "words") rfl), He.noat_ok (c.t.fact 77 (f := .noat "Trusted" "named") rfl), He.noat_ok (c.t.fact 78 (f := .noat "Trusted" "told_at") rfl), fun f hf => by
    simp only [List.mem_cons, List.not_mem_nil, or_false] at hf
    rcases hf with rfl
    · exact He.noat_ok (c.t.fact 79 (f := .noat "Trusted" "tool") rfl)⟩
  obtain ⟨fdITrusted, FITrusted⟩ : ∃ fd, SupD P K "__init__" "Trusted.__init__" sTrustedI (He.ga K "Trusted") (He.ma K (He.ga K "Trusted") "__init__") fd := DefS.sup hfile (sq (dsL.getD 4 default) (List.mem_of_getElem? (i := 4) rfl)) xSITrusted
  have okITrusted := ok_TrustedI (Cn := (He.ga K "BadName")) (Cm := (He.ga K "BadMoment")) (Cs := (He.ga K "BadSaying")) FITrusted T rcTrusted hsup htop DNN DNM0 DNM1 (supB_ok xUTrusted) (ok_rowI (P := P) (w := w) (mg := mg) (base := base) FRw rcTrusted) (FRw.bindsN fun _ _ _ _ _ _ us hl => match us, hl with | [_, _, _, _, _], _ => rfl)
  have KTrusted : MkD P w K mg base (L2.CX P w) 4 "Trusted" (He.ga K "Trusted") [] (spRowI K (He.ga K "Trusted") (He.ga K "BadName") (He.ga K "BadMoment") (He.ga K "BadSaying") "trusted" [] ([Sg.n] : List Sg) (["tool"] : List Str)) := ⟨_, fdITrusted, _, [], (He.glo_ok X G (c.t.fact 72 (f := .glo "Trusted") rfl)), He.mkr_ok (c.t.fact 74 (f := .mkr "Trusted") rfl), (FITrusted.binds fun _ _ _ _ _ _ _ us hl => match us, hl with | [_, _], _ => rfl), .nil, okITrusted⟩
  have rcPassed : RwC K (He.ga K "Passed") (["tool", "moment", "by"] : List Str) := ⟨He.cls_ok (c.t.fact 82 (f := .cls "Passed") rfl), He.noat_ok (c.t.fact 84 (f := .noat "Passed" "kind") rfl), He.noat_ok (c.t.fact 85 (f := .noat "Passed" "words") rfl), He.noat_ok (c.t.fact 86 (f := .noat "Passed" "named") rfl), He.noat_ok (c.t.fact 87 (f := .noat "Passed" "told_at") rfl), fun f hf => by
    simp only [List.mem_cons, List.not_mem_nil, or_false] at hf
    rcases hf with rfl | rfl | rfl
    · exact He.noat_ok (c.t.fact 88 (f := .noat "Passed" "tool") rfl)
    · exact He.noat_ok (c.t.fact 89 (f := .noat "Passed" "moment") rfl)
    · exact He.noat_ok (c.t.fact 90 (f := .noat "Passed" "by") rfl)⟩
  obtain ⟨fdIPassed, FIPassed⟩ : ∃ fd, SupD P K "__init__" "Passed.__init__" sPassedI (He.ga K "Passed") (He.ma K (He.ga K "Passed") "__init__") fd := DefS.sup hfile (sq (dsL.getD 5 default) (List.mem_of_getElem? (i := 5) rfl)) xSIPassed
  have okIPassed := ok_PassedI (Cn := (He.ga K "BadName")) (Cm := (He.ga K "BadMoment")) (Cs := (He.ga K "BadSaying")) FIPassed T rcPassed hsup htop DNN DNM0 DNM1 (supB_ok xUPassed) (ok_rowI (P := P) (w := w) (mg := mg) (base := base) FRw rcPassed) (FRw.bindsN fun _ _ _ _ _ _ us hl => match us, hl with | [_, _, _, _, _], _ => rfl)
  have KPassed : MkD P w K mg base (L2.CX P w) 4 "Passed" (He.ga K "Passed") [] (spRowI K (He.ga K "Passed") (He.ga K "BadName") (He.ga K "BadMoment") (He.ga K "BadSaying") "passed" [] ([Sg.n, Sg.m 0, Sg.n] : List Sg) (["tool", "moment", "by"] : List Str)) := ⟨_, fdIPassed, _, [], (He.glo_ok X G (c.t.fact 81 (f := .glo "Passed") rfl)), He.mkr_ok (c.t.fact 83 (f := .mkr "Passed") rfl), (FIPassed.binds fun _ _ _ _ _ _ _ us hl => match us, hl with | [_, _, _, _], _ => rfl), .nil, okIPassed⟩
  have rcFailed : RwC K (He.ga K "Failed") (["tool", "moment", "by"] : List Str) := ⟨He.cls_ok (c.t.fact 93 (f := .cls "Failed") rfl), He.noat_ok (c.t.fact 95 (f := .noat "Failed" "kind") rfl), He.noat_ok (c.t.fact 96 (f := .noat "Failed" "words") rfl), He.noat_ok (c.t.fact 97 (f := .noat "Failed" "named") rfl), He.noat_ok (c.t.fact 98 (f := .noat "Failed" "told_at") rfl), fun f hf => by
    simp only [List.mem_cons, List.not_mem_nil, or_false] at hf
    rcases hf with rfl | rfl | rfl
    · exact He.noat_ok (c.t.fact 99 (f := .noat "Failed" "tool") rfl)
    · exact He.noat_ok (c.t.fact 100 (f := .noat "Failed" "moment") rfl)
    · exact He.noat_ok (c.t.fact 101 (f := .noat "Failed" "by") rfl)⟩
  obtain ⟨fdIFailed, FIFailed⟩ : ∃ fd, SupD P K "__init__" "Failed.__init__" sFailedI (He.ga K "Failed") (He.ma K (He.ga K "Failed") "__init__") fd := DefS.sup hfile (sq (dsL.getD 6 default) (List.mem_of_getElem? (i := 6) rfl)) xSIFailed
  have okIFailed := ok_FailedI (Cn := (He.ga K "BadName")) (Cm := (He.ga K "BadMoment")) (Cs := (He.ga K "BadSaying")) FIFailed T rcFailed hsup htop DNN DNM0 DNM1 (supB_ok xUFailed) (ok_rowI (P := P) (w := w) (mg := mg) (base := base) FRw rcFailed) (FRw.bindsN fun _ _ _ _ _ _ us hl => match us, hl with | [_, _, _, _, _], _ => rfl)
  have KFailed : MkD P w K mg base (L2.CX P w) 4 "Failed" (He.ga K "Failed") [] (spRowI K (He.ga K "Failed") (He.ga K "BadName") (He.ga K "BadMoment") (He.ga K "BadSaying") "failed" [] ([Sg.n, Sg.m 0, Sg.n] : List Sg) (["tool", "moment", "by"] : List Str)) := ⟨_, fdIFailed, _, [], (He.glo_ok X G (c.t.fact 92 (f := .glo "Failed") rfl)), He.mkr_ok (c.t.fact 94 (f := .mkr "Failed") rfl), (FIFailed.binds fun _ _ _ _ _ _ _ us hl => match us, hl with | [_, _, _, _], _ => rfl), .nil, okIFailed⟩
  have rcAgreed : RwC K (He.ga K "Agreed") (["one", "moment", "other", "later"] : List Str) := ⟨He.cls_ok (c.t.fact 104 (f := .cls "Agreed") rfl), He.noat_ok (c.t.fact 106 (f := .noat "Agreed" "kind") rfl), He.noat_ok (c.t.fact 107 (f := .noat "Agreed" "words") rfl), He.noat_ok (c.t.fact 108 (f := .noat "Agreed" "named") rfl), He.noat_ok (c.t.fact 109 (f := .noat "Agreed" "told_at") rfl), fun f hf => by
    simp only [List.mem_cons, List.not_mem_nil, or_false] at hf
    rcases hf with rfl | rfl | rfl | rfl
    · exact He.noat_ok (c.t.fact 110 (f := .noat "Agreed" "one") rfl)
    · exact He.noat_ok (c.t.fact 111 (f := .noat "Agreed" "moment") rfl)
    · exact He.noat_ok (c.t.fact 112 (f := .noat "Agreed" "other") rfl)
    · exact He.noat_ok (c.t.fact 113 (f := .noat "Agreed" "later") rfl)⟩
  obtain ⟨fdIAgreed, FIAgreed⟩ : ∃ fd, SupD P K "__init__" "Agreed.__init__" sAgreedI (He.ga K "Agreed") (He.ma K (He.ga K "Agreed") "__init__") fd := DefS.sup hfile (sq (dsL.getD 7 default) (List.mem_of_getElem? (i := 7) rfl)) xSIAgreed
  have okMAgreed := ok_MeetingI (Cn := (He.ga K "BadName")) (Cm := (He.ga K "BadMoment")) (Cs := (He.ga K "BadSaying")) "agreed" FMt T rcAgreed hsup htop DNN DNM0 DNM1 (supB_ok xVAgreed) (ok_rowI (P := P) (w := w) (mg := mg) (base := base) FRw rcAgreed) (FRw.bindsN fun _ _ _ _ _ _ us hl => match us, hl with | [_, _, _, _, _], _ => rfl)
  have okIAgreed := ok_AgreedI FIAgreed hsup htop (supB_ok xUAgreed) okMAgreed (FMt.binds fun _ _ _ _ _ _ _ us hl => match us, hl with | [_, _, _, _, _, _], _ => rfl)
  have KAgreed : MkD P w K mg base (L2.CX P w) 5 "Agreed" (He.ga K "Agreed") [] (spRowI K (He.ga K "Agreed") (He.ga K "BadName") (He.ga K "BadMoment") (He.ga K "BadSaying") "agreed" [] ([Sg.n, Sg.m 0, Sg.n, Sg.m 0] : List Sg) (["one", "moment", "other", "later"] : List Str)) := ⟨_, fdIAgreed, _, [], (He.glo_ok X G (c.t.fact 103 (f := .glo "Agreed") rfl)), He.mkr_ok (c.t.fact 105 (f := .mkr "Agreed") rfl), (FIAgreed.binds fun _ _ _ _ _ _ _ us hl => match us, hl with | [_, _, _, _, _], _ => rfl), .nil, okIAgreed⟩
  have rcDiffered : RwC K (He.ga K "Differed") (["one", "moment", "other", "later"] : List Str) := ⟨He.cls_ok (c.t.fact 116 (f := .cls "Differed") rfl), He.noat_ok (c.t.fact 118 (f := .noat "Differed" "kind") rfl), He.noat_ok (c.t.fact 119 (f := .noat "Differed" "words") rfl), He.noat_ok (c.t.fact 120 (f := .noat "Differed" "named") rfl), He.noat_ok (c.t.fact 121 (f := .noat "Differed" "told_at") rfl), fun f hf => by
    simp only [List.mem_cons, List.not_mem_nil, or_false] at hf
    rcases hf with rfl | rfl | rfl | rfl
    · exact He.noat_ok (c.t.fact 122 (f := .noat "Differed" "one") rfl)
    · exact He.noat_ok (c.t.fact 123 (f := .noat "Differed" "moment") rfl)
    · exact He.noat_ok (c.t.fact 124 (f := .noat "Differed" "other") rfl)
    · exact He.noat_ok (c.t.fact 125 (f := .noat "Differed" "later") rfl)⟩
  obtain ⟨fdIDiffered, FIDiffered⟩ : ∃ fd, SupD P K "__init__" "Differed.__init__" sDifferedI (He.ga K "Differed") (He.ma K (He.ga K "Differed") "__init__") fd := DefS.sup hfile (sq (dsL.getD 8 default) (List.mem_of_getElem? (i := 8) rfl)) xSIDiffered
  have okMDiffered := ok_MeetingI (Cn := (He.ga K "BadName")) (Cm := (He.ga K "BadMoment")) (Cs := (He.ga K "BadSaying")) "differed" FMt T rcDiffered hsup htop DNN DNM0 DNM1 (supB_ok xVDiffered) (ok_rowI (P := P) (w := w) (mg := mg) (base := base) FRw rcDiffered) (FRw.bindsN fun _ _ _ _ _ _ us hl => match us, hl with | [_, _, _, _, _], _ => rfl)
  have okIDiffered := ok_DifferedI FIDiffered hsup htop (supB_ok xUDiffered) okMDiffered (FMt.binds fun _ _ _ _ _ _ _ us hl => match us, hl with | [_, _, _, _, _, _], _ => rfl)
  have KDiffered : MkD P w K mg base (L2.CX P w) 5 "Differed" (He.ga K "Differed") [] (spRowI K (He.ga K "Differed") (He.ga K "BadName") (He.ga K "BadMoment") (He.ga K "BadSaying") "differed" [] ([Sg.n, Sg.m 0, Sg.n, Sg.m 0] : List Sg) (["one", "moment", "other", "later"] : List Str)) := ⟨_, fdIDiffered, _, [], (He.glo_ok X G (c.t.fact 115 (f := .glo "Differed") rfl)), He.mkr_ok (c.t.fact 117 (f := .mkr "Differed") rfl), (FIDiffered.binds fun _ _ _ _ _ _ _ us hl => match us, hl with | [_, _, _, _, _], _ => rfl), .nil, okIDiffered⟩
  have rcServed : RwC K (He.ga K "Served") (["one", "moment", "other", "later"] : List Str) := ⟨He.cls_ok (c.t.fact 128 (f := .cls "Served") rfl), He.noat_ok (c.t.fact 130 (f := .noat "Served" "kind") rfl), He.noat_ok (c.t.fact 131 (f := .noat "Served" "words") rfl), He.noat_ok (c.t.fact 132 (f := .noat "Served" "named") rfl), He.noat_ok (c.t.fact 133 (f := .noat "Served" "told_at") rfl), fun f hf => by
    simp only [List.mem_cons, List.not_mem_nil, or_false] at hf
    rcases hf with rfl | rfl | rfl | rfl
    · exact He.noat_ok (c.t.fact 134 (f := .noat "Served" "one") rfl)
    · exact He.noat_ok (c.t.fact 135 (f := .noat "Served" "moment") rfl)
    · exact He.noat_ok (c.t.fact 136 (f := .noat "Served" "other") rfl)
    · exact He.noat_ok (c.t.fact 137 (f := .noat "Served" "later") rfl)⟩
  obtain ⟨fdIServed, FIServed⟩ : ∃ fd, SupD P K "__init__" "Served.__init__" sServedI (He.ga K "Served") (He.ma K (He.ga K "Served") "__init__") fd := DefS.sup hfile (sq (dsL.getD 9 default) (List.mem_of_getElem? (i := 9) rfl)) xSIServed
  have okMServed := ok_MeetingI (Cn := (He.ga K "BadName")) (Cm := (He.ga K "BadMoment")) (Cs := (He.ga K "BadSaying")) "served" FMt T rcServed hsup htop DNN DNM0 DNM1 (supB_ok xVServed) (ok_rowI (P := P) (w := w) (mg := mg) (base := base) FRw rcServed) (FRw.bindsN fun _ _ _ _ _ _ us hl => match us, hl with | [_, _, _, _, _], _ => rfl)
  have okIServed := ok_ServedI FIServed hsup htop (supB_ok xUServed) okMServed (FMt.binds fun _ _ _ _ _ _ _ us hl => match us, hl with | [_, _, _, _, _, _], _ => rfl)
  have KServed : MkD P w K mg base (L2.CX P w) 5 "Served" (He.ga K "Served") [] (spRowI K (He.ga K "Served") (He.ga K "BadName") (He.ga K "BadMoment") (He.ga K "BadSaying") "served" [] ([Sg.n, Sg.m 0, Sg.n, Sg.m 0] : List Sg) (["one", "moment", "other", "later"] : List Str)) := ⟨_, fdIServed, _, [], (He.glo_ok X G (c.t.fact 127 (f := .glo "Served") rfl)), He.mkr_ok (c.t.fact 129 (f := .mkr "Served") rfl), (FIServed.binds fun _ _ _ _ _ _ _ us hl => match us, hl with | [_, _, _, _, _], _ => rfl), .nil, okIServed⟩
  have rcBacked : RwC K (He.ga K "Backed") (["one", "moment", "other", "later"] : List Str) := ⟨He.cls_ok (c.t.fact 140 (f := .cls "Backed") rfl), He.noat_ok (c.t.fact 142 (f := .noat "Backed" "kind") rfl), He.noat_ok (c.t.fact 143 (f := .noat "Backed" "words") rfl), He.noat_ok (c.t.fact 144 (f := .noat "Backed" "named") rfl), He.noat_ok (c.t.fact 145 (f := .noat "Backed" "told_at") rfl), fun f hf => by
    simp only [List.mem_cons, List.not_mem_nil, or_false] at hf
    rcases hf with rfl | rfl | rfl | rfl
    · exact He.noat_ok (c.t.fact 146 (f := .noat "Backed" "one") rfl)
    · exact He.noat_ok (c.t.fact 147 (f := .noat "Backed" "moment") rfl)
    · exact He.noat_ok (c.t.fact 148 (f := .noat "Backed" "other") rfl)
    · exact He.noat_ok (c.t.fact 149 (f := .noat "Backed" "later") rfl)⟩
  obtain ⟨fdIBacked, FIBacked⟩ : ∃ fd, SupD P K "__init__" "Backed.__init__" sBackedI (He.ga K "Backed") (He.ma K (He.ga K "Backed") "__init__") fd := DefS.sup hfile (sq (dsL.getD 10 default) (List.mem_of_getElem? (i := 10) rfl)) xSIBacked
  have okMBacked := ok_MeetingI (Cn := (He.ga K "BadName")) (Cm := (He.ga K "BadMoment")) (Cs := (He.ga K "BadSaying")) "backed" FMt T rcBacked hsup htop DNN DNM0 DNM1 (supB_ok xVBacked) (ok_rowI (P := P) (w := w) (mg := mg) (base := base) FRw rcBacked) (FRw.bindsN fun _ _ _ _ _ _ us hl => match us, hl with | [_, _, _, _, _], _ => rfl)
  have okIBacked := ok_BackedI FIBacked hsup htop (supB_ok xUBacked) okMBacked (FMt.binds fun _ _ _ _ _ _ _ us hl => match us, hl with | [_, _, _, _, _, _], _ => rfl)
  have KBacked : MkD P w K mg base (L2.CX P w) 5 "Backed" (He.ga K "Backed") [] (spRowI K (He.ga K "Backed") (He.ga K "BadName") (He.ga K "BadMoment") (He.ga K "BadSaying") "backed" [] ([Sg.n, Sg.m 0, Sg.n, Sg.m 0] : List Sg) (["one", "moment", "other", "later"] : List Str)) := ⟨_, fdIBacked, _, [], (He.glo_ok X G (c.t.fact 139 (f := .glo "Backed") rfl)), He.mkr_ok (c.t.fact 141 (f := .mkr "Backed") rfl), (FIBacked.binds fun _ _ _ _ _ _ _ us hl => match us, hl with | [_, _, _, _, _], _ => rfl), .nil, okIBacked⟩
  have RK : ∀ i, i < 10 → Cls K (clsR K i) ∧ NoAttr K (clsR K i) "kind" := fun i hi => by
    rcases (by omega : i = 0 ∨ i = 1 ∨ i = 2 ∨ i = 3 ∨ i = 4 ∨ i = 5 ∨ i = 6 ∨ i = 7 ∨ i = 8 ∨ i = 9) with rfl | rfl | rfl | rfl | rfl | rfl | rfl | rfl | rfl | rfl
    · exact ⟨rcBegun.c, rcBegun.k⟩
    · exact ⟨rcSetBy.c, rcSetBy.k⟩
    · exact ⟨rcFound.c, rcFound.k⟩
    · exact ⟨rcTrusted.c, rcTrusted.k⟩
    · exact ⟨rcPassed.c, rcPassed.k⟩
    · exact ⟨rcFailed.c, rcFailed.k⟩
    · exact ⟨rcAgreed.c, rcAgreed.k⟩
    · exact ⟨rcDiffered.c, rcDiffered.k⟩
    · exact ⟨rcServed.c, rcServed.k⟩
    · exact ⟨rcBacked.c, rcBacked.k⟩
  obtain ⟨fd3, F3⟩ : ∃ fd, FnP K "_law_pen" "_law_pen" sPen [] (He.ga K "_law_pen") fd := c.t.def_ 10
  obtain ⟨fd4, F4⟩ : ∃ fd, FnP K "_law_draw" "_law_draw" sDraw [] (He.ga K "_law_draw") fd := c.t.def_ 11
  obtain ⟨fd5, F5⟩ : ∃ fd, FnP K "_law_pick" "_law_pick" sPick [] (He.ga K "_law_pick") fd := c.t.def_ 12
  have D3 : Df P w K mg base CX0 1 "_law_pen" [] (spPen K) := df_of F3 (He.glo_ok X G (c.t.fact 151 (f := .glo "_law_pen") rfl)) (ok_pen F3 T) fun _ _ _ _ _ _ us hl => match us, hl with | [_], _ => rfl
  have D4 : Df P w K mg base CX0 2 "_law_draw" [] spDraw := df_of F4 (He.glo_ok X G (c.t.fact 152 (f := .glo "_law_draw") rfl)) (ok_draw F4 T) fun _ _ _ _ _ _ us hl => match us, hl with | [_, _], _ => rfl
  have D5 : Df P w K mg base CX0 3 "_law_pick" [] (spPick K) := df_of F5 (He.glo_ok X G (c.t.fact 153 (f := .glo "_law_pick") rfl)) (ok_pick F5 T D4) fun _ _ _ _ _ _ us hl => match us, hl with | [_, _], _ => rfl
  obtain ⟨fd7, F7⟩ : ∃ fd, FnP K "_law_words" "_law_words" sWords [] (He.ga K "_law_words") fd := c.t.def_ 13
  have D7 : Df P w K mg base CX0 1 "_law_words" [] (spWords K) := df_of F7 (He.glo_ok X G (c.t.fact 154 (f := .glo "_law_words") rfl)) (ok_words F7) fun _ _ _ _ _ _ us hl => match us, hl with | [], _ => rfl
  obtain ⟨fd6, F6⟩ : ∃ fd, FnP K "_law_name" "_law_name" sName [] (He.ga K "_law_name") fd := c.t.def_ 14
  have D6 : Df P w K mg base CX0 4 "_law_name" [] spName := df_of F6 (He.glo_ok X G (c.t.fact 155 (f := .glo "_law_name") rfl)) (ok_name F6 T D5 D7) fun _ _ _ _ _ _ us hl => match us, hl with | [_], _ => rfl
  obtain ⟨fdOt, FOt⟩ : ∃ fd, FnP K "_law_odd_tick" "_law_odd_tick" sOddT [] (He.ga K "_law_odd_tick") fd := c.t.def_ 15
  have DOt : Df P w K mg base CX0 4 "_law_odd_tick" [] (spOddT K) := df_of FOt (He.glo_ok X G (c.t.fact 156 (f := .glo "_law_odd_tick") rfl)) (ok_oddT FOt D5) fun _ _ _ _ _ _ us hl => match us, hl with | [_], _ => rfl
  obtain ⟨fdOn, FOn⟩ : ∃ fd, FnP K "_law_odd_name" "_law_odd_name" sOddN [] (He.ga K "_law_odd_name") fd := c.t.def_ 16
  have DOn : Df P w K mg base CX0 4 "_law_odd_name" [] (spOddN K) := df_of FOn (He.glo_ok X G (c.t.fact 157 (f := .glo "_law_odd_name") rfl)) (ok_oddN FOn D5 D7) fun _ _ _ _ _ _ us hl => match us, hl with | [_], _ => rfl
  obtain ⟨fdTi, FTi⟩ : ∃ fd, FnP K "_law_tick" "_law_tick" sTick [] (He.ga K "_law_tick") fd := c.t.def_ 17
  have DTi : Df P w K mg base CX0 4 "_law_tick" [] spMom1 := df_of FTi (He.glo_ok X G (c.t.fact 158 (f := .glo "_law_tick") rfl)) (ok_tick FTi D4 D5) fun _ _ _ _ _ _ us hl => match us, hl with | [_], _ => rfl
  obtain ⟨fdKi, FKi⟩ : ∃ fd, FnP K "_law_kinds" "_law_kinds" sKinds [] (He.ga K "_law_kinds") fd := c.t.def_ 18
  have DKi : Df P w K mg base CX0 1 "_law_kinds" [] spKinds := df_of FKi (He.glo_ok X G (c.t.fact 159 (f := .glo "_law_kinds") rfl)) (ok_kinds FKi) fun _ _ _ _ _ _ us hl => match us, hl with | [], _ => rfl
  obtain ⟨fdDr, FDr⟩ : ∃ fd, FnP K "_law_drawn" "_law_drawn" sDrawn [] (He.ga K "_law_drawn") fd := c.t.def_ 19
  have DDr : Df P w K mg base CX0 5 "_law_drawn" [] spDrawn := df_of FDr (He.glo_ok X G (c.t.fact 160 (f := .glo "_law_drawn") rfl)) (ok_drawn FDr T D4 D5 DTi) fun _ _ _ _ _ _ us hl => match us, hl with | [_, _, _], _ => rfl
  obtain ⟨fdFo, FFo⟩ : ∃ fd, FnP K "_law_forms" "_law_forms" sForms [] (He.ga K "_law_forms") fd := c.t.def_ 20
  have DFo : Df P w K mg base CX0 1 "_law_forms" [] spForms := df_of FFo (He.glo_ok X G (c.t.fact 161 (f := .glo "_law_forms") rfl)) (ok_forms FFo) fun _ _ _ _ _ _ us hl => match us, hl with | [_], _ => rfl
  obtain ⟨fdBe, FBe⟩ : ∃ fd, FnP K "_law_bent" "_law_bent" sBent [] (He.ga K "_law_bent") fd := c.t.def_ 21
  have DBe : Df P w K mg base CX0 5 "_law_bent" [] (spBent K) := df_of FBe (He.glo_ok X G (c.t.fact 162 (f := .glo "_law_bent") rfl)) (ok_bent FBe T D4 D5 DOn DOt DFo) fun _ _ _ _ _ _ us hl => match us, hl with | [_, _, _], _ => rfl
  obtain ⟨fdMk, FMk⟩ : ∃ fd, FnP K "_law_made" "_law_made" sMade [] (He.ga K "_law_made") fd := c.t.def_ 22
  have DMk : Df P w K mg base (L2.CX P w) 7 "_law_made" [] (spMade K (clsR K) (He.ga K "BadName") (He.ga K "BadMoment") (He.ga K "BadSaying")) := df_of FMk (He.glo_ok X G (c.t.fact 163 (f := .glo "_law_made") rfl)) (ok_made (CL := clsR K) FMk T KBegun KSetBy KFound KTrusted KPassed KFailed KAgreed KDiffered KServed KBacked) fun _ _ _ _ _ _ us hl => match us, hl with | [_], _ => rfl
  obtain ⟨fdH, FH⟩ : ∃ fd, FnP K "_law_heard" "_law_heard" sHeard [] (He.ga K "_law_heard") fd := c.t.def_ 23
  obtain ⟨t0, t1, t2, k0, k1, k2, k3, k4, k5, k6, k7, k8⟩ := of_decide_eq_true xHt
  have gT := (He.glo_ok X G (c.t.fact 165 (f := .glo "TillError") rfl))
  have HG : ∀ (X : Cx) (cdg : Value) (q : Str), X.K = K → X.mg = mg → LamX.GivesTo X nHeard "_law_heard" (defScope sHeard) (He.ga K "_law_heard") cdg (defBody sHeard) "_law_ask" q (TTold (kdR (He.ga K "BadName") (He.ga K "BadMoment") (He.ga K "BadSaying"))) := fun X cdg q eqK eqM => by
    subst eqK eqM
    refine heard_givesR T gT ⟨_, gEN, rfl⟩ ⟨_, gEM, rfl⟩ ⟨_, gES, rfl⟩ hEN hEM hES (fun D hD => ?_) k0 k1 k2 k3 k4 k5 k6 k7 k8
    simp only [List.mem_cons, List.not_mem_nil, or_false] at hD
    rcases hD with rfl | rfl | rfl
    · exact t0
    · exact t1
    · exact t2
  exact ok_law FL T (smB_ok xSm) RK D3 D6 DKi DDr DBe DMk FH (He.glo_ok X G (c.t.fact 164 (f := .glo "_law_heard") rfl)) (FH.bindsN fun _ _ _ _ _ _ us hl => match us, hl with | [_], _ => rfl) HG TB


end Q
open PySem PySem.W PySem.Calls PyProof.Rows
theorem PySem.Challenge.cw_soundtill_k12_rows_refused_holds : PySem.Challenge.rw_soundtill_k12_rows_refused.Holds := by
  w_on; o_law
  refine HandSHeadRun.head_any (r := OpenLaw.row PySem.Challenge.rw_soundtill_k12_rows_refused) (q := view (OpenLaw.row PySem.Challenge.rw_soundtill_k12_rows_refused).prog [61]) (H := Q.hkL) (ob := Q.obL) (M := 12000) (loose := (("_wall" : PySem.Str) :: ("__name__" : PySem.Str) :: ("TillError" : PySem.Str) :: ("BadName" : PySem.Str) :: ("BadMoment" : PySem.Str) :: ("BadSaying" : PySem.Str) :: ("NoTool" : PySem.Str) :: ("BadText" : PySem.Str) :: ("RESERVED" : PySem.Str) :: ("LETTERS" : PySem.Str) :: ("FIGURES" : PySem.Str) :: ("MOST_SIGNS" : PySem.Str) :: ("MOST_FIGURES" : PySem.Str) :: ("MOST_MOMENT" : PySem.Str) :: ("is_integer" : PySem.Str) :: ("is_moment" : PySem.Str) :: ("is_name" : PySem.Str) :: ("moment_in" : PySem.Str) :: ("TRUTHS" : PySem.Str) :: ("MANY_WORDS" : PySem.Str) :: ("Saying" : PySem.Str) :: ("FORMS" : PySem.Str) :: ("BEGINNINGS" : PySem.Str) :: ("need_name" : PySem.Str) :: ("need_moment" : PySem.Str) :: ("Row" : PySem.Str) :: ("Beginning" : PySem.Str) :: ("Check" : PySem.Str) :: ("Meeting" : PySem.Str) :: ("Begun" : PySem.Str) :: ("SetBy" : PySem.Str) :: ("Found" : PySem.Str) :: ("Trusted" : PySem.Str) :: ("Passed" : PySem.Str) :: ("Failed" : PySem.Str) :: ("Agreed" : PySem.Str) :: ("Differed" : PySem.Str) :: ("Served" : PySem.Str) :: ("Backed" : PySem.Str) :: ("made_meeting" : PySem.Str) :: ("made_row" : PySem.Str) :: ("fits" : PySem.Str) :: ("row_in" : PySem.Str) :: ("_law_pen" : PySem.Str) :: ("_law_draw" : PySem.Str) :: ("_law_pick" : PySem.Str) :: ("_law_words" : PySem.Str) :: ("_law_name" : PySem.Str) :: ("_law_odd_name" : PySem.Str) :: ("_law_odd_tick" : PySem.Str) :: ("_law_tick" : PySem.Str) :: ("_law_kinds" : PySem.Str) :: ("_law_drawn" : PySem.Str) :: ("_law_made" : PySem.Str) :: ("_law_heard" : PySem.Str) :: ("_law_forms" : PySem.Str) :: ("_law_bent" : PySem.Str) :: [])) (d := HandSHeadRun.topDef (OpenLaw.row PySem.Challenge.rw_soundtill_k12_rows_refused).prog 61) (kwd := []) Q.obL_eq
    (by kernel_rfl) (fun s => by kernel_rfl) Q.runL (by kernel_rfl) (by kernel_rfl) (by kernel_rfl) (by rfl) (by first | assumption | decide +kernel) (by decide +kernel) ⟨rfl, rfl, rfl, rfl, rfl, by decide +kernel⟩ ?hw ?hc
  case hw => w_witness2
  case hc =>
    refine Q.walk_ofAT (l := PySem.Challenge.rw_soundtill_k12_rows_refused) (n := 63) (k := 12) (x := "_law_script") (CX := L2.CX0) rfl (by decide) (by kernel_rfl) ⟨rfl, by decide, by decide⟩ ?F (fun _ _ _ _ z => z)
    intro w mg fa h Y G hmg0
    obtain ⟨K, KX, ⟨c, dq⟩, sq⟩ := Y
    have hmg : mg ("law" : PySem.Str) = some (.ref fa) := by
      have e : (HandSHeadRun.topDef (OpenLaw.row PySem.Challenge.rw_soundtill_k12_rows_refused).prog 61).name = ("law" : PySem.Str) := by kernel_rfl
      rw [← e]
      exact hmg0
    obtain ⟨ef, fd, hb, hF⟩ := Q.factsL (P := (PySem.Challenge.rw_soundtill_k12_rows_refused).prog) (w := w) KX G hmg c dq sq (by kernel_rfl) (by kernel_rfl)
    subst ef
    have one : ∀ {R : Addr × Addr → Prop}, R (Q.cTA K (He.ga K "law")) → ∀ p ∈ [Q.cTA K (He.ga K "law")], R p := fun r p hp => by rw [List.mem_singleton.mp hp]; exact r
    exact ⟨K, fd, [Q.cTA K (He.ga K "law")], Q.spLaw K [Q.cTA K (He.ga K "law")], KX, one (c.hd _ (List.mem_singleton.mpr rfl)), one (c.out _ (List.mem_singleton.mpr rfl)), one (c.empty _ (List.mem_singleton.mpr rfl)), hb, fun H a ns hl hO hT hS => ⟨a, ns, rfl, hS, hl, hO, hT, fun _ => rfl⟩,
      fun b0 h1 h2 h3 => hF b0 h1 h2 (h3 _ (List.mem_singleton.mpr rfl))⟩

